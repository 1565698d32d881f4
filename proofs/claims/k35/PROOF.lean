import PyProof.Rows.All
import Wide.All
import OpenK.AllK
import Wide.FinOn
import HandS.ForSpec
import HandS.ForMost
import HandS.Deep
import HandS.TupAny
import HandS.TupMul
import HandS.IsInst
import HandS.Wide
import HandS.Codes
import HandS.Zip
import HandS.Style
import HandS.Conv
import HandS.TupLe
import HandS.StrSplit
import HandS.Small
import HandS.Flow
import KE.SortData
import KE.DataMinMax
import KE.GoesMore
import HandS.ExcOwn
import HandS.ExcCtx
import KE.GoesRaise
import HandS.TupLen
import HandS.RaiseMore
import HandS.More
import KE.KDictLaws
import HandS.StrMore
import HandS.Replace
import PyProof.DictMoreH
import HandS.Steps
import HandS.CallRecv
import HandS.ExcIs
import HandS.SuiteRaise
import HandS.RaiseFrom
import HandS.HeadHook1
import HandS.HeadHook2
import HandS.HeadHook3
import HandS.HeadHook4
import HandS.TupSets
import HandS.SetFor
import HandS.Strs
import HandS.WordsExc
import HandS.Defaults
import HandS.Head0
import HandS.Head1
import HandS.Head2
import HandS.HeadEnd
import PySem.Challenge.RW_glowrow_k35_wishes_of_pictures
set_option Elab.async false
set_option linter.all false
set_option maxRecDepth 100000
set_option maxHeartbeats 4000000
namespace Gv
open PySem

/-- a dict's key: a number, a text, or a tuple of such -/
abbrev KK := Sum L2.Key (List L2.Key)
def leafK : PyData → Option L2.Key
  | .int i => some (.inl i)
  | .str z => some (.inr z)
  | _ => none
def leafD : L2.Key → PyData
  | .inl i => .int i
  | .inr z => .str z
def keyD : PyData → Option KK
  | .int i => some (.inl (.inl i))
  | .str z => some (.inl (.inr z))
  | .tuple ds => (ds.mapM leafK).map .inr
  | _ => none
def KK.d : KK → PyData
  | .inl k => leafD k
  | .inr ks => .tuple (ks.map leafD)
/-- a value: plain data, a place of the store, an exception held -/
inductive Val where
  | d (x : PyData) | ref (n : Nat) | exc (c : Nat) | scr (ns : List Int)
/-- what may change -/
inductive Cell where
  | lst (xs : List Val) | dct (tk : Bool) (kvs : List (KK × Val)) | ins (c : Nat) (fs : List (Nat × Val)) | tup (xs : List Val)
abbrev Store := List Cell
abbrev Slots := List (Option Val)
inductive R (α : Type) where
  | ok (a : α) (M : Store) | exc (c : Nat) (M : Store) | bad
def R.bind {α β : Type} (r : R α) (f : α → Store → R β) : R β :=
  match r with
  | .ok a M => f a M
  | .exc c M => .exc c M
  | .bad => .bad
@[simp] theorem R.bind_ok {α β : Type} (a : α) (M : Store) (f : α → Store → R β) : (R.ok a M).bind f = f a M := rfl
@[simp] theorem R.bind_exc {α β : Type} (c : Nat) (M : Store) (f : α → Store → R β) : (R.exc c M : R α).bind f = .exc c M := rfl
@[simp] theorem R.bind_bad {α β : Type} (f : α → Store → R β) : (R.bad : R α).bind f = .bad := rfl
def R.noexc {α : Type} (r : R α) : R α := match r with | .exc _ _ => .bad | r => r
@[simp] theorem R.noexc_ok {α : Type} (a : α) (M : Store) : (R.ok a M).noexc = .ok a M := rfl
@[simp] theorem R.noexc_bad {α : Type} : (R.bad : R α).noexc = .bad := rfl
@[simp] theorem R.noexc_exc {α : Type} (c : Nat) (M : Store) : (R.exc c M : R α).noexc = .bad := rfl
inductive SR where
  | next (s : Slots) (M : Store) | ret (v : Val) (M : Store) | exc (c : Nat) (s : Slots) (M : Store) | bad

def allD : List Val → Option (List PyData)
  | [] => some []
  | .d x :: r => (allD r).map (x :: ·)
  | _ :: _ => none
@[simp] theorem allD_map (xs : List PyData) : allD (xs.map Val.d) = some xs := by
  induction xs with
  | nil => rfl
  | cons x xs ih => simp [allD, ih]
/-- data read out of the store, from the place n0 on -/
def frz (n0 : Nat) : Nat → Store → Val → Option PyData
  | _, _, .d x => some x
  | n + 1, M, .ref a => if a < n0 then none else match M[a]? with
    | some (.lst vs) => (vs.mapM (frz n0 n M)).map PyData.list
    | some (.tup vs) => (vs.mapM (frz n0 n M)).map PyData.tuple
    | _ => none
  | _, _, _ => none
def view (M : Store) (v : Val) : Option PyData := frz 0 8 M v
@[simp] theorem view_d (M : Store) (x : PyData) : view M (.d x) = some x := rfl
/-- a list's items, all data -/
def lstD (M : Store) : Val → Option (List PyData)
  | .d (.list xs) => some xs
  | .ref a => match M[a]? with
    | some (.lst vs) => allD vs
    | _ => none
  | _ => none
def lim : Nat := 16777216
/-- a new list -/
def mkL (al : Bool) (xs : List PyData) (M : Store) : R Val :=
  if al then .ok (.ref M.length) (M ++ [.lst (xs.map .d)]) else .ok (.d (.list xs)) M
def mkLV (al : Bool) (vs : List Val) (M : Store) : R Val :=
  match allD vs with
  | some ds => mkL al ds M
  | none => .ok (.ref M.length) (M ++ [.lst vs])

/-! ### dicts, instances -/
def dGet (kvs : List (KK × Val)) (k : KK) : Option Val := (kvs.find? fun kv => decide (kv.1 = k)).map (·.2)
def dPut (kvs : List (KK × Val)) (k : KK) (v : Val) : List (KK × Val) :=
  if (kvs.any fun kv => decide (kv.1 = k)) = true then kvs.map fun kv => if kv.1 = k then (kv.1, v) else kv else kvs ++ [(k, v)]
def isTk : KK → Bool
  | .inl _ => false
  | .inr _ => true
/-- the key that data is, of the kind that the dict has -/
def keyK (tk : Bool) (d : PyData) : Option KK := match keyD d with
  | some k => if isTk k = tk then some k else none
  | none => none
def dctAt (M : Store) : Val → Option (Nat × Bool × List (KK × Val))
  | .ref a => (match M[a]? with | some (.dct tk kvs) => some (a, tk, kvs) | _ => none)
  | _ => none
/-- the fields and the methods of the text's classes, by numbers -/
def fldNames : List Str := ["frame", "now", "gone", "row_taken", "laid_rows", "met", "grounded", "lost_ones", "elder", "plan"]
def fldN (j : Nat) : Str := fldNames.getD j ""
def methNames : List Str := ["__init__", "tick", "stand", "is_over", "deed", "go", "one_tick", "note_touches", "picture", "touches", "grounds", "lost", "keep", "back", "frames", "film", "say", "plan_behind", "look"]
def methN (j : Nat) : Str := methNames.getD j ""
def putV (f : Nat) (v : Val) : List (Nat × Val) → List (Nat × Val)
  | [] => [(f, v)]
  | (g, x) :: r => if g = f then (g, v) :: r else (g, x) :: putV f v r
def insAt (M : Store) : Val → Option (Nat × Nat × List (Nat × Val))
  | .ref a => (match M[a]? with | some (.ins c fs) => some (a, c, fs) | _ => none)
  | _ => none
/-! ### operations on values -/
def mulOk (i j : Int) : Bool := (decide (-(2 ^ 64) < i) && decide (i < 2 ^ 64)) || (decide (-(2 ^ 64) < j) && decide (j < 2 ^ 64))
def bigB : Int := 2 ^ 250
/-- the code of an exception in flight: late ones, raised in an except suite, stand from 100 on -/
def bsc (c : Nat) : Nat := if c < 100 then c else c - 100
def addD (al : Bool) (M : Store) (x y : Val) : R Val :=
  match x, y with
  | .d (.int i), .d (.int j) => .ok (.d (.int (i + j))) M
  | .d (.bool a), .d (.int j) => .ok (.d (.int ((if a then 1 else 0) + j))) M
  | .d (.str a), .d (.str b) => if a.length + b.length ≤ lim then .ok (.d (.str (a ++ b))) M else .bad
  | .d (.tuple a), .d (.tuple b) => if a.length + b.length ≤ lim then .ok (.d (.tuple (a ++ b))) M else .bad
  | x, y => match lstD M x, lstD M y with
    | some a, some b => if a.length + b.length ≤ lim then mkL al (a ++ b) M else .bad
    | _, _ => .bad
def mulD (al : Bool) (M : Store) (x y : Val) : R Val :=
  match x, y with
  | .d (.int i), .d (.int j) => if mulOk i j then .ok (.d (.int (i * j))) M else .bad
  | .d (.tuple a), .d (.int k) => if !a.isEmpty && decide (2 ≤ k) && decide (k ≤ 1000) && decide (a.length ≤ 1000) then .ok (.d (.tuple (List.replicate k.toNat a).flatten)) M else .bad
  | x, .d (.int k) => match lstD M x with
    | some a => if decide (-(2 ^ 63) ≤ k) && decide (k < 2 ^ 63) && decide (a.length * k.toNat ≤ lim) then mkL al (List.replicate k.toNat a).flatten M else .bad
    | none => .bad
  | _, _ => .bad
def binD (al : Bool) (M : Store) (op : Operator) (x y : Val) : R Val :=
  match op with
  | .Add => addD al M x y
  | .Mult => mulD al M x y
  | .Sub => (match x, y with
    | .d (.int i), .d (.int j) => .ok (.d (.int (i - j))) M
    | _, _ => .bad)
  | .FloorDiv => (match x, y with
    | .d (.int i), .d (.int j) => if decide (0 < j) && decide (j < bigB) then .ok (.d (.int (i / j))) M else .bad
    | _, _ => .bad)
  | .Mod => (match x, y with
    | .d (.int i), .d (.int j) => if 0 < j then .ok (.d (.int (i % j))) M else .bad
    | _, _ => .bad)
  | .Pow => (match x, y with
    | .d (.int i), .d (.int j) => if decide (0 ≤ j) && decide (j ≤ 1000) && decide (i.natAbs ≤ 1000) then .ok (.d (.int (i ^ j.toNat))) M else .bad
    | _, _ => .bad)
  | _ => .bad
/-- data that may be compared: no dicts, at most n deep, signs of texts in their range -/
def okD : Nat → PyData → Bool
  | _, .none => true
  | _, .bool _ => true
  | _, .int _ => true
  | _, .str x => PyData.strOk x
  | n + 1, .list xs => xs.all (okD n)
  | n + 1, .tuple xs => xs.all (okD n)
  | _, _ => false
def eqD (M : Store) (x y : Val) : Option Bool :=
  match view M x, view M y with
  | some a, some b => if okD 30 a && okD 30 b then some (PyData.eqv a b) else none
  | _, _ => none
def bl (b : Bool) (M : Store) : R Val := .ok (.d (.bool b)) M
def isNone : Val → Bool
  | .d .none => true
  | _ => false
def inStr (x y : Str) : Bool := !(Builtin.Str.occurrences y x 0 y.length 1).isEmpty
def flatD : PyData → Bool
  | .none => true
  | .bool _ => true
  | .int _ => true
  | .str _ => true
  | _ => false
def eqF : PyData → PyData → Bool
  | .none, .none => true
  | .int i, .int j => decide (i = j)
  | .str a, .str b => decide (a = b)
  | .bool a, .bool b => decide (a = b)
  | .int i, .bool b => decide (i = if b then 1 else 0)
  | .bool b, .int i => decide ((if b then 1 else 0) = i)
  | _, _ => false
/-- text keys of a written dict -/
def hasK (ks : List Str) (z : Str) : Bool := ks.any fun y => decide (y = z)
def inDct (x : Val) (t : Bool) (kvs : List (KK × Val)) : Option Bool := match x with
  | .d d => (keyK t d).map fun k => (dGet kvs k).isSome
  | _ => none
def inD (M : Store) (x y : Val) : Option Bool :=
  match x, y with
  | .d (.str a), .d (.str b) => some (inStr a b)
  | .d a, .d (.tuple ds) => if flatD a && ds.all flatD then some (ds.any fun z => eqF z a) else none
  | x, .ref b => match M[b]? with
    | some (.dct t kvs) => inDct x t kvs
    | _ => match view M x, lstD M (.ref b) with
      | some a, some ds => if okD 30 a && ds.all (okD 30) then some (ds.any fun z => PyData.eqv z a) else none
      | _, _ => none
  | x, y => match view M x, lstD M y with
    | some a, some ds => if okD 30 a && ds.all (okD 30) then some (ds.any fun z => PyData.eqv z a) else none
    | _, _ => none
def cmpD (M : Store) (op : CmpOp) (x y : Val) : R Val :=
  match op with
  | .Eq => (match eqD M x y with | some b => bl b M | none => .bad)
  | .NotEq => (match eqD M x y with | some b => bl (!b) M | none => .bad)
  | .Lt => (match x, y with | .d (.int i), .d (.int j) => bl (decide (i < j)) M | .d (.str a), .d (.str b) => bl (decide (a.cps.toList < b.cps.toList)) M | _, _ => .bad)
  | .LtE => (match x, y with | .d (.int i), .d (.int j) => bl (decide (i ≤ j)) M | _, _ => .bad)
  | .Gt => (match x, y with | .d (.int i), .d (.int j) => bl (decide (j < i)) M | _, _ => .bad)
  | .GtE => (match x, y with | .d (.int i), .d (.int j) => bl (decide (j ≤ i)) M | _, _ => .bad)
  | .Is => (match x, y with
    | x, .d .none => bl (isNone x) M
    | .d (.bool a), .d (.bool b) => bl (decide (a = b)) M
    | _, _ => .bad)
  | .IsNot => (match x, y with
    | x, .d .none => bl (!isNone x) M
    | .d (.bool a), .d (.bool b) => bl (!decide (a = b)) M
    | _, _ => .bad)
  | .In => (match inD M x y with | some b => bl b M | none => .bad)
  | .NotIn => (match inD M x y with | some b => bl (!b) M | none => .bad)
def ixN (n : Nat) (i : Int) : Option Nat := if 0 ≤ i then (if i < n then some i.toNat else none) else if -(n : Int) ≤ i then some (i + n).toNat else none
def atI {α : Type} (xs : List α) (i : Int) : Option α := (ixN xs.length i).bind fun j => xs[j]?
def idxD (M : Store) (x i : Val) : R Val :=
  match x, i with
  | .d (.list xs), .d (.int i) => (match atI xs i with | some v => .ok (.d v) M | none => .bad)
  | .d (.tuple xs), .d (.int i) => (match atI xs i with | some v => .ok (.d v) M | none => .bad)
  | .d (.str z), .d (.int i) => if z.length ≤ lim then (match atI z.cps.toList i with | some c => .ok (.d (.str ⟨#[c]⟩)) M | none => .bad) else .bad
  | .ref a, .d (.int i) => (match M[a]? with
    | some (.lst vs) => (match atI vs i with | some v => .ok v M | none => .bad)
    | some (.dct false kvs) => (match dGet kvs (.inl (.inl i)) with | some v => .ok v M | none => .bad)
    | some (.tup vs) => (match atI vs i with | some v => .ok v M | none => .bad)
    | _ => .bad)
  | .ref a, .d y => (match M[a]? with
    | some (.dct t kvs) => (match keyK t y with
      | some k => (match dGet kvs k with | some v => .ok v M | none => .bad)
      | none => .bad)
    | _ => .bad)
  | _, _ => .bad
def sIx (n d : Nat) : Option Int → Nat
  | none => d
  | some v => if v < 0 then (v + (n : Int)).toNat else min v.toNat n
def cut {α : Type} (xs : List α) (lo hi : Option Int) : List α := (xs.drop (sIx xs.length 0 lo)).take (sIx xs.length xs.length hi - sIx xs.length 0 lo)
def part : Val → Option (Option Int)
  | .d .none => some none
  | .d (.int i) => some (some i)
  | _ => none
def slD (al : Bool) (M : Store) (x : Val) (lo hi : Option Int) : R Val :=
  match x with
  | .d (.tuple xs) => .ok (.d (.tuple (cut xs lo hi))) M
  | .d (.str z) => if z.length ≤ lim then .ok (.d (.str ⟨(cut z.cps.toList lo hi).toArray⟩)) M else .bad
  | x => match lstD M x with
    | some xs => mkL al (cut xs lo hi) M
    | none => .bad
def revD (al : Bool) (M : Store) (x : Val) : R Val :=
  match x with
  | .d (.tuple xs) => .ok (.d (.tuple xs.reverse)) M
  | x => match lstD M x with | some xs => mkL al xs.reverse M | none => .bad
inductive Ty where
  | int | bool | str | list | tuple | none_ | verr | cls (c : Nat)
  deriving DecidableEq
def tyD (M : Store) : Val → Option Ty
  | .d .none => some .none_
  | .d (.bool _) => some .bool
  | .d (.int _) => some .int
  | .d (.str _) => some .str
  | .d (.list _) => some .list
  | .d (.tuple _) => some .tuple
  | .ref a => match M[a]? with
    | some (.lst _) => some .list
    | some (.tup _) => some .tuple
    | _ => none
  | _ => none
def plainTy : Ty → Bool
  | .verr => false
  | .none_ => false
  | .cls _ => false
  | _ => true
def isiD (sub : Nat → Nat → Option Bool) (M : Store) (v : Val) (t : Ty) : Option Bool :=
  match v, t with
  | .exc c, .cls k => sub c k
  | .exc c, .verr => (sub c c).bind fun _ => some true
  | v, t => if plainTy t then (tyD M v).map fun u => decide (u = t) || (decide (t = .int) && decide (u = .bool)) else none
inductive Bf where
  | len | list | tuple | int | min2 | max2 | all | divmod | max1 | min1 | sorted | str | lenset | sortset
def lenD (M : Store) : Val → Option Nat
  | .d (.list xs) => some xs.length
  | .d (.tuple xs) => some xs.length
  | .d (.str x) => if x.length ≤ lim then some x.length else none
  | .ref a => match M[a]? with
    | some (.lst vs) => some vs.length
    | some (.dct _ kvs) => some kvs.length
    | _ => none
  | _ => none
/-! ### the order of data of one form -/
def tupH : PyData → Bool
  | .tuple (_ :: _) => true
  | _ => false
def othH : PyData → Bool
  | .none => false
  | .tuple _ => false
  | _ => true
def alikeL (ds : List PyData) : Bool := ds.all fun a => ds.all fun b => PySem.W.alike a b
def sortOk (ds : List PyData) : Bool := alikeL ds && (ds.all tupH || ds.all othH)
def sortD (xs : List PyData) : List PyData := xs.mergeSort (PySem.W.dataLe false id)
def maxD : List PyData → Option PyData
  | [] => none
  | x :: xs => some (PySem.W.maxD x xs)
def minD : List PyData → Option PyData
  | [] => none
  | x :: xs => some (PySem.W.minD x xs)
def keysOf (M : Store) : Val → Option (List PyData)
  | .ref a => (match M[a]? with
    | some (.lst vs) => allD vs
    | some (.dct _ kvs) => some (kvs.map fun p => KK.d p.1)
    | _ => none)
  | v => lstD M v
def allI : List PyData → Option (List Int)
  | [] => some []
  | .int i :: r => (allI r).map (i :: ·)
  | _ :: _ => none
def allT : List PyData → Option (List Str)
  | [] => some []
  | .str i :: r => (allT r).map (i :: ·)
  | _ :: _ => none
def allB : List PyData → Option (List Bool)
  | [] => some []
  | .bool b :: r => (allB r).map (b :: ·)
  | _ :: _ => none
def biLen (vs : List Val) (M : Store) : R Val := match vs with
  | [x] => (match lenD M x with | some n => .ok (.d (.int n)) M | none => .bad)
  | _ => .bad
def biList (al : Bool) (vs : List Val) (M : Store) : R Val := match vs with
  | [.d (.tuple xs)] => mkL al xs M
  | [.scr ns] => if ns.length ≤ lim then mkL al (ns.map .int) M else .bad
  | [.d (.str z)] => if z.length ≤ lim then mkL al (z.cps.toList.map fun c => .str ⟨#[c]⟩) M else .bad
  | [x] => (match lstD M x with | some xs => mkL al xs M | none => .bad)
  | _ => .bad
def biTuple (vs : List Val) (M : Store) : R Val := match vs with
  | [.d (.tuple xs)] => .ok (.d (.tuple xs)) M
  | [x] => (match lstD M x with | some xs => .ok (.d (.tuple xs)) M | none => .bad)
  | _ => .bad
def biInt (vs : List Val) (M : Store) : R Val := match vs with
  | [.d (.int i)] => .ok (.d (.int i)) M
  | [.d (.bool b)] => .ok (.d (.int (if b then 1 else 0))) M
  | [.d (.str z)] => (match PySem.intText? z with | some n => if z.length ≤ 640 then .ok (.d (.int n)) M else .bad | none => .bad)
  | _ => .bad
def biMin (vs : List Val) (M : Store) : R Val := match vs with
  | [.d (.int i), .d (.int j)] => .ok (.d (.int (if j < i then j else i))) M
  | _ => .bad
def biMax (vs : List Val) (M : Store) : R Val := match vs with
  | [.d (.int i), .d (.int j)] => .ok (.d (.int (if j > i then j else i))) M
  | _ => .bad
def biAll (vs : List Val) (M : Store) : R Val := match vs with
  | [x] => (match (lstD M x).bind allB with | some bs => bl (bs.all id) M | none => .bad)
  | _ => .bad
def biDivmod (vs : List Val) (M : Store) : R Val := match vs with
  | [.d (.int i), .d (.int j)] => if decide (0 < j) && decide (j < 1073741824) then .ok (.d (.tuple [.int (i / j), .int (i % j)])) M else .bad
  | _ => .bad
def biMax1 (vs : List Val) (M : Store) : R Val := match vs with
  | [x] => (match lstD M x with
    | some ds => if sortOk ds && ds.all (okD 30) then (match maxD ds with | some d => .ok (.d d) M | none => .bad) else .bad
    | none => .bad)
  | _ => .bad
def biMin1 (vs : List Val) (M : Store) : R Val := match vs with
  | [x] => (match lstD M x with
    | some ds => if sortOk ds && ds.all (okD 30) then (match minD ds with | some d => .ok (.d d) M | none => .bad) else .bad
    | none => .bad)
  | _ => .bad
def biSorted (al : Bool) (vs : List Val) (M : Store) : R Val := match vs with
  | [x] => (match keysOf M x with
    | some ds => if sortOk ds && ds.all (okD 30) then mkL al (sortD ds) M else .bad
    | none => .bad)
  | _ => .bad
def biStr (vs : List Val) (M : Store) : R Val := match vs with
  | [.d (.int i)] => if i.natAbs.log2 < 1920 then .ok (.d (.str (toString i : String))) M else .bad
  | [.d (.str z)] => .ok (.d (.str z)) M
  | [.d .none] => .ok (.d (.str "None")) M
  | _ => .bad
def biLenset (vs : List Val) (M : Store) : R Val := match vs with
  | [x] => (match (lstD M x).bind allI with
    | some ns => if ns.length ≤ 1000 then .ok (.d (.int (ns.eraseDups.length : Nat))) M else .bad
    | none => .bad)
  | _ => .bad
/-- rows of whole numbers, none empty -/
def allR : List PyData → Option (List (List Int))
  | [] => some []
  | .tuple xs :: r => (allI xs).bind fun ns => if ns.isEmpty then none else (allR r).map (ns :: ·)
  | _ :: _ => none
def rowD (ns : List Int) : PyData := .tuple (ns.map .int)
def biSortset (al : Bool) (vs : List Val) (M : Store) : R Val := match vs with
  | [x] => (match (lstD M x).bind allR with
    | some rows => if rows.length ≤ 2000 then mkL al (sortD (rows.eraseDups.map rowD)) M else .bad
    | none => .bad)
  | _ => .bad
def biD (al : Bool) (f : Bf) (vs : List Val) (M : Store) : R Val :=
  match f with
  | .len => biLen vs M
  | .list => biList al vs M
  | .tuple => biTuple vs M
  | .int => biInt vs M
  | .min2 => biMin vs M
  | .max2 => biMax vs M
  | .all => biAll vs M
  | .divmod => biDivmod vs M
  | .max1 => biMax1 vs M
  | .min1 => biMin1 vs M
  | .sorted => biSorted al vs M
  | .str => biStr vs M
  | .lenset => biLenset vs M
  | .sortset => biSortset al vs M

/-! ### methods of lists -/
inductive Mt where
  | clear | extend | pop | popAt | insert | index | count | split | join | sindex | setdefault | get2
inductive Mk where
  | l | s | d
def mtK : Mt → Mk
  | .split => .s | .join => .s | .sindex => .s | .setdefault => .d | .get2 => .d | _ => .l
def itemsV (M : Store) : Val → Option (List Val)
  | .d (.list xs) => some (xs.map .d)
  | .ref b => (match M[b]? with | some (.lst vs) => some vs | _ => none)
  | _ => none
def findE (d : PyData) : List PyData → Option Nat
  | [] => none
  | x :: xs => if PyData.eqv x d then some 0 else (findE d xs).map (· + 1)
def mtL (m : Mt) (a : Nat) (ls : List Val) (vs : List Val) (M : Store) : R Val :=
  match m, vs with
  | .clear, [] => .ok (.d .none) (M.set a (.lst []))
  | .extend, [v] => (match itemsV M v with
    | some zs => if ls.length + zs.length ≤ lim then .ok (.d .none) (M.set a (.lst (ls ++ zs))) else .bad
    | none => .bad)
  | .pop, [] => (match ls[ls.length - 1]? with | some v => .ok v (M.set a (.lst ls.dropLast)) | none => .bad)
  | .popAt, [.d (.int i)] => if decide (-(2 ^ 62) ≤ i) && decide (i < 2 ^ 62) then (match ixN ls.length i with
    | some k => (match ls[k]? with | some v => .ok v (M.set a (.lst (ls.eraseIdx k))) | none => .bad)
    | none => .bad) else .bad
  | .insert, [.d (.int i), v] => if decide (0 ≤ i) && decide (i < 2 ^ 62) && decide (ls.length < lim) then .ok (.d .none) (M.set a (.lst (ls.take i.toNat ++ [v] ++ ls.drop i.toNat))) else .bad
  | _, _ => .bad
def mtDct (m : Mt) (a : Nat) (t : Bool) (kvs : List (KK × Val)) (vs : List Val) (M : Store) : R Val :=
  match m, vs with
  | .setdefault, [.d d, v] => (match keyK t d with
    | some k => (match dGet kvs k with
      | some w => .ok w M
      | none => if kvs.length < lim then .ok v (M.set a (.dct t (dPut kvs k v))) else .bad)
    | none => .bad)
  | .get2, [.d d, v] => (match keyK t d with
    | some k => .ok ((dGet kvs k).getD v) M
    | none => .bad)
  | _, _ => .bad
def mtStr (al : Bool) (m : Mt) (z : Str) (vs : List Val) (M : Store) : R Val :=
  match m, vs with
  | .split, [.d (.str b)] => if b.length ≠ 0 ∧ z.length + 2 ≤ lim then mkL al ((Txt.split z b).map .str) M else .bad
  | .join, [x] => (match (lstD M x).bind allT with
    | some ys => if (ys.map Str.length).sum + ys.length * z.length ≤ 1000000 then .ok (.d (.str (Txt.join z ys))) M else .bad
    | none => .bad)
  | .sindex, [.d (.str b)] => (match Builtin.Str.occurrences z b 0 z.length 1 with
    | j :: _ => .ok (.d (.int (j : Nat))) M
    | [] => .bad)
  | _, _ => .bad
def mtDL (m : Mt) (x : Val) (vs : List Val) (M : Store) : R Val :=
  match m, vs with
  | .count, [y] => (match lstD M x, view M y with
    | some ds, some d => if okD 30 d && ds.all (okD 30) then .ok (.d (.int ((ds.countP fun z => PyData.eqv z d : Nat) : Int))) M else .bad
    | _, _ => .bad)
  | .index, [y] => (match lstD M x, view M y with
    | some ds, some d => if okD 30 d && ds.all (okD 30) then (match findE d ds with | some j => .ok (.d (.int (j : Nat))) M | none => .bad) else .bad
    | _, _ => .bad)
  | m, vs => (match x with
    | .ref a => (match M[a]? with | some (.lst ls) => mtL m a ls vs M | _ => .bad)
    | _ => .bad)
def mtD (al : Bool) (m : Mt) (x : Val) (vs : List Val) (M : Store) : R Val :=
  match mtK m with
  | .l => mtDL m x vs M
  | .s => (match x with | .d (.str z) => mtStr al m z vs M | _ => .bad)
  | .d => (match dctAt M x with | some (a, t, kvs) => mtDct m a t kvs vs M | none => .bad)
def isLst (M : Store) : Val → Bool
  | .d (.list _) => true
  | .ref a => (match M[a]? with | some (.lst _) => true | _ => false)
  | _ => false
def isStr : Val → Bool
  | .d (.str _) => true
  | _ => false
/-- what a method's receiver must be -/
def rcv (M : Store) (m : Mt) (x : Val) : Bool := match mtK m with
  | .l => isLst M x
  | .s => isStr x
  | .d => (dctAt M x).isSome
def truV (M : Store) : Val → Option Bool
  | .d .none => some false
  | .d (.bool b) => some b
  | .d (.str z) => if z.length ≤ lim then some (z.length != 0) else none
  | .d (.tuple xs) => some (!xs.isEmpty)
  | .d (.list xs) => some (!xs.isEmpty)
  | .ref a => (match M[a]? with | some (.lst xs) => some (!xs.isEmpty) | _ => none)
  | _ => none
def pairUp : List Val → Option (List (KK × Val))
  | [] => some []
  | .d k :: v :: r => (keyK false k).bind fun k' => (pairUp r).map ((k', v) :: ·)
  | _ => none
def mergeD (kvs : List (KK × Val)) : List (KK × Val) := kvs.foldl (fun acc kv => dPut acc kv.1 kv.2) []
def dctFin (n : Nat) (tk : Bool) (vs : List Val) (M : Store) : R Val := match M[n]?, pairUp vs with
  | some (.dct t []), some kvs => if decide (t = tk) && decide (kvs.length ≤ 15) && (!tk || kvs.isEmpty) then .ok (.ref n) (M.set n (.dct tk (mergeD kvs))) else .bad
  | _, _ => .bad
/-! ### the small language -/
inductive Tg where
  | one (i : Nat) | many (is : List Nat)
inductive IE where
  | lit (x : PyData) | var (i : Nat) | toI (a : IE)
  | bin (al : Bool) (op : Operator) (a b : IE) | neg (a : IE) | not (a : IE) | and (a b : IE) | or (a b : IE)
  | cmp (op : CmpOp) (a b : IE) | chain (op op' : CmpOp) (a b c : IE) | chain3 (op op' op'' : CmpOp) (a b c d : IE) | ifx (c a b : IE)
  | tup (es : List IE) | lst (al : Bool) (es : List IE)
  | idx (a i : IE) | sl (al : Bool) (a lo hi : IE) | rev (al : Bool) (a : IE)
  | bi (al : Bool) (f : Bf) (es : List IE) | isi (a : IE) (t : Ty) | call (f : Nat) (es : List IE)
  | lc (al : Bool) (own : List Nat) (tg : Tg) (it cond elt : IE)
  | seq (a : IE) | rng (es : List IE) | enum (a : IE) | zip (a b : IE) | cseq (en : Bool) (a : IE) | lrng (al : Bool) (es : List IE) | trng (es : List IE) | mt (al : Bool) (m : Mt) (o : IE) (es : List IE)
  | dct (tk : Bool) (es : List IE) | attr (o : IE) (f : Nat) | meth (m : Nat) (o : IE) (es : List IE) | make (c : Nat) (es : List IE)
  | orT (a b : IE) | gin (neg : Bool) (ks : List Str) (a : IE) | gget (kvs : List (Str × PyData)) (a : IE)
inductive IS where
  | expr (e : IE) | asg (tg : Tg) (e : IE) | setix (o i e : IE) | app (o e : IE)
  | ret (e : IE) | ite (c : IE) (t e : List IS) | forr (tg : Tg) (it : IE) (b : List IS) (kl : List Nat) | whil (c : IE) (b : List IS) (kl : List Nat)
  | pass | rais (c : Nat) | tryas (b : List IS) (c : Nat) (i : Nat) (j : Nat) | tryr (b : List IS) (c : Nat) (d : Nat)
  | aug (i : Nat) (op : Operator) (e : IE) | setat (o : IE) (f : Nat) (e : IE) | augat (o : IE) (f : Nat) (op : Operator) (e : IE)
  | unpat (o q : IE) (f g : Nat) (e : IE) | par (i j : Nat) (a b : IE) | setsl (o lo hi e : IE)
structure Fn where
  ps : Nat
  n : Nat
  body : List IS
  keep : Bool := false
structure FEnv where
  call : Nat → List Val → Store → R Val
  call0 : Nat → List Val → Store → R Val
  sub : Nat → Nat → Option Bool
  meth : Nat → Nat → Option Nat

def setAll : List Nat → List Val → Slots → Option Slots
  | [], [], s => some s
  | i :: is, v :: vs, s => setAll is vs (s.set i (some v))
  | _, _, _ => none
def asgT (tg : Tg) (v : Val) (s : Slots) : Option Slots :=
  match tg with
  | .one i => some (s.set i (some v))
  | .many is => (match v with
    | .d (.tuple xs) => setAll is (xs.map .d) s
    | _ => none)
def wipe (s : Slots) : List Nat → Slots
  | [] => s
  | v :: vs => (wipe s vs).set v none
def Val.shift (k : Nat) : Val → Val
  | .ref n => .ref (n + k)
  | v => v
def Cell.shift (k : Nat) : Cell → Cell
  | .lst vs => .lst (vs.map (Val.shift k))
  | .dct tk kvs => .dct tk (kvs.map fun p => (p.1, p.2.shift k))
  | .ins c fs => .ins c (fs.map fun p => (p.1, p.2.shift k))
  | .tup vs => .tup (vs.map (Val.shift k))
def callV (F : FEnv) (f : Nat) (vs : List Val) (M : Store) : R Val :=
  match allD vs with
  | some _ => (match F.call f vs [] with
    | .ok v M' => .ok (v.shift M.length) (M ++ M'.map (Cell.shift M.length))
    | .exc c _ => .exc c M
    | .bad => .bad)
  | none => F.call f vs M
def upTo (i : Int) (n : Nat) : List Val := (List.range n).map fun (k : Nat) => .d (.int (i + (k : Int)))
def rngD (vs : List Val) : Option (List Val) :=
  match vs with
  | [.d (.int j)] => if decide (j < 2 ^ 24) && decide (-(2 ^ 62) ≤ j) then some (upTo 0 j.toNat) else none
  | [.d (.int i), .d (.int j)] => if decide (-(2 ^ 62) ≤ i) && decide (i < 2 ^ 62) && decide (-(2 ^ 62) ≤ j) && decide (j < 2 ^ 62) && decide (j - i < 2 ^ 24) then some (upTo i (j - i).toNat) else none
  | [.d (.int i), .d (.int j), .d (.int k)] => if decide (k = -1) && decide (-(2 ^ 24) ≤ i) && decide (i < 2 ^ 24) && decide (-(2 ^ 24) ≤ j) && decide (j < 2 ^ 24) && decide (i - j < 2 ^ 24) then some ((List.range (i - j).toNat).map fun (n : Nat) => .d (.int (i - (n : Int)))) else none
  | _ => none
def seqD : Val → Option (List Val)
  | .d (.list xs) => some (xs.map .d)
  | .d (.tuple xs) => some (xs.map .d)
  | .d (.str z) => if z.length ≤ lim then some (z.cps.toList.map fun c => .d (.str ⟨#[c]⟩)) else none
  | _ => none
def enumD : Val → Option (List Val)
  | .d (.list xs) => some ((List.range xs.length).zipWith (fun (k : Nat) x => Val.d (.tuple [.int (k : Int), x])) xs)
  | .d (.tuple xs) => some ((List.range xs.length).zipWith (fun (k : Nat) x => Val.d (.tuple [.int (k : Int), x])) xs)
  | _ => none
def zipD : Val → Val → Option (List Val)
  | .d (.list xs), .d (.list ys) => some (xs.zipWith (fun x y => Val.d (.tuple [x, y])) ys)
  | .d (.tuple xs), .d (.tuple ys) => some (xs.zipWith (fun x y => Val.d (.tuple [x, y])) ys)
  | _, _ => none
/-- what is walked: items, or a list that may change -/
inductive Src where
  | vs (l : List Val) | cel (n : Nat) (en : Bool) | zc (l : List PyData) (n : Nat)
def cellAt (M : Store) (n i : Nat) : Option (Option Val) := match M[n]? with
  | some (.lst vs) => some vs[i]?
  | _ => none
def enV (en : Bool) (i : Nat) (v : Val) : Option Val := if en then (match v with | .d x => some (.d (.tuple [.int (i : Int), x])) | _ => none) else some v
/-- a walked item to its target; a pair of enumerate over what may change, taken apart -/
def asgE (en : Bool) (i : Nat) (tg : Tg) (v : Val) (s : Slots) : Option Slots := match enV en i v with
  | some w => asgT tg w s
  | none => (match tg with
    | .many [a, b] => some ((s.set a (some (.d (.int (i : Int))))).set b (some v))
    | _ => none)
theorem asgE_of {en : Bool} {i : Nat} {tg : Tg} {v w : Val} {s : Slots} (h : enV en i v = some w) : asgE en i tg v s = asgT tg w s := by
  unfold asgE
  rw [h]
def zipS (M : Store) (v w : Val) : Option Src := match zipD v w with
  | some l => some (.vs l)
  | none => (match v, w with
    | .d (.list xs), .ref n => (match M[n]? with | some (.lst _) => some (.zc xs n) | _ => none)
    | _, _ => none)
def lenCel (M : Store) (n : Nat) : Nat := match M[n]? with
  | some (.lst vs) => vs.length + 1
  | _ => 0
def srcC (en : Bool) (v : Val) (M : Store) : R Src := match v with
  | .ref n => (match M[n]? with | some (.lst _) => .ok (.cel n en) M | _ => .bad)
  | v => (match (if en then enumD v else seqD v) with | some l => .ok (.vs l) M | none => .bad)
def lcC (cond elt : Slots → Store → R Val) (tg : Tg) (s : Slots) (n : Nat) (en : Bool) : Nat → Nat → Store → R (List Val)
  | 0, _, _ => .bad
  | f + 1, i, M => match cellAt M n i with
    | none => .bad
    | some none => .ok [] M
    | some (some v) => match asgE en i tg v s with
      | none => .bad
      | some s1 => match cond s1 M with
        | .ok (.d (.bool true)) M1 => (elt s1 M1).bind fun y M2 => (lcC cond elt tg s n en f (i + 1) M2).bind fun ys M3 => .ok (y :: ys) M3
        | .ok (.d (.bool false)) M1 => lcC cond elt tg s n en f (i + 1) M1
        | _ => .bad
def lcL (cond elt : Slots → Store → R Val) (tg : Tg) (s : Slots) : List Val → Store → R (List Val)
  | [], M => .ok [] M
  | v :: vs, M => match asgT tg v s with
    | none => .bad
    | some s1 => match cond s1 M with
      | .ok (.d (.bool true)) M1 => (elt s1 M1).bind fun y M2 => (lcL cond elt tg s vs M2).bind fun ys M3 => .ok (y :: ys) M3
      | .ok (.d (.bool false)) M1 => lcL cond elt tg s vs M1
      | _ => .bad
def lcS (cond elt : Slots → Store → R Val) (tg : Tg) (s : Slots) (J : Src) (M : Store) : R (List Val) := match J with
  | .vs l => lcL cond elt tg s l M
  | .cel n en => lcC cond elt tg s n en (lenCel M n) 0 M
  | .zc _ _ => .bad
def ofOpt {α : Type} (o : Option α) (M : Store) : R α := match o with | some a => .ok a M | none => .bad
@[simp] theorem ofOpt_some {α : Type} (a : α) (M : Store) : ofOpt (some a) M = .ok a M := rfl
@[simp] theorem ofOpt_none {α : Type} (M : Store) : ofOpt (none : Option α) M = .bad := rfl
/-- two ways, by a truth -/
def brV (x : Val) (M : Store) (f g : Store → R Val) : R Val := match x with
  | .d (.bool true) => f M
  | .d (.bool false) => g M
  | _ => .bad
mutual
def evE (F : FEnv) : IE → Slots → Store → R Val
  | .lit x, _, M => .ok (.d x) M
  | .var i, s, M => (match s[i]? with | some (some v) => .ok v M | _ => .bad)
  | .bin al op a b, s, M => (evE F a s M).bind fun x M => (evE F b s M).bind fun y M => binD al M op x y
  | .neg a, s, M => (evE F a s M).bind fun x M => (match x with | .d (.int i) => .ok (.d (.int (-i))) M | _ => .bad)
  | .not a, s, M => (evE F a s M).bind fun x M => (match x with | .d (.bool b) => bl (!b) M | _ => .bad)
  | .and a b, s, M => (evE F a s M).bind fun x M => brV x M (fun M => evE F b s M) (fun M => bl false M)
  | .or a b, s, M => (evE F a s M).bind fun x M => brV x M (fun M => bl true M) (fun M => evE F b s M)
  | .cmp op a b, s, M => (evE F a s M).bind fun x M => (evE F b s M).bind fun y M => cmpD M op x y
  | .chain op op' a b c, s, M => (evE F a s M).bind fun x M => (evE F b s M).bind fun y M => (cmpD M op x y).bind fun z M => brV z M (fun M => (evE F c s M).bind fun w M => cmpD M op' y w) (fun M => bl false M)
  | .chain3 op op' op'' a b c d, s, M => (evE F a s M).bind fun x M => (evE F b s M).bind fun y M => (cmpD M op x y).bind fun z M => brV z M (fun M => (evE F c s M).bind fun w M => (cmpD M op' y w).bind fun z M => brV z M (fun M => (evE F d s M).bind fun u M => cmpD M op'' w u) (fun M => bl false M)) (fun M => bl false M)
  | .ifx c a b, s, M => (evE F c s M).bind fun x M => brV x M (fun M => evE F a s M) (fun M => evE F b s M)
  | .tup es, s, M => (evEs F es s M).bind fun vs M => (match allD vs with | some ds => .ok (.d (.tuple ds)) M | none => .ok (.ref M.length) (M ++ [.tup vs]))
  | .lst al es, s, M => (evEs F es s M).bind fun vs M => mkLV al vs M
  | .idx a i, s, M => (evE F a s M).bind fun x M => (evE F i s M).bind fun y M => idxD M x y
  | .toI a, s, M => (evE F a s M).bind fun v M => (match v with | .d (.int i) => .ok (.d (.int i)) M | _ => .bad)
  | .sl al a lo hi, s, M => (evE F a s M).bind fun x M => (evE F lo s M).bind fun l M => (ofOpt (part l) M).bind fun l M => (evE F hi s M).bind fun h M => (ofOpt (part h) M).bind fun h M => slD al M x l h
  | .rev al a, s, M => (evE F a s M).bind fun x M => revD al M x
  | .bi al f es, s, M => (evEs F es s M).bind fun vs M => biD al f vs M
  | .isi a t, s, M => (evE F a s M).bind fun x M => (match isiD F.sub M x t with
      | some b => bl b M
      | none => .bad)
  | .call f es, s, M => (evEs F es s M).bind fun vs M => callV F f vs M
  | .lc al own tg it cond elt, s, M => (evI F it s M).bind fun vs M => (lcS (evE F cond) (evE F elt) tg (wipe s own) vs M).bind fun ys M => mkLV al ys M
  | .lrng al es, s, M => (evEs F es s M).bind fun vs M => (match (rngD vs).bind allD with | some ds => mkL al ds M | none => .bad)
  | .trng es, s, M => (evEs F es s M).bind fun vs M => (match (rngD vs).bind allD with | some ds => .ok (.d (.tuple ds)) M | none => .bad)
  | .mt al m o es, s, M => (evE F o s M).bind fun x M => if rcv M m x then (evEs F es s M).bind fun vs M => mtD al m x vs M else .bad
  | .dct tk es, s, M => (evEs F es s (M ++ [.dct tk []])).bind fun vs M' => dctFin M.length tk vs M'
  | .attr o f, s, M => (evE F o s M).bind fun x M => (match insAt M x with
      | some (_, _, fs) => (match fs.lookup f with | some v => .ok v M | none => .bad)
      | none => .bad)
  | .meth m o es, s, M => (evE F o s M).bind fun x M => (match insAt M x with
      | some (a, c, _) => (match F.meth c m with
          | some f => (evEs F es s M).bind fun vs M => F.call f (.ref a :: vs) M
          | none => .bad)
      | none => .bad)
  | .make c es, s, M => (evEs F es s M).bind fun vs M => (match F.meth c 0 with
      | some f => (F.call0 f (.ref M.length :: vs) (M ++ [.ins c []])).bind fun v M' => (match v with | .d .none => .ok (.ref M.length) M' | _ => .bad)
      | none => .bad)
  | .orT a b, s, M => (evE F a s M).bind fun x M => (match truV M x with
      | some true => .ok x M
      | some false => evE F b s M
      | none => .bad)
  | .gin neg ks a, s, M => (evE F a s M).bind fun x M => (match x with | .d (.str z) => bl (if neg then !hasK ks z else hasK ks z) M | _ => .bad)
  | .gget kvs a, s, M => (evE F a s M).bind fun x M => (match x with | .d (.str z) => (match kvs.lookup z with | some d => .ok (.d d) M | none => .bad) | _ => .bad)
  | .seq _, _, _ => .bad
  | .rng _, _, _ => .bad
  | .enum _, _, _ => .bad
  | .zip _ _, _, _ => .bad
  | .cseq _ _, _, _ => .bad
def evEs (F : FEnv) : List IE → Slots → Store → R (List Val)
  | [], _, M => .ok [] M
  | e :: es, s, M => (evE F e s M).bind fun v M => (evEs F es s M).bind fun vs M => .ok (v :: vs) M
def evI (F : FEnv) : IE → Slots → Store → R Src
  | .rng es, s, M => (evEs F es s M).bind fun vs M => ofOpt ((rngD vs).map .vs) M
  | .enum a, s, M => (evE F a s M).bind fun v M => ofOpt ((enumD v).map .vs) M
  | .zip a b, s, M => (evE F a s M).bind fun v M => (evE F b s M).bind fun w M => ofOpt (zipS M v w) M
  | .seq a, s, M => (evE F a s M).bind fun v M => ofOpt ((seqD v).map .vs) M
  | .cseq en a, s, M => (evE F a s M).bind fun v M => srcC en v M
  | _, _, _ => .bad
end

def forL (body : Slots → Store → SR) (tg : Tg) (kl : List Nat) : List Val → Slots → Store → SR
  | [], s, M => .next s M
  | v :: vs, s, M => match asgT tg v s with
    | none => .bad
    | some s1 => match body s1 M with
      | .next s2 M2 => forL body tg kl vs (wipe s2 kl) M2
      | r => r
def forC (body : Slots → Store → SR) (tg : Tg) (kl : List Nat) (n : Nat) (en : Bool) : Nat → Nat → Slots → Store → SR
  | 0, _, _, _ => .bad
  | f + 1, i, s, M => match cellAt M n i with
    | none => .bad
    | some none => .next s M
    | some (some v) => match asgE en i tg v s with
      | none => .bad
      | some s1 => match body s1 M with
        | .next s2 M2 => forC body tg kl n en f (i + 1) (wipe s2 kl) M2
        | r => r
/-- a list that stays, and one that may change, side by side -/
def forZ (body : Slots → Store → SR) (tg : Tg) (kl : List Nat) (l : List PyData) (n : Nat) : Nat → Nat → Slots → Store → SR
  | 0, _, _, _ => .bad
  | f + 1, i, s, M => match cellAt M n i with
    | none => .bad
    | some none => .next s M
    | some (some v) => match l[i]? with
      | none => .next s M
      | some d => match tg with
        | .many is => (match setAll is [.d d, v] s with
          | none => .bad
          | some s1 => match body s1 M with
            | .next s2 M2 => forZ body tg kl l n f (i + 1) (wipe s2 kl) M2
            | r => r)
        | _ => .bad
def forT (body : Slots → Store → SR) (tg : Tg) (kl : List Nat) (J : Src) (s : Slots) (M : Store) : SR := match J with
  | .vs l => forL body tg kl l s M
  | .cel n en => forC body tg kl n en (lenCel M n) 0 s M
  | .zc l n => forZ body tg kl l n (l.length + 1) 0 s M
def whileL (c : Slots → Store → R Val) (body : Slots → Store → SR) (kl : List Nat) : Nat → Slots → Store → SR
  | 0, _, _ => .bad
  | n + 1, s, M => match c s M with
    | .ok (.d (.bool true)) M1 => (match body s M1 with
      | .next s2 M2 => whileL c body kl n (wipe s2 kl) M2
      | r => r)
    | .ok (.d (.bool false)) M1 => .next s M1
    | .exc k M1 => .exc k s M1
    | _ => .bad
/-- x[y] = v -/
def setD (M : Store) (x y v : Val) : R Val :=
  match x, y with
  | .ref a, .d d => (match M[a]? with
    | some (.lst vs) => (match d with
      | .int k => (match ixN vs.length k with | some j => .ok (.d .none) (M.set a (.lst (vs.set j v))) | none => .bad)
      | _ => .bad)
    | some (.dct t kvs) => (match keyK t d with
      | some k => if kvs.length < lim then .ok (.d .none) (M.set a (.dct t (dPut kvs k v))) else .bad
      | none => .bad)
    | _ => .bad)
  | _, _ => .bad
/-- x[l:h] = v, v another list -/
def setSl (M : Store) (x l h v : Val) : R Val :=
  match x, l, h with
  | .ref a, .d (.int i), .d (.int j) => (match M[a]?, v with
    | some (.lst vs), .d (.list ds) => if decide (0 ≤ i) && decide (i ≤ j) && decide (j ≤ vs.length) && decide (vs.length + ds.length ≤ lim) then .ok (.d .none) (M.set a (.lst (vs.take i.toNat ++ ds.map .d ++ vs.drop j.toNat))) else .bad
    | _, _ => .bad)
  | _, _, _ => .bad
/-- x.f = v -/
def putAt (M : Store) (x : Val) (f : Nat) (v : Val) : R Val :=
  match insAt M x with
  | some (a, c, fs) => if fs.length < 1000 then .ok (.d .none) (M.set a (.ins c (putV f v fs))) else .bad
  | none => .bad
def putAtC (M : Store) (x : Val) (c f : Nat) (v : Val) : R Val :=
  match insAt M x with
  | some (_, c', _) => if c' = c then putAt M x f v else .bad
  | none => .bad
/-- x += y -/
def augD (M : Store) (op : Operator) (x y : Val) : R Val :=
  match op, x, y with
  | .Add, .d (.int i), .d (.int j) => .ok (.d (.int (i + j))) M
  | .Add, .d (.str a), .d (.str b) => if a.length + b.length ≤ lim then .ok (.d (.str (a ++ b))) M else .bad
  | _, _, _ => .bad
def R.toS (r : R Val) (s : Slots) (f : Val → Store → SR) : SR :=
  match r with
  | .ok v M => f v M
  | .exc c M => .exc c s M
  | .bad => .bad
@[simp] theorem R.toS_ok (v : Val) (M : Store) (s : Slots) (f : Val → Store → SR) : (R.ok v M).toS s f = f v M := rfl
@[simp] theorem R.toS_exc (c : Nat) (M : Store) (s : Slots) (f : Val → Store → SR) : (R.exc c M : R Val).toS s f = .exc c s M := rfl
@[simp] theorem R.toS_bad (s : Slots) (f : Val → Store → SR) : (R.bad : R Val).toS s f = .bad := rfl
mutual
def evS (F : FEnv) (wf : Nat) : IS → Slots → Store → SR
  | .expr e, s, M => (evE F e s M).toS s fun _ M => .next s M
  | .asg tg e, s, M => (evE F e s M).toS s fun v M => (match asgT tg v s with | some s' => .next s' M | none => .bad)
  | .setix o i e, s, M => (evE F e s M).toS s fun v M => (evE F o s M).toS s fun x M => (evE F i s M).toS s fun y M => (setD M x y v).toS s fun _ M => .next s M
  | .app o e, s, M => (evE F o s M).toS s fun x M => (match x with
      | .ref a => (match M[a]? with
        | some (.lst _) => (evE F e s M).toS s fun v M => (match M[a]? with
          | some (.lst vs) => if vs.length < lim then .next s (M.set a (.lst (vs ++ [v]))) else .bad
          | _ => .bad)
        | _ => .bad)
      | _ => .bad)
  | .ret e, s, M => (evE F e s M).toS s fun v M => .ret v M
  | .ite c t e, s, M => (evE F c s M).toS s fun x M => (match x with | .d (.bool true) => evSs F wf t s M | .d (.bool false) => evSs F wf e s M | _ => .bad)
  | .forr tg it b kl, s, M => (match evI F it s M with
      | .ok vs M => forT (evSs F wf b) tg kl vs (wipe s kl) M
      | .exc c M => .exc c s M
      | .bad => .bad)
  | .whil c b kl, s, M => whileL (evE F c) (evSs F wf b) kl wf (wipe s kl) M
  | .pass, s, M => .next s M
  | .rais c, s, M => .exc c s M
  | .tryas b c i j, s, M => (match evSs F wf b s M with
      | .exc k s1 M1 => (match F.sub (bsc k) c with
        | some true => .next ((s1.set j (some (.exc (bsc k)))).set i none) M1
        | some false => .exc (bsc k + 100) s1 M1
        | none => .bad)
      | r => r)
  | .tryr b c d, s, M => (match evSs F wf b s M with
      | .exc k s1 M1 => if k < 100 then (match F.sub k c with
        | some true => .exc (d + 100) s1 M1
        | _ => .bad) else .bad
      | r => r)
  | .aug i op e, s, M => (match s[i]? with
      | some (some x) => (evE F e s M).toS s fun y M => (augD M op x y).toS s fun z M => .next (s.set i (some z)) M
      | _ => .bad)
  | .setat o f e, s, M => (evE F e s M).toS s fun v M => (evE F o s M).toS s fun x M => (putAt M x f v).toS s fun _ M => .next s M
  | .augat o f op e, s, M => (evE F o s M).toS s fun x M => (match insAt M x with
      | some (_, c, fs) => (match fs.lookup f with
        | some v => (evE F e s M).toS s fun y M => (augD M op v y).toS s fun z M => (putAtC M x c f z).toS s fun _ M => .next s M
        | none => .bad)
      | none => .bad)
  | .unpat o q f g e, s, M => (evE F e s M).toS s fun v M => (match v with
      | .d (.tuple [u, w]) => (evE F o s M).toS s fun x M => (putAt M x f (.d u)).toS s fun _ M => (evE F q s M).toS s fun y M => (putAt M y g (.d w)).toS s fun _ M => .next s M
      | _ => .bad)
  | .setsl o lo hi e, s, M => (evE F e s M).toS s fun v M => (evE F o s M).toS s fun x M => (evE F lo s M).toS s fun l M => if (part l).isSome then (evE F hi s M).toS s fun h M => (setSl M x l h v).toS s fun _ M => .next s M else .bad
  | .par i j a b, s, M => (evE F a s M).toS s fun x M => (evE F b s M).toS s fun y M => .next ((s.set i (some x)).set j (some y)) M
def evSs (F : FEnv) (wf : Nat) : List IS → Slots → Store → SR
  | [], s, M => .next s M
  | st :: r, s, M => (match evS F wf st s M with
      | .next s1 M1 => evSs F wf r s1 M1
      | x => x)
end
def below (n : Nat) : Val → Bool
  | .ref m => decide (m < n)
  | _ => true
def Cell.below (n : Nat) : Cell → Bool
  | .lst vs => vs.all (Gv.below n)
  | .dct _ kvs => kvs.all fun p => Gv.below n p.2
  | .ins _ fs => fs.all fun p => Gv.below n p.2
  | .tup vs => vs.all (Gv.below n)
/-- what leaves a def: new lists become data, new cells are forgotten, where nothing that stays holds them -/
def exitV (n0 : Nat) (v : Val) (M : Store) : R Val :=
  if (M.take n0).all (Cell.below n0) then
    (match v with
    | .ref a => if a < n0 then .ok v (M.take n0) else (match frz n0 8 M v with | some x => .ok (.d x) (M.take n0) | none => .ok v M)
    | v => .ok v (M.take n0))
  else .ok v M
def exitX (n0 : Nat) (c : Nat) (M : Store) : R Val :=
  if (M.take n0).all (Cell.below n0) then .exc c (M.take n0) else .exc c M
def fin (n0 : Nat) : SR → R Val
  | .next _ M => exitV n0 (.d .none) M
  | .ret v M => exitV n0 v M
  | .exc c _ M => exitX n0 c M
  | .bad => .bad
def finK : SR → R Val
  | .next _ M => .ok (.d .none) M
  | .ret v M => .ok v M
  | .exc c _ M => .exc c M
  | .bad => .bad
def finB (kp : Bool) (n0 : Nat) (x : SR) : R Val := if kp then finK x else fin n0 x
def enter (fn : Fn) (vs : List Val) : Slots := vs.map some ++ List.replicate (fn.n - vs.length) none
/-- what the text has: its defs, which class is under which, the classes' methods -/
structure Tab where
  fn : List Fn
  sub : Nat → Nat → Option Bool
  meth : Nat → Nat → Option Nat
def call1 (T : Tab) (wf : Nat) (g h : Nat → List Val → Store → R Val) (f : Nat) (vs : List Val) (M : Store) : R Val := match T.fn[f]? with
  | none => .bad
  | some fn => if vs.length = fn.ps then finB fn.keep M.length (evSs ⟨g, h, T.sub, T.meth⟩ wf fn.body (enter fn vs) M) else .bad
def noF : Nat → List Val → Store → R Val := fun _ _ _ => .bad
/-- with k + 1 calls in one another, with k -/
def callP (T : Tab) (wf : Nat) : Nat → (Nat → List Val → Store → R Val) × (Nat → List Val → Store → R Val)
  | 0 => (noF, noF)
  | 1 => (noF, noF)
  | k + 2 => (call1 T wf (callP T wf (k + 1)).1 (callP T wf (k + 1)).2, (callP T wf (k + 1)).1)
def callF (T : Tab) (wf k : Nat) : Nat → List Val → Store → R Val := (callP T wf k).1
def callG (T : Tab) (wf k : Nat) : Nat → List Val → Store → R Val := (callP T wf k).2
/-- the class of an exception in flight; of one raised in an except suite a mark -/
def xv (cl : Nat → Addr) (c : Nat) : Value := if c < 100 then .ref (cl c) else .int ((cl (c - 100) : Nat) : Int) 0
theorem xv_low {cl : Nat → Addr} {c : Nat} (h : c < 100) : xv cl c = .ref (cl c) := if_pos h
theorem xv_late {cl : Nat → Addr} {c : Nat} : xv cl (c + 100) = .int ((cl c : Nat) : Int) 0 := by
  unfold xv
  rw [if_neg (by omega), Nat.add_sub_cancel]
end Gv

namespace Gv
open PySem PySem.Spec PyProof.Rows L2
/-! ### enumerate over a tuple -/
theorem enum_mkT {t : Addr} {items : Array Value} :
    Meets (Builtin.«enumerate.__new__» ⟨[.type "enumerate", .ref t], []⟩) (fun _ R s => s.heap.IsTuple t items ∧
      R (.ok (.ret (.ref (s.heap.push { cls := .type "tuple_iterator", data := .fields #[.ref t, .int 0 0] }).objs.size)))
        { s with heap := (s.heap.push { cls := .type "tuple_iterator", data := .fields #[.ref t, .int 0 0] }).push { cls := .type "enumerate", data := .fields #[.none, .bool false, .ref s.heap.objs.size, rawInt 0, .none, .none] } }) :=
  .of_wp fun prog w A R s hh => by
    obtain ⟨hp, g, d, tk, os⟩ := s
    obtain ⟨ht, hr⟩ := hh
    have hsub := sub_enumerate
    have ht' : Heap.IsTuple (Shared.heap ⟨hp, g, d, tk, os⟩) t items := ht
    obtain ⟨⟨c, dct, dt, sl⟩, hl, hc, n, hd⟩ := id ht'
    replace hc : c = .type "tuple" := hc
    replace hd : dt = .seq items n := hd
    subst hc hd
    wp_walk using AutoSeq1.wpAny_loadPart' hl
    refine wpAny_stack_any fun st => wpAny_pure ?_
    split
    · rename_i c _ _ _ _ _
      cases (c == Value.type "enumerate") <;> (wp_walk using AutoSeq1.wpAny_loadPart' hl, wpAny_pyIter_tuple ht'; exact ⟨_, rfl, hr⟩)
    · wp_walk using AutoSeq1.wpAny_loadPart' hl, wpAny_pyIter_tuple ht'
      exact ⟨_, rfl, hr⟩
section
variable {prog : Program} {w : World} {A : Around} {E : Value → Shared → Prop} {s : Shared}
theorem enum_callT {t : Addr} {items : Array Value} {Q : Value → Shared → Prop} (ht : s.heap.IsTuple t items)
    (k : ∀ h', IsEnum h' (s.heap.objs.size + 1) s.heap.objs.size 0 .none → h'.IsTupleIter s.heap.objs.size t 0 → (∀ b o, s.heap.get? b = some o → h'.get? b = some o) → Q (.ref (s.heap.objs.size + 1)) { s with heap := h' }) :
    wpAny (model prog w) A (call (.type "enumerate") [.ref t]) Q E s := by
  refine callType_new F.called_enumerate (by decide) (F.typeCall_enumerate_1 _) (F.newCall_enumerate_1 _) (fun ob => F.args_object_init_2 ob _) F.entry_enumerate_new (enum_mkT (items := items)) ⟨ht, ?_⟩
  have hz : (s.heap.push { cls := .type "tuple_iterator", data := .fields #[.ref t, .int 0 0] }).objs.size = s.heap.objs.size + 1 := Heap.size_push ..
  show _ ∧ _
  rw [hz]
  have he : IsEnum ((s.heap.push { cls := .type "tuple_iterator", data := .fields #[.ref t, .int 0 0] }).push { cls := .type "enumerate", data := .fields #[.none, .bool false, .ref s.heap.objs.size, rawInt 0, .none, .none] }) (s.heap.objs.size + 1) s.heap.objs.size 0 .none := by
    have q := Heap.get?_push_size (s.heap.push { cls := .type "tuple_iterator", data := .fields #[.ref t, .int 0 0] }) (o := { cls := .type "enumerate", data := .fields #[.none, .bool false, .ref s.heap.objs.size, rawInt 0, .none, .none] }) rfl
    rw [hz] at q
    exact q
  exact ⟨⟨_, he, rfl⟩, k _ he ⟨_, Heap.get?_push_of_some _ (Heap.get?_push_size _ rfl), rfl, rfl⟩ fun b o x => Heap.get?_push_of_some _ (Heap.get?_push_of_some _ x)⟩
end
/-- the tuple at a, each item in a new pair with its place -/
def ItT (K : PySem.W.Frag) (a : Addr) : It :=
  ⟨fun i H => ∃ (xs : List V) (x : V), SqT K H a xs ∧ xs[i]? = some x,
   fun i H v H' => ∃ T x, v = .ref T ∧ H T = none ∧ H' = upd H T (.tup [.int (i : Nat), x]) ∧ ∀ xs, SqT K H a xs → xs[i]? = some x,
   fun i H => ∃ xs : List V, SqT K H a xs ∧ xs.length ≤ i⟩
theorem turn_enumT {P : Program} {w : World} {K : PySem.W.Frag} {elts : List Expr} {kk : Nat} {tpos : Pos} (a e it : Addr) (hae : a ≠ e) (hai : a ≠ it) :
    Turn P w K (.Tuple elts kk tpos) (ItT K a) [e, it] e (fun i h => (∃ old, IsEnum h e it ((i : Nat) : Int) old) ∧ h.IsTupleIter it a i ∧ e ≠ it) where
  mem := by simp
  obj := fun i h st b hb => by
    obtain ⟨⟨old, he⟩, ⟨o, ho, hc, hd⟩, _⟩ := st
    rcases (by simpa using hb : b = e ∨ b = it) with rfl | rfl
    · exact ⟨_, he, fun v q => nomatch q⟩
    · exact ⟨o, ho, fun v q => by rw [hd] at q; cases q⟩
  keep := fun i h h' st k => by
    obtain ⟨⟨old, he⟩, hi, hne⟩ := st
    exact ⟨⟨old, k e (by simp) _ he⟩, hi.at fun o q => k it (by simp) o q, hne⟩
  item := by
    intro X hP hw hK hc i pins s σ H E I hf st hg
    subst hP hw hK
    obtain ⟨⟨old, he⟩, hit, hne⟩ := st
    obtain ⟨xs, x, hq, hx⟩ := hg
    obtain ⟨its, rv, p, hz⟩ := I.tuple hq
    obtain ⟨u, hu, ru⟩ := rv.get hx
    have hel : e < s.heap.objs.size := Heap.lt_size he
    have hil : it < s.heap.objs.size := by obtain ⟨_, q, _⟩ := hit; exact Heap.lt_size q
    have hp : s.heap.IsTuple a its.toArray := p
    have D := Draws.tuple (prog := X.prog) (w := X.w) (A := X.A.in1) (I.ok.hd hc) it a hai its.toArray
    have hin : i < its.toArray.size := by
      have := (List.getElem?_eq_some_iff.mp hu).1
      simpa using this
    refine wpAny_pyNext_enum_itemD D he ⟨hit, hp⟩ hin hne (by simp [hne, Ne.symm hae]) fun x' h' tk hx' ho hit' hT hsz hk => ?_
    have hxu : x' = u := by
      have h1 : its[i]? = some x' := by simpa using hx'
      rw [hu] at h1
      exact (Option.some.inj h1).symm
    subst hxu
    refine ⟨_, rfl, wpAny_letOwnedTupleGo_enum (s := { s with heap := h', toks := tk + 1 }) ho fun h2 he' sb => ?_⟩
    have hT2 : h2.get? s.heap.objs.size = some { cls := .type "tuple", data := .seq #[.int i tk, x'] } := (sb.2 _ (Nat.ne_of_gt hel)).trans hT
    have fresh : ObjOk X.prog X.w (upd H s.heap.objs.size (.tup [.int (i : Nat), x])) h2 s.heap.objs.size (.tup [.int (i : Nat), x]) :=
      ⟨by show 2 ≤ sizeLine; decide, [.int i tk, x'], .cons ⟨_, rfl⟩ (.cons ru .nil), ⟨_, hT2, rfl, _, rfl⟩⟩
    have I1 : Inv X pins σ (upd H s.heap.objs.size (.tup [.int (i : Nat), x])) { s with heap := h2, toks := tk + 1 } :=
      I.turnedNew (ch := [e, it]) (fun b ob hb q => (sb.2 b (fun z => hb (by simp [z]))).trans (hk b ob (fun z => hb (by simp [z])) (fun z => hb (by simp [z])) q)) hf (Nat.le_refl _) fresh
    refine ⟨.ref s.heap.objs.size, _, I1, rfl, ⟨_, x, rfl, I.hok.fresh (Nat.le_refl _), rfl, fun ys hy => by rw [I.tuple_inj hy hq]; exact hx⟩, ⟨⟨x', ?_⟩, hit'.1.at fun o q => (sb.2 it (Ne.symm hne)).trans q, hne⟩, fun b hb => ?_⟩
    · rw [show ((i + 1 : Nat) : Int) = (i : Int) + 1 from by omega]
      exact he'
    · have hb' : b < s.heap.objs.size := by
        rcases (by simpa using hb : b = e ∨ b = it) with rfl | rfl
        · exact hel
        · exact hil
      rw [upd_ne (Nat.ne_of_lt hb')]
      exact (hf b hb).1
  done := by
    intro X hP hw hK hc i pins s σ H E I hf st hg
    subst hP hw hK
    obtain ⟨⟨old, he⟩, hit, hne⟩ := st
    obtain ⟨xs, hq, hx⟩ := hg
    obtain ⟨its, rv, p, hz⟩ := I.tuple hq
    obtain ⟨f0, f1, f2, f3, f4, f5⟩ := hf it (by simp)
    have hl := rv.length
    have hp : s.heap.IsTuple a its.toArray := p
    have D : Draws X.prog X.w X.A.in1 it [it, a] i (fun _ _ => False) (fun j h => j = i ∧ h.IsTupleIter it a j ∧ h.IsTuple a its.toArray) :=
      { live := fun _ _ st => let ⟨o, ho, _⟩ := st.2.1; ⟨o, ho⟩
        frame := fun _ _ _ st hk => ⟨st.1, st.2.1.at fun o e => hk it (by simp) o e, st.2.2.at fun o e => hk a (by simp) o e⟩
        item := fun j s Q E hi st hQ => by have := st.1; omega
        done := fun s Q E st hE => wpAny_nextOf_tuple_end (I.ok.hd hc) st.2.1 st.2.2 (by simp; omega) hE }
    exact wpAny_pyNext_enum_endD D he ⟨rfl, hit, hp⟩ fun h' eb => ⟨rfl, I.turned (t' := s.toks) (fun b o hb q => eb b o hb q) f0 f1 f3 f4 f5⟩
  self := fun A i s Q E st h => by
    obtain ⟨⟨_, he⟩, _⟩ := st
    exact wpAny_pyIter_enum he h
def iEnumA (K : PySem.W.Frag) (ta : TA) : TI := fun σ H R => ta σ H fun vs H1 => ∃ a xs, vs = [.ref a] ∧ ((SqL K H1 a xs ∧ R (Ite K a) H1) ∨ (SqT K H1 a xs ∧ R (ItT K a) H1))
theorem pi_enumA {X : Cx} {e : Expr} {ta : TA} {p pos tpos : Pos} {elts : List Expr} {kk : Nat} (hg : Gl X "enumerate") (hm : X.mg "enumerate" = none) (ha : PA X [e] ta) (hs : starEach [e] X.env = [(false, eval e X.env)]) :
    PI X (.Tuple elts kk tpos) (.Call (.Name "enumerate" p) [e] [] pos) (iEnumA X.K ta) := by
  refine ⟨fun pins s σ H R I h => Call_ (ld_blt I hg hm boot_enumerate (PyProof.Rows.callWith_type1 (thn (ha.run pos pins s σ H _ I h) fun us s1 ⟨vs, H1, I1, r1, q1⟩ => ?_) hs rfl))⟩
  obtain ⟨a, xs, ex, q⟩ := q1
  subst ex
  cases r1 with
  | cons r rr =>
    cases rr
    cases r
    have two : ∀ b, b ∈ [s1.heap.objs.size + 1, s1.heap.objs.size] → s1.heap.objs.size ≤ b := fun b hb => by
      rcases (by simpa using hb : b = s1.heap.objs.size + 1 ∨ b = s1.heap.objs.size) with z | z <;> (rw [z]; omega)
    rcases q with ⟨hq, q⟩ | ⟨hq, q⟩
    · obtain ⟨its, rv, p', hz⟩ := I1.list hq
      refine call_enumerate_list p'.isList fun h' he hit hsz hk => wpAny_pyIter_enum he ?_
      have I2 : Inv X pins σ H1 { s1 with heap := h' } := I1.kept (t' := s1.toks) hk
      exact ⟨s1.heap.objs.size + 1, [s1.heap.objs.size + 1, s1.heap.objs.size], _, _, H1, rfl, I2, turn_enum a (s1.heap.objs.size + 1) s1.heap.objs.size, ⟨⟨.none, he⟩, hit, Nat.succ_ne_self _⟩, fun b hb => I1.fpOk (two b hb) (I1.hok.fresh (two b hb)), q⟩
    · obtain ⟨its, rv, p', hz⟩ := I1.tuple hq
      have hp : s1.heap.IsTuple a its.toArray := p'
      have hlt : a < s1.heap.objs.size := by obtain ⟨o, ho, _⟩ := hp; exact Heap.lt_size ho
      refine enum_callT hp fun h' he hit hk => wpAny_pyIter_enum he ?_
      have I2 : Inv X pins σ H1 { s1 with heap := h' } := I1.kept (t' := s1.toks) hk
      exact ⟨s1.heap.objs.size + 1, [s1.heap.objs.size + 1, s1.heap.objs.size], _, _, H1, rfl, I2, turn_enumT a (s1.heap.objs.size + 1) s1.heap.objs.size (Nat.ne_of_lt (Nat.lt_succ_of_lt hlt)) (Nat.ne_of_lt hlt), ⟨⟨.none, he⟩, hit, Nat.succ_ne_self _⟩, fun b hb => I1.fpOk (two b hb) (I1.hok.fresh (two b hb)), q⟩
end Gv

namespace Gv
open PySem PySem.Spec L2

theorem lim_eq : lim = sizeLine := by rw [sizeLine_eq]; rfl

/-- an own exception that was caught, at a -/
def ExV (C a : Addr) : HO := .ext fun h => ∃ (oe : Obj) (vs : Array Value), h.get? a = some oe ∧ Zc (.ref C) none oe ∧ oe.data = .fields vs

/-- the class at C: its instances have the text's fields alone -/
structure InsC (K : PySem.W.Frag) (C : Addr) : Prop where
  cls : Cls K C
  noat : ∀ j, j < 10 → NoAttr K C (fldN j)
def FldIs (f : Str) (j : Nat) : Prop := j < 10 ∧ f = fldN j
section
variable (K : PySem.W.Frag) (cl : Nat → Addr) (B : List Addr)
mutual
inductive DR (r : List Addr) (H : Hp) : V → PyData → Prop
  | non : DR r H .non .none
  | bl (b : Bool) : DR r H (.bl b) (.bool b)
  | int (i : Int) : DR r H (.int i) (.int i)
  | str (x : Str) : DR r H (.str x) (.str x)
  | lst {a : Addr} {xs : List V} {ds : List PyData} : H a = some (.lst xs) → a ∉ B → a ∉ r → ds.length ≤ lim → DRs r H xs ds → DR r H (.ref a) (.list ds)
  | tup {a : Addr} {xs : List V} {ds : List PyData} : H a = some (.tup xs) → ds.length ≤ lim → DRs r H xs ds → DR r H (.ref a) (.tuple ds)
inductive DRs (r : List Addr) (H : Hp) : List V → List PyData → Prop
  | nil : DRs r H [] []
  | cons {v : V} {vs : List V} {d : PyData} {ds : List PyData} : DR r H v d → DRs r H vs ds → DRs r H (v :: vs) (d :: ds)
end
/-- the script: read, never written -/
def Scr (r : List Addr) (H : Hp) (a : Addr) (xs : List V) : Prop := (Rd H a (.lst xs) ∧ a ∉ B ∧ a ∉ r) ∨ ∀ H', SqL K H' a xs
/-- a value -/
inductive VR (r : List Addr) (H : Hp) : V → Val → Prop
  | d {x : V} {y : PyData} : DR B r H x y → VR r H x (.d y)
  | ref {a : Addr} {n : Nat} : r[n]? = some a → VR r H (.ref a) (.ref n)
  | exc {a : Addr} {c : Nat} : H a = some (ExV (cl c) a) → a ∉ B → a ∉ r → VR r H (.ref a) (.exc c)
  | scr {a : Addr} {ns : List Int} : Scr K B r H a (ns.map V.int) → VR r H (.ref a) (.scr ns)
abbrev VRs (r : List Addr) (H : Hp) : List V → List Val → Prop := Paired (VR K cl B r H)
inductive CR (r : List Addr) (H : Hp) (a : Addr) : Cell → Prop
  | lst {xs : List V} {vs : List Val} : H a = some (.lst xs) → vs.length ≤ lim → VRs K cl B r H xs vs → CR r H a (.lst vs)
  | dK {xs : List (Key × V)} {kvs : List (KK × Val)} : H a = some (.dK xs) → kvs.length ≤ lim → Paired (fun (p : Key × V) (q : KK × Val) => q.1 = .inl p.1 ∧ VR K cl B r H p.2 q.2) xs kvs → CR r H a (.dct false kvs)
  | dT {xs : List (List Key × V)} {kvs : List (KK × Val)} : H a = some (.dT xs) → kvs.length ≤ lim → Paired (fun (p : List Key × V) (q : KK × Val) => q.1 = .inr p.1 ∧ VR K cl B r H p.2 q.2) xs kvs → CR r H a (.dct true kvs)
  | ins {c : Nat} {dx : Addr} {xs : List (Str × V)} {fs : List (Nat × Val)} : H a = some (.ins (cl c) dx xs) → H dx = some (.own a) → dx ∉ B → dx ∉ r → InsC K (cl c) → Paired (fun (p : Str × V) (q : Nat × Val) => FldIs p.1 q.1 ∧ VR K cl B r H p.2 q.2) xs fs → CR r H a (.ins c fs)
  | tup {xs : List V} {vs : List Val} : H a = some (.tup xs) → vs.length ≤ lim → VRs K cl B r H xs vs → CR r H a (.tup vs)
structure Rel (r : List Addr) (M : Store) (H : Hp) : Prop where
  len : r.length = M.length
  nd : r.Nodup
  blk : ∀ a ∈ r, a ∉ B
  bs : ∀ a ∈ B, H a ≠ none
  cell : ∀ (n : Nat) (c : Cell) (a : Addr), M[n]? = some c → r[n]? = some a → CR K cl B r H a c
structure SRel (r : List Addr) (H : Hp) (σ : St) (s : Slots) : Prop where
  len : σ.length = s.length
  get : ∀ (i : Nat) (v : Val), s[i]? = some (some v) → ∃ x, σ[i]? = some (some x) ∧ VR K cl B r H x v
end

structure Grow (r : List Addr) (H : Hp) (r' : List Addr) (H' : Hp) : Prop where
  pre : ∃ e, r' = r ++ e
  keep : ∀ a o, H a = some o → a ∉ r → H' a = some o
  new : ∀ a ∈ r', a ∈ r ∨ H a = none
  some : ∀ a, H a ≠ none → H' a ≠ none
  tup : ∀ a xs, H a = Option.some (.tup xs) → H' a = Option.some (.tup xs)

theorem Grow.refl {r : List Addr} {H : Hp} : Grow r H r H := ⟨⟨[], by simp⟩, fun _ _ h _ => h, fun _ h => .inl h, fun _ h => h, fun _ _ h => h⟩
theorem Grow.trans {r r1 r2 : List Addr} {H H1 H2 : Hp} (a : Grow r H r1 H1) (b : Grow r1 H1 r2 H2) : Grow r H r2 H2 := by
  refine ⟨?_, fun c o h n => ?_, fun c h => ?_, fun c h => b.some c (a.some c h), fun c xs h => b.tup c xs (a.tup c xs h)⟩
  · obtain ⟨e, he⟩ := a.pre
    obtain ⟨f, hf⟩ := b.pre
    exact ⟨e ++ f, by rw [hf, he, List.append_assoc]⟩
  · refine b.keep c o (a.keep c o h n) fun h1 => ?_
    rcases a.new c h1 with z | z
    · exact n z
    · rw [h] at z; cases z
  · rcases b.new c h with z | z
    · exact a.new c z
    · cases q : H c with
      | none => exact .inr rfl
      | some o => exact absurd z (a.some c (by rw [q]; exact fun z => nomatch z))
theorem rd_upd {H : Hp} {p a : Addr} {o u : HO} (h : H p = none) (q : Rd H a u) : Rd (upd H p o) a u := by
  have hne : ∀ v, H a = some v → a ≠ p := fun v e z => by rw [z, h] at e; cases e
  rcases q with q | ⟨v, q⟩
  · exact .inl (by rw [upd_ne (hne _ q)]; exact q)
  · exact .inr ⟨v, by rw [upd_ne (hne _ q)]; exact q⟩
theorem tup_upd {H : Hp} {p a : Addr} {o u : HO} (h : H p = none) (q : H a = some u) : upd H p o a = some u := by
  rw [upd_ne (fun z => by rw [z, h] at q; cases q)]; exact q
theorem upd_some {H : Hp} {p a : Addr} {o : HO} (z : H a ≠ none) : upd H p o a ≠ none := by
  by_cases q : a = p
  · rw [q, upd_same]; exact fun z => nomatch z
  · rw [upd_ne q]; exact z
/-- a new object that is not a cell -/
theorem Grow.laid {r : List Addr} {H : Hp} {p : Addr} {o : HO} (h : H p = none) : Grow r H r (upd H p o) := by
  refine ⟨⟨[], by simp⟩, fun a u e _ => ?_, fun _ z => .inl z, fun a z => upd_some z, fun a xs q => tup_upd h q⟩
  rw [upd_ne (fun q => by rw [q, h] at e; cases e)]; exact e
/-- a new object that is one -/
theorem Grow.cell {r : List Addr} {H : Hp} {p : Addr} {o : HO} (h : H p = none) : Grow r H (r ++ [p]) (upd H p o) := by
  refine ⟨⟨[p], rfl⟩, fun a u e _ => ?_, fun a z => ?_, fun a z => upd_some z, fun a xs q => tup_upd h q⟩
  · rw [upd_ne (fun q => by rw [q, h] at e; cases e)]; exact e
  · rcases List.mem_append.mp z with z | z
    · exact .inl z
    · simp at z; subst z; exact .inr h
/-- a cell is written -/
theorem Grow.write {r : List Addr} {H : Hp} {p : Addr} {o : HO} (h : p ∈ r) (nt : ∀ xs, ¬ H p = Option.some (.tup xs)) : Grow r H r (upd H p o) := by
  refine ⟨⟨[], by simp⟩, fun a u e n => ?_, fun _ z => .inl z, fun a z => upd_some z, fun a xs q => ?_⟩
  · rw [upd_ne (fun q => n (by rw [q]; exact h))]; exact e
  · have hne : a ≠ p := fun z => nt xs (z ▸ q)
    rw [upd_ne hne]; exact q

section
variable {K : PySem.W.Frag} {cl : Nat → Addr} {B : List Addr} {r r' : List Addr} {H H' : Hp}
theorem Rd.some {a : Addr} {u : HO} (h : Rd H a u) : ∃ o, H a = some o ∧ ∀ H', H' a = Option.some o → Rd H' a u := by
  rcases h with h | ⟨o, h⟩
  · exact ⟨_, h, fun _ e => .inl e⟩
  · exact ⟨_, h, fun _ e => .inr ⟨o, e⟩⟩
theorem Grow.rd (g : Grow r H r' H') {a : Addr} {u : HO} (h : Rd H a u) (n : a ∉ r) : Rd H' a u := by
  obtain ⟨o, e, f⟩ := Rd.some h
  exact f _ (g.keep a o e n)
theorem Grow.notin (g : Grow r H r' H') {a : Addr} {u : HO} (h : Rd H a u) (n : a ∉ r) : a ∉ r' := fun z => by
  obtain ⟨o, e, _⟩ := Rd.some h
  rcases g.new a z with q | q
  · exact n q
  · rw [e] at q; cases q
mutual
theorem DR.mono (g : Grow r H r' H') : ∀ {x : V} {d : PyData}, DR B r H x d → DR B r' H' x d
  | _, _, .non => .non
  | _, _, .bl b => .bl b
  | _, _, .int i => .int i
  | _, _, .str x => .str x
  | _, _, .lst h n1 n2 l hs => .lst (g.keep _ _ h n2) n1 (g.notin (.inl h) n2) l (DRs.mono g hs)
  | _, _, .tup h l hs => .tup (g.tup _ _ h) l (DRs.mono g hs)
theorem DRs.mono (g : Grow r H r' H') : ∀ {xs : List V} {ds : List PyData}, DRs B r H xs ds → DRs B r' H' xs ds
  | _, _, .nil => .nil
  | _, _, .cons a b => .cons (DR.mono g a) (DRs.mono g b)
end
theorem DRs.length : ∀ {xs : List V} {ds : List PyData}, DRs B r H xs ds → xs.length = ds.length
  | _, _, .nil => rfl
  | _, _, .cons _ b => by simp [DRs.length b]
theorem DRs.get : ∀ {xs : List V} {ds : List PyData} {i : Nat} {d : PyData}, DRs B r H xs ds → ds[i]? = some d → ∃ x, xs[i]? = some x ∧ DR B r H x d
  | _, _, _, _, .nil, e => by simp at e
  | _, _, 0, _, .cons a _, e => by simp at e; subst e; exact ⟨_, rfl, a⟩
  | _, _, i + 1, _, .cons _ b, e => by simp at e; exact DRs.get (i := i) b e
theorem DRs.append : ∀ {xs ys : List V} {ds es : List PyData}, DRs B r H xs ds → DRs B r H ys es → DRs B r H (xs ++ ys) (ds ++ es)
  | _, _, _, _, .nil, s => s
  | _, _, _, _, .cons a t, s => .cons a (DRs.append t s)
theorem DRs.take : ∀ {xs : List V} {ds : List PyData} (n : Nat), DRs B r H xs ds → DRs B r H (xs.take n) (ds.take n)
  | _, _, 0, _ => .nil
  | _, _, _ + 1, .nil => .nil
  | _, _, n + 1, .cons a t => .cons a (DRs.take n t)
theorem DRs.drop : ∀ {xs : List V} {ds : List PyData} (n : Nat), DRs B r H xs ds → DRs B r H (xs.drop n) (ds.drop n)
  | _, _, 0, a => a
  | _, _, _ + 1, .nil => .nil
  | _, _, n + 1, .cons _ t => DRs.drop n t
theorem DRs.rev : ∀ {xs : List V} {ds : List PyData}, DRs B r H xs ds → DRs B r H xs.reverse ds.reverse
  | _, _, .nil => .nil
  | _, _, .cons a t => by simp only [List.reverse_cons]; exact (DRs.rev t).append (.cons a .nil)
theorem DRs.reps (n : Nat) {xs : List V} {ds : List PyData} (h : DRs B r H xs ds) : DRs B r H (List.replicate n xs).flatten (List.replicate n ds).flatten := by
  induction n with
  | zero => exact .nil
  | succ n ih => simp only [List.replicate_succ, List.flatten_cons]; exact h.append ih
theorem Scr.mono (g : Grow r H r' H') {a : Addr} {xs : List V} (h : Scr K B r H a xs) : Scr K B r' H' a xs := by
  rcases h with ⟨h, nb, n⟩ | h
  · exact .inl ⟨g.rd h n, nb, g.notin h n⟩
  · exact .inr h
theorem Scr.sq {a : Addr} {xs : List V} (h : Scr K B r H a xs) : SqL K H a xs := by
  rcases h with ⟨h, n⟩ | h
  · exact .inl h
  · exact h H
theorem VR.mono (g : Grow r H r' H') {x : V} {v : Val} (h : VR K cl B r H x v) : VR K cl B r' H' x v := by
  cases h with
  | d h => exact .d (h.mono g)
  | ref h =>
    obtain ⟨e, he⟩ := g.pre
    exact .ref (by rw [he, List.getElem?_append_left (List.getElem?_eq_some_iff.mp h).1]; exact h)
  | exc h nb n =>
    refine .exc (g.keep _ _ h n) nb fun z => ?_
    rcases g.new _ z with q | q
    · exact n q
    · rw [h] at q; cases q
  | scr h => exact .scr (Scr.mono g h)
theorem VRs.mono (g : Grow r H r' H') {xs : List V} {vs : List Val} (h : VRs K cl B r H xs vs) : VRs K cl B r' H' xs vs := Paired.mapP h fun _ _ z => z.mono g
theorem SRel.mono (g : Grow r H r' H') {σ : L2.St} {s : Slots} (h : SRel K cl B r H σ s) : SRel K cl B r' H' σ s :=
  ⟨h.len, fun i v e => let ⟨x, a, b⟩ := h.get i v e; ⟨x, a, b.mono g⟩⟩
/-- the data of a list of values -/
theorem VRs.allD : ∀ {xs : List V} {vs : List Val} {ds : List PyData}, VRs K cl B r H xs vs → Gv.allD vs = some ds → DRs B r H xs ds
  | _, _, _, .nil, e => by simp only [Gv.allD, Option.some.injEq] at e; subst e; exact .nil
  | _, _, _, .cons (a := x) (b := v) h t, e => by
    cases h with
    | d h =>
      simp only [Gv.allD, Option.map_eq_some_iff] at e
      obtain ⟨ds', e1, rfl⟩ := e
      exact .cons h (VRs.allD t e1)
    | ref h => simp [Gv.allD] at e
    | exc h nb n => simp [Gv.allD] at e
    | scr h => simp [Gv.allD] at e
theorem DRs.vrs : ∀ {xs : List V} {ds : List PyData}, DRs B r H xs ds → VRs K cl B r H xs (ds.map .d)
  | _, _, .nil => .nil
  | _, _, .cons a b => .cons (.d a) (DRs.vrs b)
/-! deep data as it reads now -/
mutual
theorem DR.dp : ∀ {x : V} {d : PyData}, DR B r H x d → Dp K H x d
  | _, _, .non => .non
  | _, _, .bl b => .bl b
  | _, _, .int i => .int i
  | _, _, .str x => .str x
  | _, _, .lst h _ _ _ hs => .lst (.inl (.inl h)) (DRs.dp hs)
  | _, _, .tup h _ hs => .tup (.inl (.inl h)) (DRs.dp hs)
theorem DRs.dp : ∀ {xs : List V} {ds : List PyData}, DRs B r H xs ds → DpAll K H xs ds
  | _, _, .nil => .nil
  | _, _, .cons a b => .cons (DR.dp a) (DRs.dp b)
end
end

section
variable {K : PySem.W.Frag} {cl : Nat → Addr} {B : List Addr} {r : List Addr} {H : Hp} {x : V}
theorem VR.int {i : Int} (h : VR K cl B r H x (.d (.int i))) : x = .int i := by
  cases h with | d h => cases h; rfl
theorem VR.bool {b : Bool} (h : VR K cl B r H x (.d (.bool b))) : x = .bl b := by
  cases h with | d h => cases h; rfl
theorem VR.str {z : Str} (h : VR K cl B r H x (.d (.str z))) : x = .str z := by
  cases h with | d h => cases h; rfl
theorem VR.none (h : VR K cl B r H x (.d .none)) : x = .non := by
  cases h with | d h => cases h; rfl
theorem VR.tuple {ds : List PyData} (h : VR K cl B r H x (.d (.tuple ds))) : ∃ a xs, x = .ref a ∧ H a = some (.tup xs) ∧ ds.length ≤ lim ∧ DRs B r H xs ds := by
  cases h with | d h => cases h with | tup h l hs => exact ⟨_, _, rfl, h, l, hs⟩
theorem VR.list {ds : List PyData} (h : VR K cl B r H x (.d (.list ds))) : ∃ a xs, x = .ref a ∧ H a = some (.lst xs) ∧ a ∉ B ∧ a ∉ r ∧ ds.length ≤ lim ∧ DRs B r H xs ds := by
  cases h with | d h => cases h with | lst h n1 n2 l hs => exact ⟨_, _, rfl, h, n1, n2, l, hs⟩
theorem VR.inv {y : PyData} (h : VR K cl B r H x (.d y)) : DR B r H x y := by
  cases h with | d h => exact h
theorem VR.atRef {n : Nat} (h : VR K cl B r H x (.ref n)) : ∃ a, x = .ref a ∧ r[n]? = some a := by
  cases h with | ref h => exact ⟨_, rfl, h⟩
end

/-! ### what the store tells, after a step -/
section
variable {K : PySem.W.Frag} {cl : Nat → Addr} {B : List Addr} {r : List Addr} {H : Hp} {M : Store}
theorem CR.mono {r' : List Addr} {H' : Hp} (g : Grow r H r' H') {a : Addr} {c : Cell} (h : CR K cl B r H a c) (e : H' a = H a) : CR K cl B r' H' a c := by
  cases h with
  | lst h l hs => exact .lst (e.trans h) l (hs.mono g)
  | dK h l hs => exact .dK (e.trans h) l (Paired.mapP hs fun _ _ z => ⟨z.1, z.2.mono g⟩)
  | dT h l hs => exact .dT (e.trans h) l (Paired.mapP hs fun _ _ z => ⟨z.1, z.2.mono g⟩)
  | ins h ho nb n ci hs => exact .ins (e.trans h) (g.keep _ _ ho n) nb (g.notin (.inl ho) n) ci (Paired.mapP hs fun _ _ z => ⟨z.1, z.2.mono g⟩)
  | tup h l hs => exact .tup (e.trans h) l (hs.mono g)
theorem Rel.mem (R : Rel K cl B r M H) {n : Nat} {a : Addr} (h : r[n]? = some a) : ∃ c, M[n]? = some c ∧ CR K cl B r H a c := by
  have hn : n < M.length := by rw [← R.len]; exact (List.getElem?_eq_some_iff.mp h).1
  exact ⟨M[n], by simp [hn], R.cell n _ a (by simp [hn]) h⟩
theorem Rel.isSome (R : Rel K cl B r M H) {a : Addr} (h : a ∈ r) : ∃ o, H a = some o ∧ True := by
  obtain ⟨n, hn⟩ := List.getElem?_of_mem h
  obtain ⟨c, _, hc⟩ := R.mem hn
  cases hc with
  | lst h l hs => exact ⟨_, h, trivial⟩
  | dK h l hs => exact ⟨_, h, trivial⟩
  | dT h l hs => exact ⟨_, h, trivial⟩
  | ins h ho nb n ci hs => exact ⟨_, h, trivial⟩
  | tup h l hs => exact ⟨_, h, trivial⟩
theorem Rel.ntL (R : Rel K cl B r M H) {n : Nat} {p : Addr} {ls : List Val} (hp : r[n]? = some p) (em : M[n]? = some (.lst ls)) : ∀ xs, ¬ H p = some (.tup xs) := by
  intro xs q
  have hc := R.cell n _ p em hp
  cases hc with
  | lst h l hs => rw [h] at q; cases q
/-- a new object that is no cell -/
theorem Rel.laid (R : Rel K cl B r M H) {p : Addr} {o : HO} (h : H p = none) : Rel K cl B r M (upd H p o) := by
  refine ⟨R.len, R.nd, R.blk, fun a ha => upd_some (R.bs a ha), fun n c a e1 e2 => (R.cell n c a e1 e2).mono (Grow.laid h) ?_⟩
  obtain ⟨o', q, _⟩ := R.isSome (List.mem_of_getElem? e2)
  rw [upd_ne (fun z => by rw [z, h] at q; cases q)]
/-- a new cell -/
theorem Rel.newcell (R : Rel K cl B r M H) {p : Addr} {o : HO} {c : Cell} (h : H p = none) (hc : CR K cl B (r ++ [p]) (upd H p o) p c) : Rel K cl B (r ++ [p]) (M ++ [c]) (upd H p o) := by
  have hp : p ∉ r := fun z => by obtain ⟨o', q, _⟩ := R.isSome z; rw [h] at q; cases q
  refine ⟨by simp [R.len], ?_, fun a ha => ?_, fun a ha => upd_some (R.bs a ha), fun n c' a e1 e2 => ?_⟩
  · rw [List.nodup_append]
    refine ⟨R.nd, by simp, fun a ha b hb => ?_⟩
    simp at hb
    subst hb
    exact fun z => hp (z ▸ ha)
  · rcases List.mem_append.mp ha with z | z
    · exact R.blk a z
    · simp at z; subst z
      exact fun q => R.bs _ q h
  · by_cases hn : n < M.length
    · have hr : n < r.length := by rw [R.len]; exact hn
      rw [List.getElem?_append_left hn] at e1
      rw [List.getElem?_append_left hr] at e2
      refine (R.cell n c' a e1 e2).mono (Grow.cell h) ?_
      obtain ⟨o', q, _⟩ := R.isSome (List.mem_of_getElem? e2)
      rw [upd_ne (fun z => by rw [z, h] at q; cases q)]
    · rw [List.getElem?_append_right (by omega)] at e1
      rw [List.getElem?_append_right (by rw [R.len]; omega)] at e2
      have hz : n - M.length = 0 := by
        have := (List.getElem?_eq_some_iff.mp e1).1
        simp at this
        omega
      rw [R.len] at e2
      rw [hz] at e1 e2
      simp at e1 e2
      subst e1 e2
      exact hc
/-- a cell written -/
theorem Rel.write (R : Rel K cl B r M H) {p : Addr} {n : Nat} {o : HO} {c : Cell} (h : r[n]? = some p) (hc : CR K cl B r (upd H p o) p c) (nt : ∀ xs, ¬ H p = Option.some (.tup xs) := by intro _ q; first | (simp only [*, reduceCtorEq, Option.some.injEq] at q) | simp_all) : Rel K cl B r (M.set n c) (upd H p o) := by
  have hm := List.mem_of_getElem? h
  refine ⟨by simp [R.len], R.nd, R.blk, fun a ha => upd_some (R.bs a ha), fun m c' a e1 e2 => ?_⟩
  by_cases hn : n = m
  · subst hn
    rw [h] at e2; cases e2
    have hl : n < M.length := by rw [← R.len]; exact (List.getElem?_eq_some_iff.mp h).1
    rw [List.getElem?_set_self hl] at e1
    cases e1
    exact hc
  · rw [List.getElem?_set_ne hn] at e1
    refine (R.cell m c' a e1 e2).mono (Grow.write hm nt) ?_
    refine upd_ne fun z => ?_
    subst z
    obtain ⟨h1, q1⟩ := List.getElem?_eq_some_iff.mp h
    obtain ⟨h2, q2⟩ := List.getElem?_eq_some_iff.mp e2
    exact hn ((List.getElem_inj R.nd).mp (q1.trans q2.symm))
theorem Rel.growW (R : Rel K cl B r M H) {p : Addr} {n : Nat} {o : HO} (h : r[n]? = some p) (nt : ∀ xs, ¬ H p = Option.some (.tup xs) := by intro _ q; first | (simp only [*, reduceCtorEq, Option.some.injEq] at q) | simp_all) : Grow r H r (upd H p o) := by
  have hm := List.mem_of_getElem? h
  exact Grow.write hm nt
/-- a list that is read -/
theorem VR.lstD (R : Rel K cl B r M H) {x : V} {v : Val} {ds : List PyData} (h : VR K cl B r H x v) (e : Gv.lstD M v = some ds) : ∃ a xs, x = .ref a ∧ H a = some (.lst xs) ∧ DRs B r H xs ds ∧ ds.length ≤ lim := by
  cases h with
  | d h =>
    cases h <;> simp only [Gv.lstD, Option.some.injEq, reduceCtorEq] at e
    rename_i a xs ds' h n1 n2 l hs
    subst e
    exact ⟨a, xs, rfl, h, hs, l⟩
  | ref h =>
    obtain ⟨c, e1, hc⟩ := R.mem h
    cases hc with
    | lst h' l hs =>
      simp only [Gv.lstD, e1] at e
      have hd := VRs.allD hs e
      exact ⟨_, _, rfl, h', hd, by rw [← hd.length, hs.length]; exact l⟩
    | dK h' l hs => simp [Gv.lstD, e1] at e
    | dT h' l hs => simp [Gv.lstD, e1] at e
    | ins h' ho nb n ci hs => simp [Gv.lstD, e1] at e
    | tup h' l hs => simp [Gv.lstD, e1] at e
  | exc h nb n => simp [Gv.lstD] at e
  | scr h => simp [Gv.lstD] at e
end
end Gv

namespace Gv
open PySem PySem.Spec L2

/-! ### readings by an evaluator -/
section
variable (K : PySem.W.Frag) (cl : Nat → Addr)
def Out {α β : Type} (P : List Addr → Hp → β → α → Prop) (W : WX) (σ : L2.St) (B r : List Addr) (H : Hp) (x : R α) (k : β → α → List Addr → Store → Hp → Prop) : Prop :=
  match x with
  | .ok v M' => ∀ u H' r', Grow r H r' H' → Rel K cl B r' M' H' → P r' H' u v → k u v r' M' H'
  | .exc c M' => ∀ H' r', Grow r H r' H' → Rel K cl B r' M' H' → W (xv cl c) none σ H'
  | .bad => False
def rdE (W : WX) (g : Slots → Store → R Val) : TE := fun σ H Q => ∃ B r M s, Rel K cl B r M H ∧ SRel K cl B r H σ s ∧
  Out K cl (VR K cl B) W σ B r H (g s M) fun u _ _ _ H' => Q u H'
def rdT (W : WX) (g : Slots → Store → R Val) : TT := fun σ H Q => ∃ B r M s, Rel K cl B r M H ∧ SRel K cl B r H σ s ∧
  Out K cl (VR K cl B) W σ B r H (g s M) fun _ v _ _ H' => ∃ b, v = .d (.bool b) ∧ Q b H'
def rdA (W : WX) (g : Slots → Store → R (List Val)) : TA := fun σ H Q => ∃ B r M s, Rel K cl B r M H ∧ SRel K cl B r H σ s ∧
  Out K cl (VRs K cl B) W σ B r H (g s M) fun u _ _ _ H' => Q u H'
end
section
variable {K : PySem.W.Frag} {cl : Nat → Addr} {α β : Type} {P : List Addr → Hp → β → α → Prop} {W : WX} {σ : L2.St} {B r : List Addr} {H : Hp} {M : Store}
theorem Out.step {γ δ : Type} {P' : List Addr → Hp → δ → γ → Prop} {x : R α} {f : α → Store → R γ} {k : δ → γ → List Addr → Store → Hp → Prop} {k' : β → α → List Addr → Store → Hp → Prop}
    (o : Out K cl P' W σ B r H (x.bind f) k)
    (h : ∀ u v r1 M1 H1, Grow r H r1 H1 → Rel K cl B r1 M1 H1 → P r1 H1 u v → Out K cl P' W σ B r1 H1 (f v M1) k → k' u v r1 M1 H1) : Out K cl P W σ B r H x k' := by
  cases x with
  | bad => exact o
  | exc c M' => exact o
  | ok v M' =>
    intro u H1 r1 g R p
    refine h u v r1 M' H1 g R p ?_
    have o : Out K cl P' W σ B r H (f v M') k := o
    generalize f v M' = y at o ⊢
    cases y with
    | bad => exact o
    | exc c M2 => exact fun H2 r2 g2 R2 => o H2 r2 (g.trans g2) R2
    | ok w M2 => exact fun u2 H2 r2 g2 R2 p2 => o u2 H2 r2 (g.trans g2) R2 p2
theorem Out.here {v : α} {u : β} {k : β → α → List Addr → Store → Hp → Prop} (o : Out K cl P W σ B r H (.ok v M) k) (R : Rel K cl B r M H) (p : P r H u v) : k u v r M H := o u H r .refl R p
theorem Out.imp {x : R α} {k k' : β → α → List Addr → Store → Hp → Prop} (o : Out K cl P W σ B r H x k) (h : ∀ u v r1 M1 H1, Grow r H r1 H1 → Rel K cl B r1 M1 H1 → P r1 H1 u v → k u v r1 M1 H1 → k' u v r1 M1 H1) : Out K cl P W σ B r H x k' := by
  cases x with
  | bad => exact o
  | exc c M' => exact o
  | ok v M' => exact fun u H' r' g R p => h u v r' M' H' g R p (o u H' r' g R p)
/-- a new list, at any free place -/
theorem Out.newL {al : Bool} {ds : List PyData} {xs : List V} {k : V → Val → List Addr → Store → Hp → Prop} (o : Out K cl (VR K cl B) W σ B r H (mkL al ds M) k) (R : Rel K cl B r M H) (hx : DRs B r H xs ds) (hl : ds.length ≤ lim)
    {p : Addr} (hp : H p = none) : ∃ v r' M', k (.ref p) v r' M' (upd H p (.lst xs)) := by
  unfold mkL at o
  cases al with
  | false =>
    have o : Out K cl (VR K cl B) W σ B r H (.ok (.d (.list ds)) M) k := o
    have hpr : p ∉ r := fun z => by obtain ⟨_, q, _⟩ := R.isSome z; rw [hp] at q; cases q
    exact ⟨_, _, _, o _ _ _ (Grow.laid hp) (R.laid hp) (.d (.lst upd_same (fun z => R.bs p z hp) hpr hl (hx.mono (Grow.laid hp))))⟩
  | true =>
    have o : Out K cl (VR K cl B) W σ B r H (.ok (.ref M.length) (M ++ [.lst (ds.map .d)])) k := o
    have g : Grow r H (r ++ [p]) (upd H p (.lst xs)) := Grow.cell hp
    refine ⟨_, _, _, o (.ref p) _ _ g (R.newcell hp (.lst upd_same (by simpa using hl) (hx.mono g).vrs)) (.ref ?_)⟩
    rw [← R.len]; simp
theorem allD_none {vs : List Val} : ∀ {xs : List V}, VRs K cl B r H xs vs → xs.length = vs.length := fun h => Paired.length h
theorem Out.newLV {al : Bool} {vs : List Val} {xs : List V} {k : V → Val → List Addr → Store → Hp → Prop} (o : Out K cl (VR K cl B) W σ B r H (mkLV al vs M) k) (R : Rel K cl B r M H) (hx : VRs K cl B r H xs vs) (hl : vs.length ≤ lim)
    {p : Addr} (hp : H p = none) : ∃ v r' M', k (.ref p) v r' M' (upd H p (.lst xs)) := by
  unfold mkLV at o
  cases e : allD vs with
  | some ds =>
    rw [e] at o
    have hd := VRs.allD hx e
    exact Out.newL o R hd (by rw [← hd.length, hx.length]; exact hl) hp
  | none =>
    rw [e] at o
    have g : Grow r H (r ++ [p]) (upd H p (.lst xs)) := Grow.cell hp
    refine ⟨_, _, _, o (.ref p) _ _ g (R.newcell hp (.lst upd_same hl (VRs.mono g hx))) (.ref ?_)⟩
    rw [← R.len]; simp
/-- a new tuple -/
theorem Out.newT {ds : List PyData} {xs : List V} {k : V → Val → List Addr → Store → Hp → Prop} (o : Out K cl (VR K cl B) W σ B r H (.ok (.d (.tuple ds)) M) k) (R : Rel K cl B r M H) (hx : DRs B r H xs ds) (hl : ds.length ≤ lim)
    {p : Addr} (hp : H p = none) : ∃ v r' M', k (.ref p) v r' M' (upd H p (.tup xs)) :=
  ⟨_, _, _, o _ _ _ (Grow.laid hp) (R.laid hp) (.d (.tup upd_same hl (hx.mono (Grow.laid hp))))⟩
end

/-! ### weakening -/
section
variable {X : Cx}
theorem PE.imp {e : Expr} {t t' : TE} (h : PE X e t) (i : ∀ σ H Q, t' σ H Q → t σ H Q) : PE X e t' := ⟨fun pins s σ H Q I w => h.run pins s σ H Q I (i σ H Q w)⟩
theorem PT.imp {e : Expr} {t t' : TT} (h : PT X e t) (i : ∀ σ H Q, t' σ H Q → t σ H Q) : PT X e t' := ⟨fun pins s σ H Q I w => h.run pins s σ H Q I (i σ H Q w)⟩
theorem PW.imp {e : Expr} {t t' : TT} (h : PW X e t) (i : ∀ σ H Q, t' σ H Q → t σ H Q) : PW X e t' := ⟨fun wh pins s σ H Q I w => h.run wh pins s σ H Q I (i σ H Q w)⟩
theorem PA.imp {e : List Expr} {t t' : TA} (h : PA X e t) (i : ∀ σ H Q, t' σ H Q → t σ H Q) : PA X e t' := ⟨fun pos pins s σ H Q I w => h.run pos pins s σ H Q I (i σ H Q w)⟩
theorem PS.imp {e : Stmt} {t t' : TS} (h : PS X e t) (i : ∀ D σ H, t' D σ H → t D σ H) : PS X e t' := ⟨fun pins s σ H D I w => h.run pins s σ H D I (i D σ H w)⟩
theorem PSs.imp {e : List Stmt} {t t' : TS} (h : PSs X e t) (i : ∀ D σ H, t' D σ H → t D σ H) : PSs X e t' := ⟨fun pins s σ H D I w => h.run pins s σ H D I (i D σ H w)⟩

abbrev SE (X : Cx) (cl : Nat → Addr) (W : WX) (e : Expr) (g : Slots → Store → R Val) : Prop := PE X e (rdE X.K cl W g)
abbrev ST (X : Cx) (cl : Nat → Addr) (W : WX) (e : Expr) (g : Slots → Store → R Val) : Prop := PT X e (rdT X.K cl W g)
abbrev SA (X : Cx) (cl : Nat → Addr) (W : WX) (e : List Expr) (g : Slots → Store → R (List Val)) : Prop := PA X e (rdA X.K cl W g)

variable {cl : Nat → Addr} {W : WX} {a b c : Expr} {ga gb gc : Slots → Store → R Val} {pos : Pos} {F : FEnv}

theorem se_lit {e : Expr} {v : V} {d : PyData} (h : PE X e (tC v)) (q : ∀ B r H, DR B r H v d) : SE X cl W e (fun _ M => .ok (.d d) M) :=
  PE.imp h fun σ H Q ⟨B, r, M, s, R, S, o⟩ => Out.here (u := v) o R (.d (q B r H))
theorem se_var {e : Expr} {i : Nat} (h : PE X e (tVar i)) : SE X cl W e (fun s M => (match s[i]? with | some (some v) => .ok v M | _ => .bad)) :=
  PE.imp h fun σ H Q ⟨B, r, M, s, R, S, o⟩ => by
    dsimp only at o
    split at o
    · rename_i v e
      obtain ⟨x, hx, vr⟩ := S.get i v e
      exact ⟨x, hx, o.here R vr⟩
    · exact o.elim

/-! operators -/
theorem mulOk_c {i j : Int} (h : mulOk i j = true) : CMul i j := by
  unfold mulOk at h
  simp only [Bool.or_eq_true, Bool.and_eq_true, decide_eq_true_eq] at h
  exact h
theorem bigB_c {j : Int} (h1 : 0 < j) (h2 : j < bigB) : j.natAbs < 2 ^ 250 := by
  unfold bigB at h2
  have : ((2 : Int) ^ 250) = ((2 ^ 250 : Nat) : Int) := by norm_cast
  omega
def rBI : R2 := fun x y H Q => ∃ (a : Bool) (j : Int), x = .bl a ∧ y = .int j ∧ Q (.int ((if a then 1 else 0) + j)) H
theorem op_add_bi : OpR X (binaryOp .Add) rBI := by
  intro pins s σ H x y v u Q I rx ry h
  obtain ⟨a, j, rfl, rfl, q⟩ := h
  cases rx
  obtain ⟨t, rfl⟩ := ry
  exact IntBool.add_bool_int ⟨.int ((if a then 1 else 0) + j), H, I.tok _, ⟨_, rfl⟩, q⟩
theorem op_addAll : OpR X (binaryOp .Add) (fun x y H Q => rI0 (fun i j => .int (i + j)) x y H Q ∨ (∃ i j, x = .str i ∧ y = .str j ∧ i.length + j.length ≤ sizeLine ∧ Q (.str (i ++ j)) H) ∨ rCatA X.K x y H Q ∨ rCat x y H Q ∨ rBI x y H Q) :=
  op_add.or (op_add_str.or (op_catA.or (op_cat.or op_add_bi)))
theorem op_mulAll : OpR X (binaryOp .Mult) (fun x y H Q => rI CMul (fun i j => .int (i * j)) x y H Q ∨ rRepT X.K x y H Q ∨ rRep x y H Q) :=
  op_mul.or (op_repT.or op_rep)

section
variable {K : PySem.W.Frag} {σ : L2.St} {B r : List Addr} {H : Hp} {M : Store} {Q : VK} {x y : V} {v w : Val}
abbrev KQ (Q : VK) : V → Val → List Addr → Store → Hp → Prop := fun u _ _ _ H' => Q u H'
theorem add_ok {al : Bool} (R : Rel K cl B r M H) (hx : VR K cl B r H x v) (hy : VR K cl B r H y w) (o : Out K cl (VR K cl B) W σ B r H (addD al M v w) (KQ Q)) :
    rI0 (fun i j => .int (i + j)) x y H Q ∨ (∃ i j, x = .str i ∧ y = .str j ∧ i.length + j.length ≤ sizeLine ∧ Q (.str (i ++ j)) H) ∨ rCatA K x y H Q ∨ rCat x y H Q ∨ rBI x y H Q := by
  unfold addD at o
  split at o
  · rename_i i j
    obtain rfl := hx.int
    obtain rfl := hy.int
    exact .inl ⟨i, j, rfl, rfl, Out.here (u := .int (i + j)) o R (.d (.int _))⟩
  · rename_i a j
    obtain rfl := hx.bool
    obtain rfl := hy.int
    exact .inr (.inr (.inr (.inr ⟨a, j, rfl, rfl, Out.here (u := .int _) o R (.d (.int _))⟩)))
  · rename_i i j
    split at o
    · rename_i hl
      obtain rfl := hx.str
      obtain rfl := hy.str
      exact .inr (.inl ⟨i, j, rfl, rfl, by rw [← lim_eq]; exact hl, Out.here (u := .str (i ++ j)) o R (.d (.str _))⟩)
    · exact o.elim
  · split at o
    · rename_i hl
      obtain ⟨a, xs, rfl, h1, l1, d1⟩ := hx.tuple
      obtain ⟨b, ys, rfl, h2, l2, d2⟩ := hy.tuple
      refine .inr (.inr (.inl ⟨a, b, xs, ys, rfl, rfl, .inl (.inl h1), .inl (.inl h2), by rw [d1.length, d2.length, ← lim_eq]; exact hl, fun e => ?_, fun e1 e2 => ?_, fun e1 e2 p hp => ?_⟩))
      · subst e
        cases d1
        exact Out.here (u := .ref b) o R (.d (.tup h2 l2 d2))
      · subst e2
        cases d2
        rw [List.append_nil] at o
        exact Out.here (u := .ref a) o R (.d (.tup h1 l1 d1))
      · obtain ⟨_, _, _, q⟩ := Out.newT o R (d1.append d2) (by simpa using hl) hp
        exact q
    · exact o.elim
  · split at o
    · rename_i a b ea eb
      split at o
      · rename_i hl
        obtain ⟨pa, xs, rfl, ha, da, la⟩ := VR.lstD R hx ea
        obtain ⟨pb, ys, rfl, hb, db, lb⟩ := VR.lstD R hy eb
        refine .inr (.inr (.inr (.inl ⟨pa, pb, xs, ys, rfl, rfl, ha, hb, by rw [da.length, db.length, ← lim_eq]; exact hl, fun p hp => ?_⟩)))
        obtain ⟨_, _, _, q⟩ := Out.newL o R (da.append db) (by simpa using hl) hp
        exact q
      · exact o.elim
    · exact o.elim
theorem rep_len {α : Type} (xs : List α) (n : Nat) : (List.replicate n xs).flatten.length = xs.length * n := by
  rw [List.length_flatten, List.map_replicate, List.sum_replicate_nat, Nat.mul_comm]
theorem mul_ok {al : Bool} (R : Rel K cl B r M H) (hx : VR K cl B r H x v) (hy : VR K cl B r H y w) (o : Out K cl (VR K cl B) W σ B r H (mulD al M v w) (KQ Q)) :
    rI CMul (fun i j => .int (i * j)) x y H Q ∨ rRepT K x y H Q ∨ rRep x y H Q := by
  unfold mulD at o
  split at o
  · rename_i i j
    split at o
    · rename_i hl
      obtain rfl := hx.int
      obtain rfl := hy.int
      exact .inl ⟨i, j, rfl, rfl, mulOk_c hl, Out.here (u := .int (i * j)) o R (.d (.int _))⟩
    · exact o.elim
  · rename_i ds k
    split at o
    · rename_i hl
      simp only [Bool.and_eq_true, Bool.not_eq_true', decide_eq_true_eq] at hl
      obtain ⟨⟨⟨h1, h2⟩, h3⟩, h4⟩ := hl
      obtain ⟨a, xs, rfl, ht, l1, d1⟩ := hx.tuple
      obtain rfl := hy.int
      refine .inr (.inl ⟨a, k, xs, rfl, rfl, .inl (.inl ht), fun e => ?_, h2, h3, by rw [d1.length]; exact h4, fun p hp => ?_⟩)
      · subst e; cases d1; simp at h1
      · obtain ⟨_, _, _, q⟩ := Out.newT o R (d1.reps k.toNat) (by
          rw [rep_len]
          have : ds.length * k.toNat ≤ 1000 * 1000 := Nat.mul_le_mul h4 (by omega)
          unfold lim; omega) hp
        exact q
    · exact o.elim
  · rename_i k n1 n2
    split at o
    · rename_i a ea
      split at o
      · rename_i hl
        simp only [Bool.and_eq_true, decide_eq_true_eq] at hl
        obtain ⟨⟨h1, h2⟩, h3⟩ := hl
        obtain ⟨pa, xs, rfl, ha, da, la⟩ := VR.lstD R hx ea
        obtain rfl := hy.int
        refine .inr (.inr ⟨pa, _, xs, rfl, rfl, ha, h1, h2, by rw [da.length, ← lim_eq]; exact h3, fun p hp => ?_⟩)
        obtain ⟨_, _, _, q⟩ := Out.newL o R (da.reps _) (by rw [rep_len]; exact h3) hp
        exact q
      · exact o.elim
    · exact o.elim
  · exact o.elim
end
theorem op_no {f : Value → Value → Sem Value} : OpR X f (fun _ _ _ _ => False) := fun _ _ _ _ _ _ _ _ _ _ _ _ h => h.elim
theorem se_op {f : Val → Val → Store → R Val} {op : Operator} {rr : R2} (ho : OpR X (binaryOp op) rr) (ha : SE X cl W a ga) (hb : SE X cl W b gb)
    (hk : ∀ σ B r H M Q x y v w, Rel X.K cl B r M H → VR X.K cl B r H x v → VR X.K cl B r H y w → Out X.K cl (VR X.K cl B) W σ B r H (f v w M) (KQ Q) → rr x y H Q) :
    SE X cl W (.BinOp a op b pos) (fun s M => (ga s M).bind fun x M => (gb s M).bind fun y M => f x y M) :=
  PE.imp (pe_op ho ha hb) fun σ H Q ⟨B, r, M, s, R, S, o⟩ => ⟨B, r, M, s, R, S, o.step fun x v r1 M1 H1 g1 R1 v1 o1 =>
    ⟨B, r1, M1, s, R1, S.mono g1, o1.step fun y w r2 M2 H2 g2 R2 v2 o2 => hk σ B r2 H2 M2 Q x y v w R2 (v1.mono g2) v2 o2⟩⟩
theorem se_bin {al : Bool} {op : Operator} (ha : SE X cl W a ga) (hb : SE X cl W b gb) : SE X cl W (.BinOp a op b pos) (fun s M => (ga s M).bind fun x M => (gb s M).bind fun y M => binD al M op x y) := by
  cases op with
  | Add => exact se_op (f := fun x y M => binD al M .Add x y) op_addAll ha hb fun σ B r H M Q x y v w R hx hy o => add_ok R hx hy o
  | Mult => exact se_op (f := fun x y M => binD al M .Mult x y) op_mulAll ha hb fun σ B r H M Q x y v w R hx hy o => mul_ok R hx hy o
  | Sub =>
    refine se_op (f := fun x y M => binD al M .Sub x y) op_sub ha hb fun σ B r H M Q x y v w R hx hy o => ?_
    dsimp only [binD] at o
    split at o
    · rename_i i j
      obtain rfl := hx.int
      obtain rfl := hy.int
      exact ⟨i, j, rfl, rfl, Out.here (u := .int (i - j)) o R (.d (.int _))⟩
    · exact o.elim
  | FloorDiv =>
    refine se_op (f := fun x y M => binD al M .FloorDiv x y) op_fdivW ha hb fun σ B r H M Q x y v w R hx hy o => ?_
    dsimp only [binD] at o
    split at o
    · rename_i i j
      split at o
      · rename_i hl
        simp only [Bool.and_eq_true, decide_eq_true_eq] at hl
        obtain rfl := hx.int
        obtain rfl := hy.int
        exact ⟨i, j, rfl, rfl, wide_div hl.1 (bigB_c hl.1 hl.2) (by decide) (by decide), Out.here (u := .int (i / j)) o R (.d (.int _))⟩
      · exact o.elim
    · exact o.elim
  | Mod =>
    refine se_op (f := fun x y M => binD al M .Mod x y) op_mod ha hb fun σ B r H M Q x y v w R hx hy o => ?_
    dsimp only [binD] at o
    split at o
    · rename_i i j
      split at o
      · rename_i hl
        obtain rfl := hx.int
        obtain rfl := hy.int
        exact ⟨i, j, rfl, rfl, hl, Out.here (u := .int (i % j)) o R (.d (.int _))⟩
      · exact o.elim
    · exact o.elim
  | Pow =>
    refine se_op (f := fun x y M => binD al M .Pow x y) op_pow ha hb fun σ B r H M Q x y v w R hx hy o => ?_
    dsimp only [binD] at o
    split at o
    · rename_i i j
      split at o
      · rename_i hl
        simp only [Bool.and_eq_true, decide_eq_true_eq] at hl
        obtain ⟨⟨h1, h2⟩, h3⟩ := hl
        obtain rfl := hx.int
        obtain rfl := hy.int
        exact ⟨i, j, rfl, rfl, ⟨h1, by omega, by omega⟩, Out.here (u := .int (i ^ j.toNat)) o R (.d (.int _))⟩
      · exact o.elim
    · exact o.elim
  | MatMult => exact se_op (f := fun x y M => binD al M .MatMult x y) op_no ha hb fun σ B r H M Q x y v w R hx hy o => o
  | Div => exact se_op (f := fun x y M => binD al M .Div x y) op_no ha hb fun σ B r H M Q x y v w R hx hy o => o
  | LShift => exact se_op (f := fun x y M => binD al M .LShift x y) op_no ha hb fun σ B r H M Q x y v w R hx hy o => o
  | RShift => exact se_op (f := fun x y M => binD al M .RShift x y) op_no ha hb fun σ B r H M Q x y v w R hx hy o => o
  | BitOr => exact se_op (f := fun x y M => binD al M .BitOr x y) op_no ha hb fun σ B r H M Q x y v w R hx hy o => o
  | BitXor => exact se_op (f := fun x y M => binD al M .BitXor x y) op_no ha hb fun σ B r H M Q x y v w R hx hy o => o
  | BitAnd => exact se_op (f := fun x y M => binD al M .BitAnd x y) op_no ha hb fun σ B r H M Q x y v w R hx hy o => o
end
end Gv

namespace Gv
open PySem PySem.Spec L2

/-! ### keys -/
section
variable {K : PySem.W.Frag} {cl : Nat → Addr} {B r : List Addr} {H : Hp} {M : Store}
theorem leaf_ok {x : V} {d : PyData} {k : Key} (h : DR B r H x d) (e : leafK d = some k) : x = kV k := by
  cases h <;> simp only [leafK, Option.some.injEq, reduceCtorEq] at e <;> (subst e; rfl)
theorem leaves_ok : ∀ {xs : List V} {ds : List PyData} {ks : List Key}, DRs B r H xs ds → ds.mapM leafK = some ks → xs = ks.map kV
  | _, _, _, .nil, e => by simp at e; subst e; rfl
  | _, _, ks, .cons (d := d) (ds := ds) a t, e => by
    rw [List.mapM_cons] at e
    cases e1 : leafK d with
    | none => simp [e1] at e
    | some k =>
      cases e2 : ds.mapM leafK with
      | none => simp [e1, e2] at e
      | some ks' =>
        simp [e1, e2] at e
        subst e
        rw [leaf_ok a e1, leaves_ok t e2]
        rfl
theorem DR.key {x : V} {d : PyData} {k : KK} (h : DR B r H x d) (e : keyD d = some k) : (∃ q, k = .inl q ∧ x = kV q) ∨ ∃ qs b, k = .inr qs ∧ x = .ref b ∧ H b = some (.tup (qs.map kV)) := by
  cases h with
  | int i => simp only [keyD, Option.some.injEq] at e; subst e; exact .inl ⟨_, rfl, rfl⟩
  | str z => simp only [keyD, Option.some.injEq] at e; subst e; exact .inl ⟨_, rfl, rfl⟩
  | tup ht l hs =>
    simp only [keyD, Option.map_eq_some_iff] at e
    obtain ⟨ks, e1, rfl⟩ := e
    refine .inr ⟨ks, _, rfl, rfl, ?_⟩
    rw [ht, leaves_ok hs e1]
  | non => simp [keyD] at e
  | bl b => simp [keyD] at e
  | lst h1 h2 h3 h4 h5 => simp [keyD] at e
theorem keyK_ok {t : Bool} {d : PyData} {k : KK} (e : keyK t d = some k) : keyD d = some k ∧ isTk k = t := by
  unfold keyK at e
  split at e
  · rename_i k' e1
    split at e
    · rename_i e2; cases e; exact ⟨e1, e2⟩
    · cases e
  · cases e
section
variable {κ : Type} [DecidableEq κ] {inj : κ → KK} {P : V → Val → Prop}
theorem dget_rel (hi : ∀ a b, inj a = inj b → a = b) (k : κ) : ∀ {xs : List (κ × V)} {kvs : List (KK × Val)}, Paired (fun (p : κ × V) (q : KK × Val) => q.1 = inj p.1 ∧ P p.2 q.2) xs kvs →
    (∀ v, dGet kvs (inj k) = some v → ∃ u, valV xs k = some u ∧ P u v) ∧ (dGet kvs (inj k) = none → valV xs k = none)
  | _, _, .nil => ⟨fun v e => by simp [dGet] at e, fun _ => rfl⟩
  | _, _, .cons (a := p) (b := q) h t => by
    have ih := dget_rel hi k t
    by_cases e : p.1 = k
    · have e' : q.1 = inj k := by rw [h.1, e]
      refine ⟨fun v ev => ⟨p.2, valV_pos e, ?_⟩, fun ev => ?_⟩
      · simp [dGet, List.find?_cons, e'] at ev
        subst ev
        exact h.2
      · simp [dGet, List.find?_cons, e'] at ev
    · have e' : ¬ q.1 = inj k := by
        rw [h.1]
        exact fun z => e (hi _ _ z)
      refine ⟨fun v ev => ?_, fun ev => ?_⟩
      · rw [valV_neg e]
        refine ih.1 v ?_
        simpa [dGet, List.find?_cons, e'] using ev
      · rw [valV_neg e]
        refine ih.2 ?_
        simpa [dGet, List.find?_cons, e'] using ev
theorem dany_rel (hi : ∀ a b, inj a = inj b → a = b) (k : κ) : ∀ {xs : List (κ × V)} {kvs : List (KK × Val)}, Paired (fun (p : κ × V) (q : KK × Val) => q.1 = inj p.1 ∧ P p.2 q.2) xs kvs →
    (xs.any fun kv => decide (kv.1 = k)) = kvs.any fun kv => decide (kv.1 = inj k)
  | _, _, .nil => rfl
  | _, _, .cons (a := p) (b := q) h t => by
    rw [List.any_cons, List.any_cons, dany_rel hi k t, h.1]
    congr 1
    by_cases e : p.1 = k
    · simp [e]
    · have e' : ¬ inj p.1 = inj k := fun z => e (hi _ _ z)
      simp [e, e']
theorem dmap_rel (hi : ∀ a b, inj a = inj b → a = b) (k : κ) {x : V} {v : Val} (hv : P x v) : ∀ {xs : List (κ × V)} {kvs : List (KK × Val)}, Paired (fun (p : κ × V) (q : KK × Val) => q.1 = inj p.1 ∧ P p.2 q.2) xs kvs →
    Paired (fun (p : κ × V) (q : KK × Val) => q.1 = inj p.1 ∧ P p.2 q.2) (xs.map fun kv => if kv.1 = k then (kv.1, x) else kv) (kvs.map fun kv => if kv.1 = inj k then (kv.1, v) else kv)
  | _, _, .nil => .nil
  | _, _, .cons (a := p) (b := q) h t => by
    refine .cons ?_ (dmap_rel hi k hv t)
    by_cases e : p.1 = k
    · have e' : q.1 = inj k := by rw [h.1, e]
      simp only [e, e', if_true]
      exact ⟨trivial, hv⟩
    · have e' : ¬ q.1 = inj k := by
        rw [h.1]
        exact fun z => e (hi _ _ z)
      simp only [e, e', if_false]
      exact h
theorem paired_append {α β : Type} {Q : α → β → Prop} : ∀ {xs xs' : List α} {ys ys' : List β}, Paired Q xs ys → Paired Q xs' ys' → Paired Q (xs ++ xs') (ys ++ ys')
  | _, _, _, _, .nil, h => h
  | _, _, _, _, .cons a t, h => .cons a (paired_append t h)
theorem dput_rel (hi : ∀ a b, inj a = inj b → a = b) (k : κ) {x : V} {v : Val} (hv : P x v) {xs : List (κ × V)} {kvs : List (KK × Val)} (h : Paired (fun (p : κ × V) (q : KK × Val) => q.1 = inj p.1 ∧ P p.2 q.2) xs kvs) :
    Paired (fun (p : κ × V) (q : KK × Val) => q.1 = inj p.1 ∧ P p.2 q.2) (putK xs k x) (dPut kvs (inj k) v) := by
  unfold putK dPut
  rw [dany_rel hi k h]
  split
  · exact dmap_rel hi k hv h
  · exact paired_append h (.cons ⟨rfl, hv⟩ .nil)
end
theorem dPut_len (kvs : List (KK × Val)) (k : KK) (v : Val) : (dPut kvs k v).length ≤ kvs.length + 1 := by
  unfold dPut
  split <;> simp
theorem inl_inj (a b : Key) (h : (Sum.inl a : KK) = Sum.inl b) : a = b := Sum.inl.inj h
theorem inr_inj (a b : List Key) (h : (Sum.inr a : KK) = Sum.inr b) : a = b := Sum.inr.inj h
/-- d's entry at a key -/
theorem dct_get (R : Rel K cl B r M H) {n : Nat} {x y : V} {t : Bool} {kvs : List (KK × Val)} {d : PyData} {k : KK} (hx : VR K cl B r H x (.ref n)) (hm : M[n]? = some (.dct t kvs)) (hy : DR B r H y d) (hk : keyK t d = some k) :
    ∃ p o, x = .ref p ∧ DGet H p y o ∧ (∀ v, dGet kvs k = some v → ∃ u, o = some u ∧ VR K cl B r H u v) ∧ (dGet kvs k = none → o = none) := by
  obtain ⟨p, rfl, hp⟩ := hx.atRef
  obtain ⟨c, e1, hc⟩ := R.mem hp
  rw [hm] at e1
  cases e1
  obtain ⟨kd, kt⟩ := keyK_ok hk
  cases hc with
  | dK h l hs =>
    rcases hy.key kd with ⟨q, rfl, rfl⟩ | ⟨qs, b, rfl, rfl, hb⟩
    · have z := dget_rel (inj := fun k : Key => (Sum.inl k : KK)) (P := VR K cl B r H) inl_inj q hs
      exact ⟨p, _, rfl, DGet.k h, fun v e => by obtain ⟨u, e1, e2⟩ := z.1 v e; exact ⟨u, e1, e2⟩, z.2⟩
    · cases kt
  | dT h l hs =>
    rcases hy.key kd with ⟨q, rfl, rfl⟩ | ⟨qs, b, rfl, rfl, hb⟩
    · cases kt
    · have z := dget_rel (inj := fun k : List Key => (Sum.inr k : KK)) (P := VR K cl B r H) inr_inj qs hs
      exact ⟨p, _, rfl, DGet.t h hb, fun v e => by obtain ⟨u, e1, e2⟩ := z.1 v e; exact ⟨u, e1, e2⟩, z.2⟩
/-- d[k] = v -/
theorem dct_put (R : Rel K cl B r M H) {n : Nat} {x y z : V} {v : Val} {t : Bool} {kvs : List (KK × Val)} {d : PyData} {k : KK} (hx : VR K cl B r H x (.ref n)) (hm : M[n]? = some (.dct t kvs)) (hy : DR B r H y d) (hk : keyK t d = some k) (hv : VR K cl B r H z v) (hl : kvs.length < lim) :
    ∃ p H', x = .ref p ∧ DPut H p y z H' ∧ Grow r H r H' ∧ Rel K cl B r (M.set n (.dct t (dPut kvs k v))) H' := by
  obtain ⟨p, rfl, hp⟩ := hx.atRef
  obtain ⟨c, e1, hc⟩ := R.mem hp
  rw [hm] at e1
  cases e1
  obtain ⟨kd, kt⟩ := keyK_ok hk
  have hl2 : (dPut kvs k v).length ≤ lim := by have := dPut_len kvs k v; omega
  cases hc with
  | dK h l hs =>
    rename_i xs
    rcases hy.key kd with ⟨q, rfl, rfl⟩ | ⟨qs, b, rfl, rfl, hb⟩
    · have g : Grow r H r (upd H p (.dK (putK xs q z))) := R.growW hp
      refine ⟨p, _, rfl, DPut.k h (by rw [Paired.length hs, ← lim_eq]; exact hl), g, R.write hp (.dK upd_same hl2 ?_)⟩
      exact Paired.mapP (dput_rel (inj := fun k : Key => (Sum.inl k : KK)) (P := VR K cl B r H) inl_inj q hv hs) fun _ _ w => ⟨w.1, w.2.mono g⟩
    · cases kt
  | dT h l hs =>
    rename_i xs
    rcases hy.key kd with ⟨q, rfl, rfl⟩ | ⟨qs, b, rfl, rfl, hb⟩
    · cases kt
    · have g : Grow r H r (upd H p (.dT (putK xs qs z))) := R.growW hp
      refine ⟨p, _, rfl, DPut.t h hb (by rw [Paired.length hs, ← lim_eq]; exact hl), g, R.write hp (.dT upd_same hl2 ?_)⟩
      exact Paired.mapP (dput_rel (inj := fun k : List Key => (Sum.inr k : KK)) (P := VR K cl B r H) inr_inj qs hv hs) fun _ _ w => ⟨w.1, w.2.mono g⟩
end
/-! ### in -/
section
variable {X : Cx}
def rDIn (neg : Bool) : R2 := fun y x H Q => ∃ a o, x = .ref a ∧ DGet H a y o ∧ Q (.bl (if neg then !o.isSome else o.isSome)) H
theorem op_dIn (hu : X.A.units + 1 < cLine) : OpR X (compareOp .In) (rDIn false) := by
  intro pins s σ H y x v u Q I ry rx h
  obtain ⟨a, o, rfl, g, q⟩ := h
  cases (show u = Value.ref a from rx)
  exact d_in hu I g ry fun s3 I3 => ⟨.bl o.isSome, H, I3, rfl, q⟩
theorem op_dNotIn (hu : X.A.units + 1 < cLine) : OpR X (compareOp .NotIn) (rDIn true) := by
  intro pins s σ H y x v u Q I ry rx h
  obtain ⟨a, o, rfl, g, q⟩ := h
  cases (show u = Value.ref a from rx)
  exact d_notIn hu I g ry fun s3 I3 => ⟨.bl (!o.isSome), H, I3, rfl, q⟩
theorem flat_ok {B r : List Addr} {H : Hp} {x : V} {d : PyData} (h : DR B r H x d) (e : flatD d = true) : flatV x = true := by
  cases h <;> first | rfl | cases e
theorem flats_ok {B r : List Addr} {H : Hp} : ∀ {xs : List V} {ds : List PyData}, DRs B r H xs ds → ds.all flatD = true → xs.all flatV = true
  | _, _, .nil, _ => rfl
  | _, _, .cons a t, e => by
    simp only [List.all_cons, Bool.and_eq_true] at e ⊢
    exact ⟨flat_ok a e.1, flats_ok t e.2⟩
theorem eqF_ok {B r : List Addr} {H : Hp} {x y : V} {c d : PyData} (hx : DR B r H x c) (hy : DR B r H y d) (fx : flatD c = true) (fy : flatD d = true) : eqV x y = eqF c d := by
  cases hx with
  | non => cases hy <;> first | rfl | cases fy
  | bl a =>
    cases hy with
    | bl b => cases a <;> cases b <;> rfl
    | int b => exact Bool.beq_eq_decide_eq _ _
    | lst _ _ _ _ _ => cases fy
    | tup _ _ _ => cases fy
    | _ => rfl
  | int a =>
    cases hy with
    | bl b => exact Bool.beq_eq_decide_eq _ _
    | int b => exact Bool.beq_eq_decide_eq _ _
    | lst _ _ _ _ _ => cases fy
    | tup _ _ _ => cases fy
    | _ => rfl
  | str a =>
    cases hy with
    | str b =>
      show (a == b) = decide (a = b)
      by_cases e : a = b
      · simp [e]
      · rw [decide_eq_false e]
        exact beq_eq_false_iff_ne.mpr e
    | lst _ _ _ _ _ => cases fy
    | tup _ _ _ => cases fy
    | _ => rfl
  | lst _ _ _ _ _ => cases fx
  | tup _ _ _ => cases fx
theorem inV_ok {B r : List Addr} {H : Hp} {x : V} {c : PyData} (hx : DR B r H x c) (fx : flatD c = true) : ∀ {xs : List V} {ds : List PyData}, DRs B r H xs ds → ds.all flatD = true → inV x xs = ds.any fun z => eqF z c
  | _, _, .nil, _ => rfl
  | _, _, .cons a t, e => by
    simp only [List.all_cons, Bool.and_eq_true] at e
    have ih := inV_ok hx fx t e.2
    unfold inV at ih ⊢
    rw [List.any_cons, List.any_cons, ih, eqF_ok a hx e.1 fx]
end
end Gv

namespace Gv
open PySem PySem.Spec L2

/-! ### data that is compared -/
theorem okD_ok : ∀ (n : Nat) (d : PyData), okD n d = true → d.canLay0 = true ∧ d.depth ≤ n
  | _, .none, _ => by simp [PyData.canLay0, PyData.depth]
  | _, .bool _, _ => by simp [PyData.canLay0, PyData.depth]
  | _, .int _, _ => by simp [PyData.canLay0, PyData.depth]
  | n, .str x, h => by
    have h' : PyData.strOk x = true := by cases n <;> simpa [okD] using h
    simp [PyData.canLay0, PyData.depth, h']
  | 0, .list xs, h => by simp [okD] at h
  | 0, .tuple xs, h => by simp [okD] at h
  | n + 1, .list xs, h => by
    have h' : ∀ x ∈ xs, okD n x = true := by simpa [okD, List.all_eq_true] using h
    have : ∀ ys : List PyData, (∀ x ∈ ys, okD n x = true) → PyData.canLayAll0 ys = true ∧ PyData.depthAll ys ≤ n := by
      intro ys
      induction ys with
      | nil => intro _; simp [PyData.canLayAll0, PyData.depthAll]
      | cons y ys ih =>
        intro hy
        have h1 := okD_ok n y (hy y (by simp))
        have h2 := ih fun x hx => hy x (by simp [hx])
        simp [PyData.canLayAll0, PyData.depthAll, h1.1, h2.1]
        omega
    have q := this xs h'
    simp [PyData.canLay0, PyData.depth, q.1]
    omega
  | n + 1, .tuple xs, h => by
    have h' : ∀ x ∈ xs, okD n x = true := by simpa [okD, List.all_eq_true] using h
    have : ∀ ys : List PyData, (∀ x ∈ ys, okD n x = true) → PyData.canLayAll0 ys = true ∧ PyData.depthAll ys ≤ n := by
      intro ys
      induction ys with
      | nil => intro _; simp [PyData.canLayAll0, PyData.depthAll]
      | cons y ys ih =>
        intro hy
        have h1 := okD_ok n y (hy y (by simp))
        have h2 := ih fun x hx => hy x (by simp [hx])
        simp [PyData.canLayAll0, PyData.depthAll, h1.1, h2.1]
        omega
    have q := this xs h'
    simp [PyData.canLay0, PyData.depth, q.1]
    omega
  | n, .dict _, h => by cases n <;> simp [okD] at h
theorem okD_shaped {n : Nat} {d : PyData} (h : okD n d = true) (hn : n ≤ 64) : SeqAt.shaped d = true := by
  obtain ⟨a, b⟩ := okD_ok n d h
  unfold SeqAt.shaped
  simp [a]
  omega

section
variable {K : PySem.W.Frag} {cl : Nat → Addr} {B : List Addr} {r : List Addr} {H : Hp} {M : Store}
theorem mapM_dp {f : Val → Option PyData} (hf : ∀ x v d, VR K cl B r H x v → f v = some d → Dp K H x d) : ∀ {xs : List V} {vs : List Val} {ds : List PyData}, VRs K cl B r H xs vs → vs.mapM f = some ds → DpAll K H xs ds
  | _, _, _, .nil, e => by simp at e; subst e; exact .nil
  | _, _, ds, .cons (a := x) (b := v) h t, e => by
    rw [List.mapM_cons] at e
    cases e1 : f v with
    | none => simp [e1] at e
    | some d =>
      rename_i vs
      cases e2 : List.mapM f vs with
      | none => simp [e1, e2] at e
      | some ds' =>
        simp [e1, e2] at e
        subst e
        exact .cons (hf _ _ _ h e1) (mapM_dp hf t e2)
theorem frz_dp (R : Rel K cl B r M H) (n0 : Nat) : ∀ (n : Nat) (x : V) (v : Val) (d : PyData), VR K cl B r H x v → frz n0 n M v = some d → Dp K H x d
  | n, x, .d y, d, h, e => by
    have e' : y = d := by cases n <;> simpa [frz] using e
    subst e'
    exact h.inv.dp
  | 0, x, .ref a, d, h, e => by simp [frz] at e
  | n + 1, x, .ref a, d, h, e => by
    obtain ⟨p, rfl, hp⟩ := h.atRef
    obtain ⟨c, e1, hc⟩ := R.mem hp
    simp only [frz] at e
    split at e
    · cases e
    · cases hc with
      | lst h' l hs =>
        rw [e1] at e
        simp only [Option.map_eq_some_iff] at e
        obtain ⟨ds, e2, rfl⟩ := e
        exact .lst (.inl (.inl h')) (mapM_dp (fun x v d hv hd => frz_dp R n0 n x v d hv hd) hs e2)
      | dK h' l hs => rw [e1] at e; cases e
      | dT h' l hs => rw [e1] at e; cases e
      | ins h' ho nb n ci hs => rw [e1] at e; cases e
      | tup h' l hs =>
        rw [e1] at e
        simp only [Option.map_eq_some_iff] at e
        obtain ⟨ds, e2, rfl⟩ := e
        exact .tup (.inl (.inl h')) (mapM_dp (fun x v d hv hd => frz_dp R n0 n x v d hv hd) hs e2)
  | 0, x, .exc c, d, h, e => by simp [frz] at e
  | n + 1, x, .exc c, d, h, e => by simp [frz] at e
  | 0, x, .scr c, d, h, e => by simp [frz] at e
  | n + 1, x, .scr c, d, h, e => by simp [frz] at e
theorem VR.view (R : Rel K cl B r M H) {x : V} {v : Val} {d : PyData} (h : VR K cl B r H x v) (e : Gv.view M v = some d) : Dp K H x d := frz_dp R 0 8 x v d h e
theorem VR.isNone {x : V} {v : Val} (h : VR K cl B r H x v) : Gv.isNone v = decide (x = .non) := by
  cases h with
  | d h => cases h <;> simp [Gv.isNone]
  | ref h => simp [Gv.isNone]
  | exc h nb n => simp [Gv.isNone]
  | scr h => simp [Gv.isNone]
end

section
variable {X : Cx} {cl : Nat → Addr} {W : WX} {a b c : Expr} {ga gb gc : Slots → Store → R Val} {pos : Pos} {F : FEnv}

/-- a comparison by values -/
structure CmpR (X : Cx) (cl : Nat → Addr) (W : WX) (op : CmpOp) (rr : R2) : Prop where
  run : OpR X (compareOp op) rr
  ok : ∀ (σ : L2.St) (B r : List Addr) (H : Hp) (M : Store) (Q : VK) (x y : V) (v w : Val), Rel X.K cl B r M H → VR X.K cl B r H x v → VR X.K cl B r H y w → Out X.K cl (VR X.K cl B) W σ B r H (cmpD M op v w) (KQ Q) → rr x y H Q
theorem bl_ok {K : PySem.W.Frag} {σ : L2.St} {B r : List Addr} {H : Hp} {M : Store} {Q : VK} {z : Bool} (R : Rel K cl B r M H) (o : Out K cl (VR K cl B) W σ B r H (bl z M) (KQ Q)) : Q (.bl z) H :=
  Out.here (u := .bl z) o R (.d (.bl z))
theorem cmp_int {op : CmpOp} {f : Int → Int → Bool} (ho : OpR X (compareOp op) (rI0 fun i j => .bl (f i j)))
    (he : ∀ M v w, cmpD M op v w = (match v, w with | .d (.int i), .d (.int j) => bl (f i j) M | _, _ => .bad)) : CmpR X cl W op (rI0 fun i j => .bl (f i j)) :=
  ⟨ho, fun σ B r H M Q x y v w R hx hy o => by
    rw [he] at o
    split at o
    · rename_i i j
      obtain rfl := hx.int
      obtain rfl := hy.int
      exact ⟨i, j, rfl, rfl, bl_ok R o⟩
    · exact o.elim⟩
theorem in_lst {K : PySem.W.Frag} {B r : List Addr} {H : Hp} {M : Store} {x y : V} {v w : Val} {b : Bool} (R : Rel K cl B r M H) (hx : VR K cl B r H x v) (hy : VR K cl B r H y w)
    (e : (match view M v, lstD M w with | some a, some ds => if okD 30 a && ds.all (okD 30) then some (ds.any fun z => PyData.eqv z a) else none | _, _ => none) = some b) :
    ∃ d ds, Dp K H x d ∧ Dp K H y (.list ds) ∧ SeqAt.shaped d = true ∧ SeqAt.shaped (.list ds) = true ∧ b = ds.any fun z => PyData.eqv z d := by
  split at e
  · rename_i d1 ds e1 e2
    split at e
    · rename_i ho
      simp only [Bool.and_eq_true] at ho
      simp only [Option.some.injEq] at e
      subst e
      obtain ⟨p, xs, rfl, hp, hd, hl⟩ := VR.lstD R hy e2
      exact ⟨d1, ds, hx.view R e1, .lst (.inl (.inl hp)) hd.dp, okD_shaped ho.1 (by decide), okD_shaped (n := 31) (by simpa [okD] using ho.2) (by decide), rfl⟩
    · cases e
  · cases e
theorem in_data {K : PySem.W.Frag} {B r : List Addr} {H : Hp} {M : Store} {x y : V} {v w : Val} {b : Bool} (R : Rel K cl B r M H) (hx : VR K cl B r H x v) (hy : VR K cl B r H y w) (e : inD M v w = some b) :
    (∃ i j, x = .str i ∧ y = .str j ∧ b = inStr i j) ∨ (∃ p xs, y = .ref p ∧ SqT K H p xs ∧ flatV x = true ∧ xs.all flatV = true ∧ b = inV x xs) ∨ (∃ a o, y = .ref a ∧ DGet H a x o ∧ b = o.isSome) ∨
      (∃ d ds, Dp K H x d ∧ Dp K H y (.list ds) ∧ SeqAt.shaped d = true ∧ SeqAt.shaped (.list ds) = true ∧ b = ds.any fun z => PyData.eqv z d) := by
  unfold inD at e
  split at e
  · rename_i i j
    simp only [Option.some.injEq] at e
    exact .inl ⟨i, j, hx.str, hy.str, e.symm⟩
  · rename_i a ds
    split at e
    · rename_i hf
      simp only [Bool.and_eq_true] at hf
      simp only [Option.some.injEq] at e
      obtain ⟨p, xs, rfl, hp, _, hs⟩ := hy.tuple
      exact .inr (.inl ⟨p, xs, rfl, .inl (.inl hp), flat_ok hx.inv hf.1, flats_ok hs hf.2, by rw [← e, inV_ok hx.inv hf.1 hs hf.2]⟩)
    · cases e
  · rename_i n
    split at e
    · rename_i t kvs em
      unfold inDct at e
      split at e
      · rename_i d
        simp only [Option.map_eq_some_iff] at e
        obtain ⟨k, ek, eb⟩ := e
        obtain ⟨p, ov, rfl, g, h1, h2⟩ := dct_get R hy em hx.inv ek
        refine .inr (.inr (.inl ⟨p, ov, rfl, g, ?_⟩))
        cases q : dGet kvs k with
        | some u => obtain ⟨u', rfl, _⟩ := h1 u q; rw [q] at eb; rw [← eb]; rfl
        | none => rw [h2 q]; rw [q] at eb; rw [← eb]; rfl
      · cases e
    · exact .inr (.inr (.inr (in_lst R hx hy e)))
  · exact .inr (.inr (.inr (in_lst R hx hy e)))
theorem cmp_all (hu : X.A.units + 65 < cLine) (op : CmpOp) : ∃ rr, CmpR X cl W op rr := by
  cases op with
  | Lt =>
    refine ⟨_, op_lt.or op_lt_str, fun σ B r H M Q x y v w R hx hy o => ?_⟩
    dsimp only [cmpD] at o
    split at o
    · rename_i i j
      obtain rfl := hx.int
      obtain rfl := hy.int
      exact .inl ⟨i, j, rfl, rfl, bl_ok R o⟩
    · rename_i i j
      obtain rfl := hx.str
      obtain rfl := hy.str
      exact .inr ⟨i, j, rfl, rfl, bl_ok R o⟩
    · exact o.elim
  | LtE => exact ⟨_, cmp_int op_le fun M v w => rfl⟩
  | Gt => exact ⟨_, cmp_int op_gt fun M v w => rfl⟩
  | GtE => exact ⟨_, cmp_int op_ge fun M v w => rfl⟩
  | Eq =>
    refine ⟨_, op_eqD (by omega), fun σ B r H M Q x y v w R hx hy o => ?_⟩
    dsimp only [cmpD, eqD] at o
    split at o
    · rename_i b e
      split at e
      · rename_i d1 d2 e1 e2
        split at e
        · rename_i ho
          simp only [Bool.and_eq_true] at ho
          simp only [Option.some.injEq] at e
          subst e
          exact ⟨d1, d2, hx.view R e1, hy.view R e2, okD_shaped ho.1 (by decide), okD_shaped ho.2 (by decide), bl_ok R o⟩
        · cases e
      · cases e
    · exact o.elim
  | NotEq =>
    refine ⟨_, op_neD (by omega), fun σ B r H M Q x y v w R hx hy o => ?_⟩
    dsimp only [cmpD, eqD] at o
    split at o
    · rename_i b e
      split at e
      · rename_i d1 d2 e1 e2
        split at e
        · rename_i ho
          simp only [Bool.and_eq_true] at ho
          simp only [Option.some.injEq] at e
          subst e
          exact ⟨d1, d2, hx.view R e1, hy.view R e2, okD_shaped ho.1 (by decide), okD_shaped ho.2 (by decide), bl_ok R o⟩
        · cases e
      · cases e
    · exact o.elim
  | Is =>
    refine ⟨_, op_isN.or op_isBl, fun σ B r H M Q x y v w R hx hy o => ?_⟩
    dsimp only [cmpD] at o
    split at o
    · obtain rfl := hy.none
      rw [hx.isNone] at o
      exact .inl ⟨rfl, bl_ok R o⟩
    · rename_i i j
      obtain rfl := hx.bool
      obtain rfl := hy.bool
      exact .inr ⟨i, j, rfl, rfl, bl_ok R o⟩
    · exact o.elim
  | IsNot =>
    refine ⟨_, op_notN.or op_notBl, fun σ B r H M Q x y v w R hx hy o => ?_⟩
    dsimp only [cmpD] at o
    split at o
    · obtain rfl := hy.none
      rw [hx.isNone] at o
      exact .inl ⟨rfl, bl_ok R o⟩
    · rename_i i j
      obtain rfl := hx.bool
      obtain rfl := hy.bool
      exact .inr ⟨i, j, rfl, rfl, bl_ok R o⟩
    · exact o.elim
  | In =>
    refine ⟨_, op_in_str.or (op_in_seq.or ((op_dIn (by omega)).or (op_inD hu))), fun σ B r H M Q x y v w R hx hy o => ?_⟩
    dsimp only [cmpD] at o
    split at o
    · rename_i b e
      rcases in_data R hx hy e with ⟨i, j, rfl, rfl, rfl⟩ | ⟨p, xs, rfl, h1, h2, h3, rfl⟩ | ⟨p, ov, rfl, g, rfl⟩ | ⟨d, ds, h1, h2, h3, h4, rfl⟩
      · exact .inl ⟨i, j, rfl, rfl, bl_ok R o⟩
      · exact .inr (.inl ⟨p, xs, rfl, .inr h1, h2, h3, bl_ok R o⟩)
      · exact .inr (.inr (.inl ⟨p, ov, rfl, g, bl_ok R o⟩))
      · exact .inr (.inr (.inr ⟨d, ds, h1, h2, h3, h4, bl_ok R o⟩))
    · exact o.elim
  | NotIn =>
    refine ⟨_, op_notIn_str.or (op_notIn_seq.or ((op_dNotIn (by omega)).or (op_notInD hu))), fun σ B r H M Q x y v w R hx hy o => ?_⟩
    dsimp only [cmpD] at o
    split at o
    · rename_i b e
      rcases in_data R hx hy e with ⟨i, j, rfl, rfl, rfl⟩ | ⟨p, xs, rfl, h1, h2, h3, rfl⟩ | ⟨p, ov, rfl, g, rfl⟩ | ⟨d, ds, h1, h2, h3, h4, rfl⟩
      · exact .inl ⟨i, j, rfl, rfl, bl_ok R o⟩
      · exact .inr (.inl ⟨p, xs, rfl, .inr h1, h2, h3, bl_ok R o⟩)
      · exact .inr (.inr (.inl ⟨p, ov, rfl, g, bl_ok R o⟩))
      · exact .inr (.inr (.inr ⟨d, ds, h1, h2, h3, h4, bl_ok R o⟩))
    · exact o.elim

/-- a test's wish as an expression's -/
theorem tT {K : PySem.W.Frag} {g : Slots → Store → R Val} {σ : L2.St} {H : Hp} {Q : Bool → Hp → Prop} (h : rdT K cl W g σ H Q) : rdE K cl W g σ H (fun x H' => ∃ k, x = .bl k ∧ Q k H') := by
  obtain ⟨B, r, M, s, R, S, o⟩ := h
  exact ⟨B, r, M, s, R, S, o.imp fun u v r1 M1 H1 g1 R1 v1 ⟨b, e, q⟩ => ⟨b, by subst e; exact v1.bool, q⟩⟩
theorem cmp_imp {op : CmpOp} {rr : R2} (hc : CmpR X cl W op rr) {σ : L2.St} {H : Hp} {Q : VK} (h : rdE X.K cl W (fun s M => (ga s M).bind fun x M => (gb s M).bind fun y M => cmpD M op x y) σ H Q) :
    tOp rr (rdE X.K cl W ga) (rdE X.K cl W gb) σ H Q := by
  obtain ⟨B, r, M, s, R, S, o⟩ := h
  exact ⟨B, r, M, s, R, S, o.step fun x v r1 M1 H1 g1 R1 v1 o1 =>
    ⟨B, r1, M1, s, R1, S.mono g1, o1.step fun y w r2 M2 H2 g2 R2 v2 o2 => hc.ok σ B r2 H2 M2 Q x y v w R2 (v1.mono g2) v2 o2⟩⟩
theorem se_cmp (hu : X.A.units + 65 < cLine) {op : CmpOp} (hm : behindInMarks op b = false) (ha : SE X cl W a ga) (hb : SE X cl W b gb) : SE X cl W (.Compare a [op] [b] pos) (fun s M => (ga s M).bind fun x M => (gb s M).bind fun y M => cmpD M op x y) := by
  obtain ⟨rr, hc⟩ := cmp_all (cl := cl) (W := W) hu op
  exact PE.imp (pe_cmpR hc.run ha hb hm) fun σ H Q h => cmp_imp hc h
theorem st_cmp (hu : X.A.units + 65 < cLine) {op : CmpOp} (hm : behindInMarks op b = false) (ha : SE X cl W a ga) (hb : SE X cl W b gb) : ST X cl W (.Compare a [op] [b] pos) (fun s M => (ga s M).bind fun x M => (gb s M).bind fun y M => cmpD M op x y) := by
  obtain ⟨rr, hc⟩ := cmp_all (cl := cl) (W := W) hu op
  exact PT.imp (pt_cmpR hc.run ha hb hm) fun σ H Q h => cmp_imp hc (tT h)
theorem chain_imp {op op' : CmpOp} {rr rr' : R2} (hc : CmpR X cl W op rr) (hc' : CmpR X cl W op' rr') {σ : L2.St} {H : Hp} {Q : VK}
    (h : rdE X.K cl W (fun s M => (ga s M).bind fun x M => (gb s M).bind fun y M => (cmpD M op x y).bind fun z M => brV z M (fun M => (gc s M).bind fun w M => cmpD M op' y w) (fun M => bl false M)) σ H Q) :
    tChain rr rr' (rdE X.K cl W ga) (rdE X.K cl W gb) (rdE X.K cl W gc) σ H Q := by
  obtain ⟨B, r, M, s, R, S, o⟩ := h
  refine ⟨B, r, M, s, R, S, o.step fun x v r1 M1 H1 g1 R1 v1 o1 => ⟨B, r1, M1, s, R1, S.mono g1, o1.step fun y w r2 M2 H2 g2 R2 v2 o2 => ?_⟩⟩
  refine hc.ok σ B r2 H2 M2 _ x y v w R2 (v1.mono g2) v2 (o2.step fun z u r3 M3 H3 g3 R3 v3 o3 => ?_)
  unfold brV at o3
  split at o3
  · obtain rfl := v3.bool
    refine ⟨true, rfl, ?_⟩
    rw [if_pos rfl]
    exact ⟨B, r3, M3, s, R3, ((S.mono g1).mono g2).mono g3, o3.step fun z' u' r4 M4 H4 g4 R4 v4 o4 => hc'.ok σ B r4 H4 M4 Q y z' w u' R4 ((v2.mono g3).mono g4) v4 o4⟩
  · obtain rfl := v3.bool
    exact ⟨false, rfl, by rw [if_neg Bool.false_ne_true]; exact bl_ok R3 o3⟩
  · exact o3.elim
theorem se_chain (hu : X.A.units + 65 < cLine) {op op' : CmpOp} (hm : lastMarks [op, op'] [b, c] = false) (ha : SE X cl W a ga) (hb : SE X cl W b gb) (hgc : SE X cl W c gc) :
    SE X cl W (.Compare a [op, op'] [b, c] pos) (fun s M => (ga s M).bind fun x M => (gb s M).bind fun y M => (cmpD M op x y).bind fun z M => brV z M (fun M => (gc s M).bind fun w M => cmpD M op' y w) (fun M => bl false M)) := by
  obtain ⟨rr, hc⟩ := cmp_all (cl := cl) (W := W) hu op
  obtain ⟨rr', hc'⟩ := cmp_all (cl := cl) (W := W) hu op'
  exact PE.imp (pe_chain hc.run hc'.run ha hb hgc hm) fun σ H Q h => chain_imp hc hc' h
theorem st_chain (hu : X.A.units + 65 < cLine) {op op' : CmpOp} (hm : lastMarks [op, op'] [b, c] = false) (ha : SE X cl W a ga) (hb : SE X cl W b gb) (hgc : SE X cl W c gc) :
    ST X cl W (.Compare a [op, op'] [b, c] pos) (fun s M => (ga s M).bind fun x M => (gb s M).bind fun y M => (cmpD M op x y).bind fun z M => brV z M (fun M => (gc s M).bind fun w M => cmpD M op' y w) (fun M => bl false M)) := by
  obtain ⟨rr, hc⟩ := cmp_all (cl := cl) (W := W) hu op
  obtain ⟨rr', hc'⟩ := cmp_all (cl := cl) (W := W) hu op'
  exact PT.imp (pt_chain hc.run hc'.run ha hb hgc hm) fun σ H Q h => chain_imp hc hc' (tT h)
/-- a op1 b op2 c op3 d -/
def tChain3 (r r' r2 : R2) (ta tb tc td : TE) : TE := fun σ H Q => ta σ H fun x H1 => tb σ H1 fun y H2 => r x y H2 fun z H3 => ∃ k, z = .bl k ∧
  (if k = true then tc σ H3 fun w H4 => r' y w H4 fun z2 H5 => ∃ k2, z2 = .bl k2 ∧ (if k2 = true then td σ H5 fun u H6 => r2 w u H6 Q else Q (.bl false) H5) else Q (.bl false) H3)
open PyProof.Rows in
theorem pe_chain3 {a b c d : Expr} {ta tb tc td : TE} {op op' op2 : CmpOp} {r r' r2 : R2} (ho : OpR X (compareOp op) r) (ho' : OpR X (compareOp op') r') (ho2 : OpR X (compareOp op2) r2) (ha : PE X a ta) (hb : PE X b tb) (hc : PE X c tc) (hd : PE X d td)
    (hm : lastMarks [op, op', op2] [b, c, d] = false) : PE X (.Compare a [op, op', op2] [b, c, d] pos) (tChain3 r r' r2 ta tb tc td) := by
  refine ⟨fun pins s σ H Q I h => ?_⟩
  refine Compare_chain (thn (ha.run pins s σ H _ I h) fun v s1 ⟨x, H1, I1, r1, q1⟩ => chain_link (thn (hb.run pins s1 σ H1 _ I1 q1) fun u s2 ⟨y, H2, I2, r2', q2⟩ =>
    thn (ho pins s2 σ H2 x y v u _ I2 r1 r2' q2) fun d s3 ⟨z, H3, I3, r3, k, e, q3⟩ => ?_)) hm
  subst e
  cases r3
  refine wpAny_truthy_bool ?_
  cases k with
  | false => exact ite_ff ⟨.bl false, H3, I3, rfl, q3⟩
  | true =>
    refine ite_tt (chain_link (thn (hc.run pins s3 σ H3 _ I3 q3) fun w' s4 ⟨z', H4, I4, r4, q4⟩ => thn (ho' pins s4 σ H4 y z' u w' _ I4 r2' r4 q4) fun d' s5 ⟨z2, H5, I5, r5, k2, e2, q5⟩ => ?_))
    subst e2
    cases r5
    refine wpAny_truthy_bool ?_
    cases k2 with
    | false => exact ite_ff ⟨.bl false, H5, I5, rfl, q5⟩
    | true => exact ite_tt (chain_last (thn (hd.run pins s5 σ H5 _ I5 q5) fun w2 s6 ⟨z6, H6, I6, r6, q6⟩ => ho2 pins s6 σ H6 z' z6 w' w2 Q I6 r4 r6 q6))
open PyProof.Rows in
theorem pt_chain3 {a b c d : Expr} {ta tb tc td : TE} {op op' op2 : CmpOp} {r r' r2 : R2} (ho : OpR X (compareOp op) r) (ho' : OpR X (compareOp op') r') (ho2 : OpR X (compareOp op2) r2) (ha : PE X a ta) (hb : PE X b tb) (hc : PE X c tc) (hd : PE X d td)
    (hm : lastMarks [op, op', op2] [b, c, d] = false) : PT X (.Compare a [op, op', op2] [b, c, d] pos) (tTest (tChain3 r r' r2 ta tb tc td)) := by
  refine ⟨fun pins s σ H Q I h => ?_⟩
  refine isTrue_chain (thn (ha.run pins s σ H _ I h) fun v s1 ⟨x, H1, I1, r1, q1⟩ => test_link (thn (hb.run pins s1 σ H1 _ I1 q1) fun u s2 ⟨y, H2, I2, r2', q2⟩ =>
    thn (ho pins s2 σ H2 x y v u _ I2 r1 r2' q2) fun d s3 ⟨z, H3, I3, r3, k, e, q3⟩ => ?_)) hm
  subst e
  cases r3
  refine wpAny_truthy_bool ?_
  cases k with
  | false =>
    obtain ⟨k', e', q'⟩ := q3
    cases e'
    exact ite_ff ⟨H3, I3, q'⟩
  | true =>
    refine ite_tt (test_link (thn (hc.run pins s3 σ H3 _ I3 q3) fun w' s4 ⟨z', H4, I4, r4, q4⟩ => thn (ho' pins s4 σ H4 y z' u w' _ I4 r2' r4 q4) fun d' s5 ⟨z2, H5, I5, r5, k2, e2, q5⟩ => ?_))
    subst e2
    cases r5
    refine wpAny_truthy_bool ?_
    cases k2 with
    | false =>
      obtain ⟨k', e', q'⟩ := q5
      cases e'
      exact ite_ff ⟨H5, I5, q'⟩
    | true =>
      refine ite_tt (test_last (thn (hd.run pins s5 σ H5 _ I5 q5) fun w2 s6 ⟨z6, H6, I6, r6, q6⟩ => thn (ho2 pins s6 σ H6 z' z6 w' w2 _ I6 r4 r6 q6) fun d2 s7 ⟨z7, H7, I7, r7, k7, e7, q7⟩ => ?_))
      subst e7
      cases r7
      exact wpAny_truthy_bool ⟨H7, I7, q7⟩
theorem chain3_imp {d : Expr} {gd : Slots → Store → R Val} {op op' op2 : CmpOp} {rr rr' rr2 : R2} (hc : CmpR X cl W op rr) (hc' : CmpR X cl W op' rr') (hc2 : CmpR X cl W op2 rr2) {σ : L2.St} {H : Hp} {Q : VK}
    (h : rdE X.K cl W (fun s M => (ga s M).bind fun x M => (gb s M).bind fun y M => (cmpD M op x y).bind fun z M => brV z M (fun M => (gc s M).bind fun w M => (cmpD M op' y w).bind fun z M => brV z M (fun M => (gd s M).bind fun u M => cmpD M op2 w u) (fun M => bl false M)) (fun M => bl false M)) σ H Q) :
    tChain3 rr rr' rr2 (rdE X.K cl W ga) (rdE X.K cl W gb) (rdE X.K cl W gc) (rdE X.K cl W gd) σ H Q := by
  obtain ⟨B, r, M, s, R, S, o⟩ := h
  refine ⟨B, r, M, s, R, S, o.step fun x v r1 M1 H1 g1 R1 v1 o1 => ⟨B, r1, M1, s, R1, S.mono g1, o1.step fun y w r2 M2 H2 g2 R2 v2 o2 => ?_⟩⟩
  refine hc.ok σ B r2 H2 M2 _ x y v w R2 (v1.mono g2) v2 (o2.step fun z u r3 M3 H3 g3 R3 v3 o3 => ?_)
  unfold brV at o3
  split at o3
  · obtain rfl := v3.bool
    refine ⟨true, rfl, ?_⟩
    rw [if_pos rfl]
    refine ⟨B, r3, M3, s, R3, ((S.mono g1).mono g2).mono g3, o3.step fun z' u' r4 M4 H4 g4 R4 v4 o4 => ?_⟩
    refine hc'.ok σ B r4 H4 M4 _ y z' w u' R4 ((v2.mono g3).mono g4) v4 (o4.step fun z5 u5 r5 M5 H5 g5 R5 v5 o5 => ?_)
    unfold brV at o5
    split at o5
    · obtain rfl := v5.bool
      refine ⟨true, rfl, ?_⟩
      rw [if_pos rfl]
      exact ⟨B, r5, M5, s, R5, ((((S.mono g1).mono g2).mono g3).mono g4).mono g5, o5.step fun z6 u6 r6 M6 H6 g6 R6 v6 o6 => hc2.ok σ B r6 H6 M6 Q z' z6 u' u6 R6 ((v4.mono g5).mono g6) v6 o6⟩
    · obtain rfl := v5.bool
      exact ⟨false, rfl, by rw [if_neg Bool.false_ne_true]; exact bl_ok R5 o5⟩
    · exact o5.elim
  · obtain rfl := v3.bool
    exact ⟨false, rfl, by rw [if_neg Bool.false_ne_true]; exact bl_ok R3 o3⟩
  · exact o3.elim
theorem se_chain3 {d : Expr} {gd : Slots → Store → R Val} (hu : X.A.units + 65 < cLine) {op op' op2 : CmpOp} (hm : lastMarks [op, op', op2] [b, c, d] = false) (ha : SE X cl W a ga) (hb : SE X cl W b gb) (hgc : SE X cl W c gc) (hgd : SE X cl W d gd) :
    SE X cl W (.Compare a [op, op', op2] [b, c, d] pos) (fun s M => (ga s M).bind fun x M => (gb s M).bind fun y M => (cmpD M op x y).bind fun z M => brV z M (fun M => (gc s M).bind fun w M => (cmpD M op' y w).bind fun z M => brV z M (fun M => (gd s M).bind fun u M => cmpD M op2 w u) (fun M => bl false M)) (fun M => bl false M)) := by
  obtain ⟨rr, hc⟩ := cmp_all (cl := cl) (W := W) hu op
  obtain ⟨rr', hc'⟩ := cmp_all (cl := cl) (W := W) hu op'
  obtain ⟨rr2, hc2⟩ := cmp_all (cl := cl) (W := W) hu op2
  exact PE.imp (pe_chain3 hc.run hc'.run hc2.run ha hb hgc hgd hm) fun σ H Q h => chain3_imp (d := d) hc hc' hc2 h
theorem st_chain3 {d : Expr} {gd : Slots → Store → R Val} (hu : X.A.units + 65 < cLine) {op op' op2 : CmpOp} (hm : lastMarks [op, op', op2] [b, c, d] = false) (ha : SE X cl W a ga) (hb : SE X cl W b gb) (hgc : SE X cl W c gc) (hgd : SE X cl W d gd) :
    ST X cl W (.Compare a [op, op', op2] [b, c, d] pos) (fun s M => (ga s M).bind fun x M => (gb s M).bind fun y M => (cmpD M op x y).bind fun z M => brV z M (fun M => (gc s M).bind fun w M => (cmpD M op' y w).bind fun z M => brV z M (fun M => (gd s M).bind fun u M => cmpD M op2 w u) (fun M => bl false M)) (fun M => bl false M)) := by
  obtain ⟨rr, hc⟩ := cmp_all (cl := cl) (W := W) hu op
  obtain ⟨rr', hc'⟩ := cmp_all (cl := cl) (W := W) hu op'
  obtain ⟨rr2, hc2⟩ := cmp_all (cl := cl) (W := W) hu op2
  exact PT.imp (pt_chain3 hc.run hc'.run hc2.run ha hb hgc hgd hm) fun σ H Q h => chain3_imp (d := d) hc hc' hc2 (tT h)
end
end Gv

namespace Gv
open PySem PySem.Spec PyProof.Rows L2
section
variable {X : Cx} {cl : Nat → Addr} {W : WX} {a b c e : Expr} {es : List Expr} {ga gb gc ge : Slots → Store → R Val} {gs : Slots → Store → R (List Val)} {pos : Pos} {F : FEnv} {rest : List Expr}

/-! ### tests, and, or, not -/
abbrev SW (X : Cx) (cl : Nat → Addr) (W : WX) (e : Expr) (g : Slots → Store → R Val) : Prop := PW X e (rdT X.K cl W g)
def eNot (g : Slots → Store → R Val) : Slots → Store → R Val := fun s M => (g s M).bind fun x M => (match x with | .d (.bool b) => bl (!b) M | _ => .bad)
def eAnd (f g : Slots → Store → R Val) : Slots → Store → R Val := fun s M => (f s M).bind fun x M => brV x M (fun M => g s M) (fun M => bl false M)
def eOr (f g : Slots → Store → R Val) : Slots → Store → R Val := fun s M => (f s M).bind fun x M => brV x M (fun M => bl true M) (fun M => g s M)
def eIf (c f g : Slots → Store → R Val) : Slots → Store → R Val := fun s M => (c s M).bind fun x M => brV x M (fun M => f s M) (fun M => g s M)
theorem se_neg (ha : SE X cl W a ga) : SE X cl W (.UnaryOp .USub a pos) (fun s M => (ga s M).bind fun x M => (match x with | .d (.int i) => .ok (.d (.int (-i))) M | _ => .bad)) :=
  PE.imp (pe_un un_neg ha) fun σ H Q ⟨B, r, M, s, R, S, o⟩ => ⟨B, r, M, s, R, S, o.step fun x v r1 M1 H1 g1 R1 v1 o1 => by
    split at o1
    · rename_i i
      exact ⟨i, v1.int, Out.here (u := .int (-i)) o1 R1 (.d (.int _))⟩
    · exact o1.elim⟩
theorem se_not (ha : SE X cl W a ga) : SE X cl W (.UnaryOp .Not a pos) (eNot ga) :=
  PE.imp (pe_not ha) fun σ H Q ⟨B, r, M, s, R, S, o⟩ => ⟨B, r, M, s, R, S, o.step fun x v r1 M1 H1 g1 R1 v1 o1 => by
    split at o1
    · rename_i i
      exact ⟨i, v1.bool, bl_ok R1 o1⟩
    · exact o1.elim⟩
theorem st_not (ha : ST X cl W a ga) : ST X cl W (.UnaryOp .Not a pos) (eNot ga) :=
  PT.imp (pt_not ha) fun σ H Q ⟨B, r, M, s, R, S, o⟩ => ⟨B, r, M, s, R, S, o.step fun x v r1 M1 H1 g1 R1 v1 o1 => by
    split at o1
    · rename_i i
      obtain ⟨b, e, q⟩ := Out.here (u := .bl (!i)) o1 R1 (.d (.bl _))
      cases e
      exact ⟨i, rfl, q⟩
    · exact o1.elim⟩
theorem se_one {op : BoolOp} (ha : SE X cl W a ga) : SE X cl W (.BoolOp op [a] pos) ga := pe_one ha
theorem sw_and1 (ha : ST X cl W a ga) : SW X cl W (.BoolOp .And [a] pos) ga := pw_and1 ha
theorem sw_or1 (ha : ST X cl W a ga) : SW X cl W (.BoolOp .Or [a] pos) ga := pw_or1 ha
theorem se_and (ha : SE X cl W a ga) (hb : SE X cl W (.BoolOp .And (b :: rest) pos) gb) : SE X cl W (.BoolOp .And (a :: b :: rest) pos) (eAnd ga gb) :=
  PE.imp (pe_and ha hb) fun σ H Q ⟨B, r, M, s, R, S, o⟩ => ⟨B, r, M, s, R, S, o.step fun x v r1 M1 H1 g1 R1 v1 o1 => by
    dsimp only [brV] at o1
    split at o1
    · exact ⟨true, v1.bool, by rw [if_pos rfl]; exact ⟨B, r1, M1, s, R1, S.mono g1, o1⟩⟩
    · exact ⟨false, v1.bool, by rw [if_neg Bool.false_ne_true]; exact bl_ok R1 o1⟩
    · exact o1.elim⟩
theorem se_or (ha : SE X cl W a ga) (hb : SE X cl W (.BoolOp .Or (b :: rest) pos) gb) : SE X cl W (.BoolOp .Or (a :: b :: rest) pos) (eOr ga gb) :=
  PE.imp (pe_or ha hb) fun σ H Q ⟨B, r, M, s, R, S, o⟩ => ⟨B, r, M, s, R, S, o.step fun x v r1 M1 H1 g1 R1 v1 o1 => by
    dsimp only [brV] at o1
    split at o1
    · exact ⟨true, v1.bool, by rw [if_pos rfl]; exact bl_ok R1 o1⟩
    · exact ⟨false, v1.bool, by rw [if_neg Bool.false_ne_true]; exact ⟨B, r1, M1, s, R1, S.mono g1, o1⟩⟩
    · exact o1.elim⟩
theorem sw_and (ha : ST X cl W a ga) (hb : SW X cl W (.BoolOp .And (b :: rest) pos) gb) : SW X cl W (.BoolOp .And (a :: b :: rest) pos) (eAnd ga gb) :=
  PW.imp (pw_and ha hb) fun σ H Q ⟨B, r, M, s, R, S, o⟩ => ⟨B, r, M, s, R, S, o.step fun x v r1 M1 H1 g1 R1 v1 o1 => by
    dsimp only [brV] at o1
    split at o1
    · exact ⟨true, rfl, by dsimp only; rw [if_pos rfl]; exact ⟨B, r1, M1, s, R1, S.mono g1, o1⟩⟩
    · obtain ⟨b, e, q⟩ := Out.here (u := .bl false) o1 R1 (.d (.bl _))
      cases e
      exact ⟨false, rfl, by dsimp only; rw [if_neg Bool.false_ne_true]; exact q⟩
    · exact o1.elim⟩
theorem sw_or (ha : ST X cl W a ga) (hb : SW X cl W (.BoolOp .Or (b :: rest) pos) gb) : SW X cl W (.BoolOp .Or (a :: b :: rest) pos) (eOr ga gb) :=
  PW.imp (pw_or ha hb) fun σ H Q ⟨B, r, M, s, R, S, o⟩ => ⟨B, r, M, s, R, S, o.step fun x v r1 M1 H1 g1 R1 v1 o1 => by
    dsimp only [brV] at o1
    split at o1
    · obtain ⟨b, e, q⟩ := Out.here (u := .bl true) o1 R1 (.d (.bl _))
      cases e
      exact ⟨true, rfl, by dsimp only; rw [if_pos rfl]; exact q⟩
    · exact ⟨false, rfl, by dsimp only; rw [if_neg Bool.false_ne_true]; exact ⟨B, r1, M1, s, R1, S.mono g1, o1⟩⟩
    · exact o1.elim⟩
theorem st_val (h : SE X cl W e ge) (he : ∀ whole, isTrue e X.env whole = (do let v ← whole; standAt e.pos; holding [v] (truthy v))) : ST X cl W e ge :=
  PT.imp (pt_val h he) fun σ H Q h => tT h
theorem se_if (hc : ST X cl W c gc) (ha : SE X cl W a ga) (hb : SE X cl W b gb) : SE X cl W (.IfExp c a b pos) (eIf gc ga gb) :=
  PE.imp (pe_ifExp hc ha hb) fun σ H Q ⟨B, r, M, s, R, S, o⟩ => ⟨B, r, M, s, R, S, o.step fun x v r1 M1 H1 g1 R1 v1 o1 => by
    dsimp only [brV] at o1
    split at o1
    · exact ⟨true, rfl, by dsimp only; rw [if_pos rfl]; exact ⟨B, r1, M1, s, R1, S.mono g1, o1⟩⟩
    · exact ⟨false, rfl, by dsimp only; rw [if_neg Bool.false_ne_true]; exact ⟨B, r1, M1, s, R1, S.mono g1, o1⟩⟩
    · exact o1.elim⟩

/-! ### displays -/
def eNil : Slots → Store → R (List Val) := fun _ M => .ok [] M
def eCons (g : Slots → Store → R Val) (gs : Slots → Store → R (List Val)) : Slots → Store → R (List Val) := fun s M => (g s M).bind fun v M => (gs s M).bind fun vs M => .ok (v :: vs) M
theorem sa_nil : SA X cl W [] eNil := PA.imp pa_nil fun σ H Q ⟨B, r, M, s, R, S, o⟩ => Out.here (u := ([] : List V)) o R .nil
theorem sa_cons (ha : SE X cl W e ge) (hr : SA X cl W es gs) (hs : starEach (e :: es) X.env = (false, eval e X.env) :: starEach es X.env) : SA X cl W (e :: es) (eCons ge gs) :=
  PA.imp (pa_cons ha hr hs) fun σ H Q ⟨B, r, M, s, R, S, o⟩ => ⟨B, r, M, s, R, S, o.step fun x v r1 M1 H1 g1 R1 v1 o1 =>
    ⟨B, r1, M1, s, R1, S.mono g1, o1.step fun xs vs r2 M2 H2 g2 R2 v2 o2 => Out.here (u := x :: xs) o2 R2 (.cons (v1.mono g2) v2)⟩⟩
theorem Out.stepE {K : PySem.W.Frag} {σ : L2.St} {B r : List Addr} {H : Hp} {α β γ δ : Type} {P : List Addr → Hp → β → α → Prop} {P' : List Addr → Hp → δ → γ → Prop} {x : R α} {f : α → Store → R γ} {k : δ → γ → List Addr → Store → Hp → Prop} {k' : β → α → List Addr → Store → Hp → Prop}
    (o : Out K cl P' W σ B r H (x.bind f) k)
    (h : ∀ u v r1 M1 H1, x = .ok v M1 → Grow r H r1 H1 → Rel K cl B r1 M1 H1 → P r1 H1 u v → Out K cl P' W σ B r1 H1 (f v M1) k → k' u v r1 M1 H1) : Out K cl P W σ B r H x k' := by
  have key := Out.step (P := P) (k' := fun u v r1 M1 H1 => x = .ok v M1 → k' u v r1 M1 H1) o fun u v r1 M1 H1 g R p o1 e => h u v r1 M1 H1 e g R p o1
  cases x with
  | bad => exact key
  | exc c M' => exact key
  | ok v M' => exact fun u H' r' g R p => key u H' r' g R p rfl
/-- the count of what is evaluated -/
def Cnt (n : Nat) (gs : Slots → Store → R (List Val)) : Prop := ∀ s M vs M', gs s M = .ok vs M' → vs.length = n
theorem cnt_nil : Cnt 0 eNil := fun s M vs M' e => by cases e; rfl
theorem cnt_cons {n : Nat} (h : Cnt n gs) : Cnt (n + 1) (eCons ge gs) := fun s M vs M' e => by
  unfold eCons at e
  cases q : ge s M with
  | bad => rw [q] at e; cases e
  | exc c M' => rw [q] at e; cases e
  | ok v M1 =>
    rw [q] at e
    simp only [R.bind_ok] at e
    cases q2 : gs s M1 with
    | bad => rw [q2] at e; cases e
    | exc c M' => rw [q2] at e; cases e
    | ok ws M2 =>
      rw [q2] at e
      cases e
      simp [h s M1 ws _ q2]
theorem se_tup {x1} {n : Nat} (hn : Cnt n gs) (hl : n ≤ lim) (h : SA X cl W es gs) : SE X cl W (.Tuple es x1 pos) (fun s M => (gs s M).bind fun vs M => (match allD vs with | some ds => .ok (.d (.tuple ds)) M | none => .ok (.ref M.length) (M ++ [.tup vs]))) :=
  PE.imp (pe_tup h) fun σ H Q ⟨B, r, M, s, R, S, o⟩ => ⟨B, r, M, s, R, S, o.stepE fun xs vs r1 M1 H1 e g1 R1 v1 o1 => by
    have hv := hn s M vs M1 e
    split at o1
    · rename_i ds ed
      have hd := VRs.allD v1 ed
      have hlx : xs.length = n := by rw [Paired.length v1, hv]
      refine ⟨by rw [hlx, ← lim_eq]; exact hl, fun p hp => ?_⟩
      obtain ⟨_, _, _, q⟩ := Out.newT o1 R1 hd (by rw [← hd.length, hlx]; exact hl) hp
      exact q
    · have hlx : xs.length = n := by rw [Paired.length v1, hv]
      refine ⟨by rw [hlx, ← lim_eq]; exact hl, fun p hp => ?_⟩
      have g : Grow r1 H1 (r1 ++ [p]) (upd H1 p (.tup xs)) := Grow.cell hp
      exact o1 (.ref p) _ _ g (R1.newcell hp (.tup upd_same (by rw [hv]; exact hl) (VRs.mono g v1))) (.ref (by rw [← R1.len]; simp))⟩
theorem se_lst {al : Bool} {n : Nat} (hn : Cnt n gs) (hl : n ≤ lim) (h : SA X cl W es gs) : SE X cl W (.List es pos) (fun s M => (gs s M).bind fun vs M => mkLV al vs M) :=
  PE.imp (pe_lst h) fun σ H Q ⟨B, r, M, s, R, S, o⟩ => ⟨B, r, M, s, R, S, o.stepE fun xs vs r1 M1 H1 e g1 R1 v1 o1 => by
    have hv := hn s M vs M1 e
    have hlx : xs.length = n := by rw [Paired.length v1, hv]
    refine ⟨by rw [hlx, ← lim_eq]; exact hl, fun p hp => ?_⟩
    obtain ⟨_, _, _, q⟩ := Out.newLV o1 R1 v1 (by rw [hv]; exact hl) hp
    exact q⟩

/-! ### subscripts -/
theorem atI_eq : @Gv.atI = @L2.atI := rfl
theorem DRs.at {B r : List Addr} {H : Hp} {xs : List V} {ds : List PyData} {i : Int} {d : PyData} (h : DRs B r H xs ds) (e : Gv.atI ds i = some d) : ∃ x, L2.atI xs i = some x ∧ DR B r H x d := by
  unfold Gv.atI at e
  simp only [Option.bind_eq_some_iff] at e
  obtain ⟨j, e1, e2⟩ := e
  obtain ⟨x, hx, hd⟩ := h.get e2
  refine ⟨x, ?_, hd⟩
  show (L2.ixN xs.length i).bind (fun j => xs[j]?) = some x
  have : L2.ixN xs.length i = some j := by rw [h.length]; exact e1
  rw [this]
  exact hx
theorem paired_get {α β : Type} {P : α → β → Prop} : ∀ {xs : List α} {ys : List β} {i : Nat} {y : β}, Paired P xs ys → ys[i]? = some y → ∃ x, xs[i]? = some x ∧ P x y
  | _, _, _, _, .nil, e => by simp at e
  | _, _, 0, _, .cons a _, e => by simp at e; subst e; exact ⟨_, rfl, a⟩
  | _, _, i + 1, _, .cons _ t, e => by simp at e; exact paired_get (i := i) t e
theorem VRs.at {K : PySem.W.Frag} {B r : List Addr} {H : Hp} {xs : List V} {vs : List Val} {i : Int} {v : Val} (h : VRs K cl B r H xs vs) (e : Gv.atI vs i = some v) : ∃ x, L2.atI xs i = some x ∧ VR K cl B r H x v := by
  unfold Gv.atI at e
  simp only [Option.bind_eq_some_iff] at e
  obtain ⟨j, e1, e2⟩ := e
  obtain ⟨x, hx, hd⟩ := paired_get h e2
  refine ⟨x, ?_, hd⟩
  show (L2.ixN xs.length i).bind (fun j => xs[j]?) = some x
  have : L2.ixN xs.length i = some j := by rw [Paired.length h]; exact e1
  rw [this]
  exact hx
def rDIx : R2 := fun x y H Q => ∃ a v, x = .ref a ∧ DGet H a y (some v) ∧ Q v H
theorem ix_dict (hu : X.A.units + 1 < cLine) : IxR X rDIx := by
  intro value slice pins s σ H x y v u Q I rx ry h hs
  obtain ⟨a, z, rfl, g, q⟩ := h
  cases (show v = Value.ref a from rx)
  have hT := dict_typeIs I g
  unfold subscriptTail
  refine wpAny_bind ?_
  rw [getitemInPython_of_ne hT.not_modules]
  refine wpAny_bind (wpAny_specialOf hT PySem.F.slot_dict_getitem.lookup ?_)
  have last : wpAny (model X.prog X.w) X.A (subscripted slice false (.ref a) u) (fun r s3 => wpAny (model X.prog X.w) X.A (letTemporaryGo value (.ref a) r >>= fun _ => pure r) (EP X pins σ Q) X.xe s3) X.xe s := by
    rw [hs]
    refine wpAny_operating (d_getItem hu I g ry fun w' s3 I3 rw' => wpAny_bind (wpAny_letTemporaryGo (wpAny_pure ?_)))
    exact ⟨z, H, I3, rw', q⟩
  first
    | exact wpAny_pure (wpAny_bind last)
    | exact wpAny_bind (wpAny_pure (wpAny_bind last))
    | exact wpAny_bind last
theorem ix_any (hu : X.A.units + 1 < cLine) : IxR X (fun x y H Q => rIx X.K x y H Q ∨ rDIx x y H Q) := fun value slice pins s σ H x y v u Q I rx ry h hs =>
  h.elim (fun h => ix_seq value slice pins s σ H x y v u Q I rx ry h hs) fun h => ix_dict hu value slice pins s σ H x y v u Q I rx ry h hs
theorem ix_ok {K : PySem.W.Frag} {σ : L2.St} {B r : List Addr} {H : Hp} {M : Store} {Q : VK} {x y : V} {v w : Val} (R : Rel K cl B r M H) (hx : VR K cl B r H x v) (hy : VR K cl B r H y w) (o : Out K cl (VR K cl B) W σ B r H (idxD M v w) (KQ Q)) : rIx K x y H Q ∨ rDIx x y H Q := by
  unfold idxD at o
  split at o
  · split at o
    · rename_i e
      obtain ⟨a, xs, rfl, h, _, _, _, hs⟩ := hx.list
      obtain rfl := hy.int
      obtain ⟨u, e1, hd⟩ := hs.at e
      exact .inl (.inl ⟨a, xs, _, u, rfl, rfl, .inl (.inl h), e1, o.here R (.d hd)⟩)
    · exact o.elim
  · split at o
    · rename_i e
      obtain ⟨a, xs, rfl, h, _, hs⟩ := hx.tuple
      obtain rfl := hy.int
      obtain ⟨u, e1, hd⟩ := hs.at e
      exact .inl (.inr (.inl ⟨a, xs, _, u, rfl, rfl, .inl (.inl h), e1, o.here R (.d hd)⟩))
    · exact o.elim
  · split at o
    · rename_i hz
      split at o
      · rename_i e
        obtain rfl := hx.str
        obtain rfl := hy.int
        exact .inl (.inr (.inr ⟨_, _, _, rfl, rfl, by rw [← lim_eq]; exact hz, e, Out.here (u := .str _) o R (.d (.str _))⟩))
      · exact o.elim
    · exact o.elim
  · split at o
    · rename_i vs e
      split at o
      · rename_i u eu
        obtain ⟨p, rfl, hp⟩ := hx.atRef
        obtain rfl := hy.int
        obtain ⟨c, e1, hc⟩ := R.mem hp
        rw [e] at e1
        cases e1
        cases hc with
        | lst h' l hs =>
          obtain ⟨x', ex, hv⟩ := hs.at eu
          exact .inl (.inl ⟨p, _, _, x', rfl, rfl, .inl (.inl h'), ex, o.here R hv⟩)
      · exact o.elim
    · rename_i kvs e
      split at o
      · rename_i u eu
        obtain ⟨p, ov, rfl, g, h1, _⟩ := dct_get R hx e hy.inv (k := .inl (.inl _)) rfl
        obtain ⟨u', rfl, hv⟩ := h1 u eu
        exact .inr ⟨p, u', rfl, g, o.here R hv⟩
      · exact o.elim
    · rename_i vs e
      split at o
      · rename_i u eu
        obtain ⟨p, rfl, hp⟩ := hx.atRef
        obtain rfl := hy.int
        obtain ⟨c, e1, hc⟩ := R.mem hp
        rw [e] at e1
        cases e1
        cases hc with
        | tup h' l hs =>
          obtain ⟨x', ex, hv⟩ := hs.at eu
          exact .inl (.inr (.inl ⟨p, _, _, x', rfl, rfl, .inl (.inl h'), ex, o.here R hv⟩))
      · exact o.elim
    · exact o.elim
  · split at o
    · rename_i t kvs e
      split at o
      · rename_i k ek
        split at o
        · rename_i u eu
          obtain ⟨p, ov, rfl, g, h1, _⟩ := dct_get R hx e hy.inv ek
          obtain ⟨u', rfl, hv⟩ := h1 u eu
          exact .inr ⟨p, u', rfl, g, o.here R hv⟩
        · exact o.elim
      · exact o.elim
    · exact o.elim
  · exact o.elim
theorem se_idx (hu : X.A.units + 1 < cLine) (ha : SE X cl W a ga) (hb : SE X cl W b gb) (hs : PlainIx b) : SE X cl W (.Subscript a b pos) (fun s M => (ga s M).bind fun x M => (gb s M).bind fun y M => idxD M x y) :=
  PE.imp (pe_ix (ix_any hu) ha hb hs) fun σ H Q ⟨B, r, M, s, R, S, o⟩ => ⟨B, r, M, s, R, S, o.step fun x v r1 M1 H1 g1 R1 v1 o1 =>
    ⟨B, r1, M1, s, R1, S.mono g1, o1.step fun y w r2 M2 H2 g2 R2 v2 o2 => ix_ok R2 (v1.mono g2) v2 o2⟩⟩

/-! ### slices -/
def rdO (K : PySem.W.Frag) (cl : Nat → Addr) (W : WX) (g : Slots → Store → R Val) : TO := fun σ H Q => ∃ B r M s, Rel K cl B r M H ∧ SRel K cl B r H σ s ∧
  Out K cl (VR K cl B) W σ B r H (g s M) fun _ v _ _ H' => ∃ p, part v = some p ∧ Q p H'
structure SO (X : Cx) (cl : Nat → Addr) (W : WX) (e : Option Expr) (g : Slots → Store → R Val) : Prop where
  run : PO X e (rdO X.K cl W g)
theorem PO.imp {e : Option Expr} {t t' : TO} (h : PO X e t) (i : ∀ σ H Q, t' σ H Q → t σ H Q) : PO X e t' := ⟨fun pins s σ H Q I w => h.run pins s σ H Q I (i σ H Q w)⟩
theorem so_none : SO X cl W none (fun _ M => .ok (.d .none) M) :=
  ⟨PO.imp po_none fun σ H Q ⟨B, r, M, s, R, S, o⟩ => by
    obtain ⟨p, e, q⟩ := Out.here (u := .non) o R (.d .non)
    cases e
    exact q⟩
theorem so_some (h : SE X cl W e ge) : SO X cl W (some e) (fun s M => (ge s M).bind fun v M => (match v with | .d (.int i) => .ok (.d (.int i)) M | _ => .bad)) :=
  ⟨PO.imp (po_some h) fun σ H Q ⟨B, r, M, s, R, S, o⟩ => ⟨B, r, M, s, R, S, o.step fun x v r1 M1 H1 g1 R1 v1 o1 => by
    split at o1
    · rename_i i
      obtain ⟨p, e, q⟩ := Out.here (u := .int i) o1 R1 (.d (.int i))
      cases e
      exact ⟨i, v1.int, q⟩
    · exact o1.elim⟩⟩
theorem cut_dr {B r : List Addr} {H : Hp} {xs : List V} {ds : List PyData} (h : DRs B r H xs ds) (lo hi : Option Int) : DRs B r H (cutV xs lo hi) (cut ds lo hi) := by
  unfold cutV cut
  rw [h.length]
  exact (h.drop _).take _
theorem cut_whole {α : Type} (ds : List α) (lo hi : Option Int) (h : HT.sIx ds.length 0 lo = 0 ∧ HT.sIx ds.length ds.length hi = ds.length) : cut ds lo hi = ds := by
  show (ds.drop (HT.sIx ds.length 0 lo)).take (HT.sIx ds.length ds.length hi - HT.sIx ds.length 0 lo) = ds
  rw [h.1, h.2]
  simp
theorem cut_len {α : Type} (ds : List α) (lo hi : Option Int) : (cut ds lo hi).length ≤ ds.length := by
  unfold cut
  rw [List.length_take, List.length_drop]
  omega
theorem sl_ok {K : PySem.W.Frag} {σ : L2.St} {B r : List Addr} {H : Hp} {M : Store} {Q : VK} {x : V} {v : Val} {al : Bool} {lo hi : Option Int} (R : Rel K cl B r M H) (hx : VR K cl B r H x v) (o : Out K cl (VR K cl B) W σ B r H (slD al M v lo hi) (KQ Q)) :
    rSlA K x lo hi H Q ∨ rSlL K x lo hi H Q ∨ (∃ z, x = .str z ∧ z.length ≤ sizeLine ∧ Q (.str (cutS z lo hi)) H) := by
  unfold slD at o
  split at o
  · rename_i ds
    obtain ⟨a, xs, rfl, h, l, hs⟩ := hx.tuple
    refine .inl ⟨a, xs, rfl, .inl (.inl h), fun hw => ?_, fun hw p hp => ?_⟩
    · rw [hs.length] at hw
      rw [cut_whole _ _ _ hw] at o
      exact o.here R (.d (.tup h l hs))
    · obtain ⟨_, _, _, q⟩ := Out.newT o R (cut_dr hs lo hi) (Nat.le_trans (cut_len _ _ _) l) hp
      exact q
  · rename_i z
    split at o
    · rename_i hz
      obtain rfl := hx.str
      exact .inr (.inr ⟨z, rfl, by rw [← lim_eq]; exact hz, Out.here (u := .str _) o R (.d (.str _))⟩)
    · exact o.elim
  · split at o
    · rename_i xs e
      obtain ⟨pa, ys, rfl, ha, da, la⟩ := VR.lstD R hx e
      refine .inr (.inl ⟨pa, ys, rfl, .inl (.inl ha), fun p hp => ?_⟩)
      obtain ⟨_, _, _, q⟩ := Out.newL o R (cut_dr da lo hi) (Nat.le_trans (cut_len _ _ _) la) hp
      exact q
    · exact o.elim
def eSl (al : Bool) (g l h : Slots → Store → R Val) : Slots → Store → R Val := fun s M => (g s M).bind fun x M => (l s M).bind fun l M => (ofOpt (part l) M).bind fun l M => (h s M).bind fun h M => (ofOpt (part h) M).bind fun h M => slD al M x l h
theorem se_sl {al : Bool} {lo hi : Option Expr} {gl gh : Slots → Store → R Val} {p2 : Pos} (he : SE X cl W e ge) (hl : SO X cl W lo gl) (hh : SO X cl W hi gh) : SE X cl W (.Subscript e (.Slice lo hi none p2) pos) (eSl al ge gl gh) :=
  PE.imp (pe_slice (sl_tupA.or (sl_list.or sl_str)) he hl.run hh.run) fun σ H Q ⟨B, r, M, s, R, S, o⟩ => ⟨B, r, M, s, R, S, o.step fun x v r1 M1 H1 g1 R1 v1 o1 =>
    ⟨B, r1, M1, s, R1, S.mono g1, o1.step fun _ l r2 M2 H2 g2 R2 v2 o2 => by
      have S2 := (S.mono g1).mono g2
      cases el : part l with
      | none => rw [el] at o2; exact o2.elim
      | some pl =>
        rw [el] at o2
        refine ⟨pl, rfl, B, r2, M2, s, R2, S2, Out.step (x := gh s M2) o2 fun _ h r3 M3 H3 g3 R3 v3 o3 => ?_⟩
        cases eh : part h with
        | none => rw [eh] at o3; exact o3.elim
        | some ph =>
          rw [eh] at o3
          exact ⟨ph, rfl, sl_ok R3 ((v1.mono g2).mono g3) o3⟩⟩⟩
end
end Gv

namespace Gv
open PySem PySem.Spec L2 PyProof.Rows

/-- what is known of the object: of the early ones that the context is None -/
def Zk (cls : Value) (d : Option Addr) (o : Obj) : Prop := match cls with
  | .ref C => L2N.Zn (.ref C) d o
  | .int i _ => Zc (.ref i.toNat) d o
  | _ => False
theorem Zk.steady {cls : Value} {d : Option Addr} : PXN.Steady1 (Zk cls d) := fun o v h => by
  unfold Zk at h ⊢
  split at h
  · exact L2N.Zn.steady o v h
  · exact Zc.steady o _ h
  · exact h
abbrev nW (W : WX) : WX := fun c d σ H => ∃ C, c = .ref C ∧ W (.ref C) d σ H
abbrev zW (W : WX) : WX := fun c d σ H => ∃ (i : Int) (t : Tok), c = .ref i.toNat ∧ W (.int i t) d σ H
/-- behind a call that let an exception out, early or late -/
def CXb (P : Program) (w : World) : CXT := fun outer H s E u s' =>
  L2N.CX P w outer H s (fun c d H => ∃ C, c = .ref C ∧ E (.ref C) d H) u s' ∨ L2.CX P w outer H s (fun c d H => ∃ (i : Int) (t : Tok), c = .ref i.toNat ∧ E (.int i t) d H) u s'
structure Takes (X : Cx) (W : WX) : Prop where
  n : L2N.Takes X (nW W)
  z : L2.Takes X (zW W)
/-- an exception in the air of X, L the frame of the def around -/
def XG (X : Cx) (W : WX) (L : Addr) (u : Value) (t' : Shared) : Prop :=
  ∃ (a : Addr) (G : Heap) (t : Shared) (pn : List (Addr × Obj)) (σ : L2.St) (H : Hp) (cls : Value) (d : Option Addr), u = .ref a ∧ Inv X pn σ H t ∧
    (∀ b o, t.heap.get? b = some o → b ∉ frs X.stack → G.get? b = some o) ∧ t.heap.UpToSlots t'.heap ∧ Sky G X.stack a (Zk cls d) L t'.heap ∧ H a = none ∧ t'.os = t.os ∧ AllBare t'.gens ∧ W cls d σ H
/-- X lets such exceptions out -/
structure Tk (X : Cx) (W : WX) : Prop where
  ex : ∃ (L : Addr) (fe : Env) (fo : List Env), X.stack = fe :: fo ∧ X.env.frame = some L ∧ fe.frame = some L ∧ ∀ u t', XG X W L u t' → X.xe u t'
theorem sky_imp {G h : Heap} {l : List Env} {a L : Addr} {Z Z' : Obj → Prop} (z : ∀ o, Z o → Z' o) (x : Sky G l a Z L h) : Sky G l a Z' L h := by
  have tr : ∀ {fl : Value}, HandSPX.TracedZ h G a Z fl → HandSPX.TracedZ h G a Z' fl := fun ⟨oe, vs, T, oT, ts, he, hz, r⟩ => ⟨oe, vs, T, oT, ts, he, z _ hz, r⟩
  rcases x with ⟨hB, hn, hl, oe, vs, he, hz, r⟩ | fl | hh
  · exact .inl ⟨hB, hn, hl, oe, vs, he, z _ hz, r⟩
  · exact .inr (.inl ⟨fl.1, fl.2.1, fl.2.2.1, tr fl.2.2.2⟩)
  · exact .inr (.inr ⟨hh.1, hh.2.1, hh.2.2.1, tr hh.2.2.2⟩)
theorem Tk.of {X : Cx} {W : WX} (tk : Takes X W) (hs : X.stack = X.env :: X.outer) (hf : X.env.frame = some X.env.locals) : Tk X W := by
  refine ⟨_, _, _, hs, hf, hf, fun u t' x => ?_⟩
  obtain ⟨a, G, t, pn, σ, H, cls, d, e, J, nb, up, sky, na, os, ag, w⟩ := x
  cases cls with
  | ref C => exact tk.n u t' ⟨a, G, t, pn, σ, H, .ref C, d, e, J, nb, up, sky, na, os, ag, C, rfl, w⟩
  | int i tt => exact tk.z u t' ⟨a, G, t, pn, σ, H, .ref i.toNat, d, e, J, nb, up, sky, na, os, ag, i, tt, rfl, w⟩
  | _ => exact (sky_imp (Z' := fun _ => False) (fun _ z => z) sky).elim (fun q => by obtain ⟨_, _, _, _, _, _, z, _⟩ := q; exact z.elim) fun q => q.elim (fun q => by obtain ⟨_, _, _, _, _, _, _, _, _, z, _⟩ := q; exact z.elim) fun q => by obtain ⟨_, _, _, _, _, _, _, _, _, z, _⟩ := q; exact z.elim
/-- an exception that flies on out of a call: of which frame it is told is all one -/
theorem sky_fix {G0 G h : Heap} {l : List Env} {a L L' : Addr} {Z0 Z : Obj → Prop} (fl : HandSPX.FlyingZ G0 l a Z0 h) (sky : Sky G l a Z L' h) : Sky G l a Z L h := by
  obtain ⟨_, _, _, oe0, v0, T0, oT0, w0, he0, _, hd0, h10, _, _, hT0, hdT0, h30⟩ := fl
  rcases sky with ⟨_, _, _, oe, vs, he, _, hd, h1⟩ | fl1 | ⟨_, _, _, oe, vs, T, oT, w, he, _, hd, h1, _, _, hT, hdT, h3⟩
  · rw [he0] at he; cases he
    rw [hd0] at hd; cases hd
    rw [h10] at h1; cases h1
  · exact .inr (.inl fl1)
  · rw [he0] at he; cases he
    rw [hd0] at hd; cases hd
    rw [h10] at h1; cases h1
    rw [hT0] at hT; cases hT
    rw [hdT0] at hdT; cases hdT
    rw [h30] at h3; cases h3
theorem xg_call {X : Cx} {W : WX} {E : XK} {pn : List (Addr × Obj)} {σ : L2.St} {H : Hp} {t t' : Shared} {u : Value} {L : Addr} (I : Inv X pn σ H t) (hW : ∀ c d H', E c d H' → W c d σ H') (c : CXb X.prog X.w X.stack H t E u t') : XG X W L u t' := by
  rcases c with c | c
  · have x := L2N.XE.of_call (W := nW W) I (fun _ _ _ ⟨C, e, h⟩ => ⟨C, e, hW _ _ _ h⟩) c
    obtain ⟨a0, G0, H0, c0, d0, rfl, fl, _⟩ := c
    obtain ⟨a, G, t1, pn1, σ1, H1, cls, d, e, J, nb, up, sky, na, os, ag, C, ec, w⟩ := x
    cases e
    subst ec
    exact ⟨a0, G, t1, pn1, σ1, H1, .ref C, d, rfl, J, nb, up, sky_fix fl sky, na, os, ag, w⟩
  · have x := L2.XE.of_call (W := zW W) I (fun _ _ _ ⟨i, tt, e, h⟩ => ⟨i, tt, e, hW _ _ _ h⟩) c
    obtain ⟨a0, G0, H0, c0, d0, rfl, fl, _⟩ := c
    obtain ⟨a, G, t1, pn1, σ1, H1, cls, d, e, J, nb, up, sky, na, os, ag, i, tt, ec, w⟩ := x
    cases e
    subst ec
    exact ⟨a0, G, t1, pn1, σ1, H1, .int i tt, d, rfl, J, nb, up, sky_fix fl sky, na, os, ag, w⟩
theorem Tk.pass {X : Cx} {W : WX} (tk : Tk X W) (σ : L2.St) : PassesAt (CXb X.prog X.w) X σ (WE W σ) := fun _ _ _ e t' I c => by
  obtain ⟨L, fe, fo, _, _, _, h⟩ := tk.ex
  exact h e t' (xg_call I (fun _ _ _ q => q) c)
/-- a def's own wish -/
theorem takes_cx {X : Cx} {E : XK} (hs : X.stack = X.env :: X.outer) (hf : X.env.frame = some X.env.locals) (hex : X.ex = []) {E₁ : Value → Shared → Prop}
    (hx : X.xe = fun e s' => wpAny (model X.prog X.w) X.A (leaving X.env e) (fun _ s'' => CXb X.prog X.w X.outer X.H_0 X.s_0 E e s'') E₁ s') : Takes X (fun c d _ H => E c d H) := by
  refine ⟨fun u s' x => ?_, fun u s' x => ?_⟩
  · rw [hx]
    exact wpAny_mono (L2N.XE.leave (E := fun c d H => ∃ C, c = .ref C ∧ E (.ref C) d H) hs hf hex (fun _ _ _ _ h => h) x) (fun _ _ q => .inl q) fun _ _ z => z
  · rw [hx]
    exact wpAny_mono (L2.XE.leave (E := fun c d H => ∃ (i : Int) (t : Tok), c = .ref i.toNat ∧ E (.int i t) d H) hs hf hex (fun _ _ _ _ h => h) x) (fun _ _ q => .inr q) fun _ _ z => z

/-- the block of a comprehension that may raise -/
abbrev blkX (X : Cx) (s : Shared) (H : Hp) (scope : Scope) (env : Env) (fp : List Addr) (xe : Value → Shared → Prop) : Cx := { X.blk s H scope env fp with xe := xe }
theorem inv_blkX {X : Cx} {s t : Shared} {H0 H : Hp} {scope : Scope} {env : Env} {fp : List Addr} {xe : Value → Shared → Prop} {pn : List (Addr × Obj)} {σ : L2.St} (I : Inv (X.blk s H0 scope env fp) pn σ H t) : Inv (blkX X s H0 scope env fp xe) pn σ H t :=
  ⟨⟨I.ok.mod, I.ok.kind, I.ok.glob, I.ok.blt, I.ok.above, I.ok.inj, I.ok.has, I.ok.cab, I.ok.hd, I.ok.frames, I.ok.stk, I.ok.exf, I.ok.bs, I.ok.bsz, I.ok.noex, I.ok.exfs, I.ok.funs, I.ok.frf⟩, I.os, I.bare, I.base, I.loc, I.cell, I.free, I.freeC, I.pin, I.hok, I.len⟩

theorem sky_note {M : Model} {A : Around} {E : Value → Shared → Prop} {fe : Env} {fo : List Env} {L a : Addr} {Z : Obj → Prop} {Q : Unit → Shared → Prop} {G : Heap} {t : Shared} (hZ : PXN.Steady1 Z) (hfr : A.frames = some (fe :: fo)) (hf : fe.frame = some L)
    (x : Sky G (fe :: fo) a Z L t.heap) (hQ : ∀ h', HandSPX.HeldZ G (fe :: fo) a Z L h' → t.heap.UpToSlots h' → Q () { t with heap := h' }) : wpAny M A (noteFrame (.ref a) fe) Q E t := by
  rcases x with ⟨hB, hn, hl, oe, vs, he, hz, hd, h1⟩ | fl | hh
  · exact PXN.look_newZ hZ hfr hl hf he hB hn hd h1 hz hQ
  · exact PXN.looks_onZ hZ hfr hf fl hQ
  · exact HandSPX.againZ hf hh.2.2.2 (hQ t.heap hh (Heap.UpToSlots.refl _))
theorem traced_same {h h' G : Heap} {C e : Addr} {Z : Obj → Prop} {fl : Value} {m : Str → Option Value} (hn : h.Ns C m) (hs : Heap.SameBut C h h') (t : HandSPX.TracedZ h G e Z fl) : HandSPX.TracedZ h' G e Z fl := by
  obtain ⟨oe, vs, T, oT, ts, he, hz, hd, h1, hnT, hTe, hT, hdT, h3⟩ := t
  obtain ⟨oC, es, ep, hC, hdC, _⟩ := hn
  refine ⟨oe, vs, T, oT, ts, (hs.2 e fun q => ?_).trans he, hz, hd, h1, hnT, hTe, (hs.2 T fun q => ?_).trans hT, hdT, h3⟩
  · rw [q, hC] at he; cases he
    rw [hdC] at hd; cases hd
  · rw [q, hC] at hT; cases hT
    rw [hdC] at hdT; cases hdT
theorem frames_base {h G G' : Heap} : ∀ {l : List Env}, h.FunFrames G l → (∀ b, G.get? b = none → G'.get? b = none) → h.FunFrames G' l
  | [], _, _ => trivial
  | _ :: _, ⟨hk, ⟨L, o, hf, hb, ho, hd⟩, hr⟩, k => ⟨hk, ⟨L, o, hf, k L hb, ho, hd⟩, frames_base hr k⟩

section
variable {X : Cx} {W : WX} {pins : List (Addr × Obj)} {σ : L2.St}
/-- an exception of the block, out of the comprehension -/
theorem out_block {s3 : Shared} {H3 : Hp} {scope : Scope} {ce : Env} {fp : List Addr} {xe : Value → Shared → Prop} (tk : Tk X W) (I3 : Inv X pins σ H3 s3) (cL : ce.locals = s3.heap.objs.size) (cF : ce.frame = X.env.frame)
    (f3 : ∀ b ∈ fp, FpOk X pins H3 b ∧ b < s3.heap.objs.size) (hx : xe = notedBy (model X.prog X.w) X.A ce (CompFails (model X.prog X.w) X.A X.xe ce)) :
    Tk (blkX X s3 H3 scope ce fp xe) (fun c d _ H => W c d σ H) := by
  obtain ⟨L, fe, fo, hst, hL, hfe, hxe⟩ := tk.ex
  refine ⟨L, fe, fo, hst, cF.trans hL, hfe, fun u t' x => ?_⟩
  show xe u t'
  rw [hx]
  obtain ⟨a, G, t, pn, σ1, H, cls, d, rfl, J, nb, up, sky, na, os, ag, w⟩ := x
  show wpAny _ _ (noteFrame (.ref a) ce) _ _ t'
  rw [noteFrame_env _ (cF.trans (hL.trans hfe.symm))]
  have sky : Sky G X.stack a (Zk cls d) L t'.heap := sky
  have nb : ∀ b o, t.heap.get? b = some o → b ∉ frs X.stack → G.get? b = some o := nb
  rw [hst] at sky
  have hA : X.A.frames = some (fe :: fo) := by rw [I3.ok.frames, hst]
  refine sky_note Zk.steady hA hfe sky fun h1 held up1 => ?_
  have nC : H s3.heap.objs.size = none := by have z : H ce.locals = none := J.free; rw [cL] at z; exact z
  have J0 : Inv X pins σ H t := I3.call' (ch := fp) J.os J.base J.hok J.bare fun b hb => ⟨(f3 b hb).1.2.2.2.1, (f3 b hb).1.2.1, (f3 b hb).1.2.2.2.2.1, (f3 b hb).1.2.2.2.2.2⟩
  have fC : FpOk X pins H s3.heap.objs.size := I3.fpOk (Nat.le_refl _) nC
  obtain ⟨m, hn, _⟩ := J.loc
  have hn : t.heap.Ns ce.locals m := hn
  have nF : ce.locals ∉ frs X.stack := fun z => by
    obtain ⟨_, o, e, _⟩ := I3.stack.mem z
    have := Heap.lt_size e
    rw [cL] at this
    exact absurd this (Nat.lt_irrefl _)
  have hn1 : h1.Ns ce.locals m := hn.upToSlots (up.trans up1)
  refine ⟨m, hn1, fun h2 m2 hn2 sb => ?_⟩
  obtain ⟨k1, k2, k3, k4⟩ := held
  have t2 := traced_same hn1 sb k4
  have t2' := t2
  obtain ⟨oe, vs, T, oT, ts, he, hz, hd, hv, _⟩ := t2'
  unfold PySem.passOn
  refine wpAny_bind (wpAny_field he hd hv ?_)
  rw [if_neg (show ¬ ((Value.ref T == Value.none) = true) by simp), cF.trans hL]
  have gone : ∀ b, G.get? b = none → (PySem.W.hideAll G [ce.locals]).get? b = none := fun b e => by
    cases q : (PySem.W.hideAll G [ce.locals]).get? b with
    | none => rfl
    | some o => rw [PySem.W.of_hideAll _ q] at e; cases e
  have s2 : (PySem.W.hideAll G [ce.locals]).StaysIn h2 := fun b o e => by
    have ne : b ≠ ce.locals := fun q => by rw [q, PySem.W.hideAll_none _ (by simp)] at e; cases e
    exact (sb.2 b ne).trans (k1 b o (PySem.W.of_hideAll _ e))
  have f2 : h2.FunFrames (PySem.W.hideAll G [ce.locals]) (fe :: fo) := frames_base (Heap.FunFrames.sameBut sb hn2 k3) gone
  have t3 : HandSPX.TracedZ h2 (PySem.W.hideAll G [ce.locals]) a (Zk cls d) (rawInt L) := by
    obtain ⟨oe, vs, T, oT, ts, he, hz, hd, h1, hnT, r⟩ := t2
    exact ⟨oe, vs, T, oT, ts, he, hz, hd, h1, gone _ hnT, r⟩
  have last : wpAny (model X.prog X.w) X.A (setFlight (.ref a) (some L)) (fun _ t4 => wpAny (model X.prog X.w) X.A (throw (.ref a) : Sem Value) (fun _ _ => False) X.xe t4) X.xe { t' with heap := h2 } := by
    refine HandSPX.setFlight_anyZ (s := { t' with heap := h2 }) (base := PySem.W.hideAll G [ce.locals]) (l := fe :: fo) (Z := Zk cls d) s2 f2 t3 fun h4 q1 q2 q3 q4 => wpAny_throw (hxe _ _ ?_)
    have J2 : Inv X pins σ H { t with heap := PySem.W.hideAll t.heap [ce.locals], toks := t.toks } := by
      refine J0.turned (it := ce.locals) (fun b o hb e => PySem.W.hideAll_get _ e (by simpa using hb)) ?_ ?_ ?_ ?_ ?_
      · rw [cL]; exact nC
      · rw [cL]; exact fC.2.1
      · rw [cL]; exact fC.2.2.2.1
      · rw [cL]; exact fC.2.2.2.2.1
      · rw [cL]; exact fC.2.2.2.2.2
    refine ⟨a, PySem.W.hideAll G [ce.locals], _, pins, σ, H, cls, d, rfl, J2, fun b o e hb => ?_, fun b o e hnf => ?_, ?_, na, os, ag, w⟩
    · have ne : b ≠ ce.locals := fun q => by
        have e : (PySem.W.hideAll t.heap [ce.locals]).get? b = some o := e
        rw [q, PySem.W.hideAll_none _ (by simp)] at e; cases e
      exact PySem.W.hideAll_get _ (nb b o (PySem.W.of_hideAll _ e) hb) (by simpa using ne)
    · have e : (PySem.W.hideAll t.heap [ce.locals]).get? b = some o := e
      have ne : b ≠ ce.locals := fun q => by rw [q, PySem.W.hideAll_none _ (by simp)] at e; cases e
      obtain ⟨sl, e1⟩ := (up.trans up1) b o (PySem.W.of_hideAll _ e) hnf
      exact q4 b { o with slots := sl } ((sb.2 b ne).trans e1) hnf
    · rw [hst]
      exact .inr (.inr ⟨q1, gone _ k2, q2, q3⟩)
  first
    | exact wpAny_bind (wpAny_pure (wpAny_bind last))
    | exact wpAny_bind last
/-- [elt for target in iter if ..], the element and the tests may raise; they are told by the slots ahead -/
theorem lcX {s : Shared} {H : Hp} {Q : VK} {elt tg iter : Expr} {ifs : List Expr} {scope : Scope} {own : List (Str × Nat)} {pos pos' : Pos} {wi : TI} {g : TG} {tt : L2.St → TT} {te : L2.St → TE} {use : Option (Value → Sem Unit)} {Qf : Value → Shared → Prop} (tk : Tk X W) (hc : X.calm = true) (hN : X.N.Nodup) (I : Inv X pins σ H s) (hi : PI X tg iter wi) (ok : BlkOk X.N X.env.scope scope own)
    (hg : ∀ (s : Shared) (H : Hp) (C : Addr) (l : List (Str × Addr)) (fp : List Addr) (xe : Value → Shared → Prop), PG (blkX X s H scope (compEnvC scope l C X.env) fp xe) tg g)
    (ht : ∀ (σ : L2.St) (s : Shared) (H : Hp) (C : Addr) (l : List (Str × Addr)) (fp : List Addr) (xe : Value → Shared → Prop), Tk (blkX X s H scope (compEnvC scope l C X.env) fp xe) (fun c d _ H => W c d σ H) → PTs (blkX X s H scope (compEnvC scope l C X.env) fp xe) ifs (tt σ))
    (he : ∀ (σ : L2.St) (s : Shared) (H : Hp) (C : Addr) (l : List (Str × Addr)) (fp : List Addr) (xe : Value → Shared → Prop), Tk (blkX X s H scope (compEnvC scope l C X.env) fp xe) (fun c d _ H => W c d σ H) → PE (blkX X s H scope (compEnvC scope l C X.env) fp xe) elt (te σ))
    (hs : ∀ x, foldedSetIterable iter X.env x = pure x) (h : tLc wi g (tt σ) (te σ) (own.map (·.2)) σ H Q)
    (hRR : ∀ D t m H' (ce : Env), Inv X pins σ H' t → Q (.ref D) H' → t.heap.Ns ce.locals m → FpOk X pins H' ce.locals → compEnds (model X.prog X.w) X.A X.xe use Qf (.ref D) ce (.ok .next) t) :
    wpAny (model X.prog X.w) X.A (comprehension (.ListComp elt [⟨tg, iter, ifs, 0⟩] scope pos) scope X.env pos' (newList []) false (eval iter X.env) use) Qf X.xe s := by
  have hfr : ∀ y ∈ scope.names, y.2 = .free → ∃ c, X.env.cells.lookup y.1 = some c := fun y hy q => by
    cases ok.free y hy q with
    | inl k => exact I.ok.has _ (.inl k)
    | inr k => exact I.ok.has _ (.inr k)
  refine comprehension_at (use := use) rfl hs (closure_ok hfr) ok.kind (fun y hy q => by rw [ok.uniq y hy, q]) (thn (hi.run pins s σ H _ I h) fun xv t1 hx => thn hx fun itv t2 k2 => ?_)
  obtain ⟨it, fp, tn, J, H2, e, I2, T, st2, f2, q⟩ := k2
  subst e
  refine wpAny_newObj_type (newEnv_comp ?_) (by show 0 ≤ sizeLine; decide)
  obtain ⟨D, hD⟩ : ∃ D, t2.heap.objs.size = D := ⟨_, rfl⟩
  rw [hD]
  obtain ⟨U, ⟨m0, w0⟩, turn⟩ := q D (I2.hok.fresh (Nat.le_of_eq hD))
  obtain ⟨t3, h3⟩ : ∃ t3 : Shared, ({ t2 with heap := t2.heap.push { cls := .type "list", data := .seq ([] : List Value).toArray } } : Shared) = t3 := ⟨_, rfl⟩
  have e3 : t3.heap = t2.heap.push { cls := .type "list", data := .seq ([] : List Value).toArray } := by rw [← h3]
  have I3 : Inv X pins σ (upd H2 D (.lst [])) t3 := by
    rw [← h3]
    refine I2.laid (t' := t2.toks) (fun b o z => Heap.get?_push_of_some _ z) (Nat.le_of_eq hD) ⟨Nat.zero_le _, [], 0, .nil, ?_⟩
    rw [← hD]; exact Heap.get?_push_size _ rfl
  have f3 : ∀ b ∈ fp, FpOk X pins (upd H2 D (.lst [])) b ∧ b < t3.heap.objs.size := fun b hb => by
    obtain ⟨o, eo, _⟩ := T.obj _ _ st2 b hb
    have lt := Heap.lt_size eo
    refine ⟨⟨?_, (f2 b hb).2⟩, by rw [e3, Heap.size_push]; exact Nat.lt_succ_of_lt lt⟩
    rw [upd_ne (by rw [← hD]; exact Nat.ne_of_lt lt)]; exact (f2 b hb).1
  have st3 : tn 0 t3.heap := T.keep _ _ _ st2 fun b _ o z => by rw [e3]; exact Heap.get?_push_of_some _ z
  have I4 := block_start I3 ok hN f3
  obtain ⟨l, hl⟩ : ∃ l, cellsFrom (t3.heap.objs.size + 1) scope.names (cloFrom X.env.cells scope.names []) = l := ⟨_, rfl⟩
  rw [hl] at I4
  rw [h3, hl]
  obtain ⟨ce, hce⟩ : ∃ ce, compEnvC scope l t3.heap.objs.size X.env = ce := ⟨_, rfl⟩
  have cL : ce.locals = t3.heap.objs.size := by subst hce; rfl
  have cF : ce.frame = X.env.frame := by subst hce; rfl
  obtain ⟨xe, hxe⟩ : ∃ xe, xe = notedBy (model X.prog X.w) X.A ce (CompFails (model X.prog X.w) X.A X.xe ce) := ⟨_, rfl⟩
  have pg := hg t3 (upd H2 D (.lst [])) t3.heap.objs.size l fp xe
  have pt := ht σ t3 (upd H2 D (.lst [])) t3.heap.objs.size l fp xe
  have pe := he σ t3 (upd H2 D (.lst [])) t3.heap.objs.size l fp xe
  rw [hce] at I4 pg pt pe
  have tkb := out_block (scope := scope) (xe := xe) tk I3 cL cF f3 hxe
  have pt := pt tkb
  have pe := pe tkb
  have I5 := inv_blkX (xe := xe) I4
  show codeAny _ _ (.compStart (.ListComp elt [⟨tg, iter, ifs, 0⟩] scope pos) 0 (.ref it) (.ref D) (compEnvC scope l t3.heap.objs.size X.env)) (compEnds (model X.prog X.w) X.A X.xe use Qf (.ref D) (compEnvC scope l t3.heap.objs.size X.env)) { t3 with heap := pushCells (t3.heap.push { cls := .type "dict", data := .dict #[] }) scope.names }
  rw [hce]
  have nfp : ∀ b ∈ fp, (upd H2 D (.lst [])) b = none := fun b hb => (f3 b hb).1.1
  clear I4
  generalize upd H2 D (.lst []) = H3 at I3 I5 pg pt pe w0 nfp f3 tkb
  obtain ⟨t4, h4⟩ : ∃ t4 : Shared, ({ t3 with heap := pushCells (t3.heap.push { cls := .type "dict", data := .dict #[] }) scope.names } : Shared) = t4 := ⟨_, rfl⟩
  rw [h4] at I5 ⊢
  have st4 : tn 0 t4.heap := T.keep _ _ _ st3 fun b _ o z => by rw [← h4]; exact pushCells_keeps _ _ _ _ (Heap.get?_push_of_some _ z)
  have stat : ∀ {σ' : L2.St} {H' : Hp} {t' : Shared}, Inv (blkX X t3 H3 scope ce fp xe) [] σ' H' t' → (∀ b ∈ fp, H' b = none) → ∀ b ∈ fp, FpOk (blkX X t3 H3 scope ce fp xe) [] H' b := fun {σ' H' t'} I' hn b hb =>
    ⟨hn b hb, (I'.ok.exf b hb).1, I'.ok.exfs b hb, .inl hb, fun x c z => (I'.ok.exf b hb).2 x c z, fun p hp => nomatch (show p ∈ ([] : List (Addr × Obj)) ++ [] from hp)⟩
  have loop : codeAny (model X.prog X.w) X.A (.compLoop (.ListComp elt [⟨tg, iter, ifs, 0⟩] scope pos) 0 (.ref it) (.ref D) ce) (compEnds (model X.prog X.w) X.A X.xe use Qf (.ref D) ce) t4 := by
    refine compLoop_any (fun n t' => ∃ i H', Inv (blkX X t3 H3 scope ce fp xe) [] (L2.wipe σ (own.map (·.2))) H' t' ∧ tn i t'.heap ∧ (∀ b ∈ fp, H' b = none) ∧ U i n H') ?_ m0 ⟨0, H3, I5, st4, nfp, w0⟩
    have hE : (notedBy (model X.prog X.w) X.A ce fun e t' => compEnds (model X.prog X.w) X.A X.xe use Qf (.ref D) ce (.error e) t') = xe := by
      rw [hxe]
      cases use <;> rfl
    rw [hE]
    rintro n t5 ⟨i, H5, I6, st5, n5, w5⟩
    rcases turn i n H5 w5 with ⟨stop, qq⟩ | ⟨go, Nx, hNx, step⟩
    · refine thnF (T.done (blkX X t3 H3 scope ce fp xe) rfl rfl rfl hc i [] t5 _ H5 (fun _ _ => False) I6 (stat I6 n5) st5 stop) fun r t6 ⟨hr, I7⟩ => ?_
      subst hr
      have I8 : Inv X pins σ H5 t6 := I3.call' (ch := fp) I7.os I7.base I7.hok I7.bare fun b hb => ⟨(f3 b hb).1.2.2.2.1, (f3 b hb).1.2.1, (f3 b hb).1.2.2.2.2.1, (f3 b hb).1.2.2.2.2.2⟩
      have nC : H5 ce.locals = none := I7.free
      obtain ⟨m, hn, _⟩ := I7.loc
      exact hRR D t6 m H5 ce I8 qq hn (by rw [cL] at nC ⊢; exact I3.fpOk (Nat.le_refl _) nC)
    · refine thnF (T.item (blkX X t3 H3 scope ce fp xe) rfl rfl rfl hc i [] t5 _ H5 (fun _ _ => False) I6 (stat I6 n5) st5 go) fun r t6 ⟨u, hr, h6⟩ => ?_
      subst hr
      refine thnF h6 fun _ t7 ⟨x, H7, I7, r7, y7, st7, n7⟩ => ?_
      refine thn (pg.run _ t7 _ H7 x u _ (I7.pinned (stat I7 n7) (T.obj _ _ st7)) r7 (step x H7 y7)) fun _ t8 ⟨σ8, H8, I8, hw8, q8⟩ => ?_
      refine thn (pt.run _ t8 σ8 H8 _ I8 q8) fun b t9 ⟨H9, I9, q9⟩ => ?_
      have fin : ∀ {t' : Shared} {H' : Hp}, Inv (blkX X t3 H3 scope ce fp xe) ([] ++ pinsAt fp t7.heap) σ8 H' t' → Nx H' → ∃ m, m < n ∧ ∃ i H', Inv (blkX X t3 H3 scope ce fp xe) [] (L2.wipe σ (own.map (·.2))) H' t' ∧ tn i t'.heap ∧ (∀ b ∈ fp, H' b = none) ∧ U i m H' := fun {t' H'} I' nx => by
        obtain ⟨m', hm, w'⟩ := hNx H' nx
        have pin : ∀ b ∈ fp, ∀ o, t7.heap.get? b = some o → t'.heap.get? b = some o ∧ H' b = none := fun b hb o z =>
          ⟨(I'.pin (b, o) (List.mem_append_right _ (List.mem_append_right _ (mem_pinsAt hb z)))).1, (I'.pin (b, o) (List.mem_append_right _ (List.mem_append_right _ (mem_pinsAt hb z)))).2.1⟩
        have hl : (L2.wipe σ (own.map (·.2))).length = σ8.length := by rw [← hw8, wipe_length]
        refine ⟨m', hm, i + 1, H', (I'.unpinned (pins := [])).weak hl (fun j v z => by rw [← hw8] at z; exact (wipe_some z).1), T.keep _ _ _ st7 fun b hb o z => (pin b hb o z).1, fun b hb => ?_, w'⟩
        obtain ⟨o, z, _⟩ := T.obj _ _ st7 b hb
        exact (pin b hb o z).2
      cases b with
      | false => simp only [Bool.false_eq_true, if_false] at q9 ⊢; exact fin I9 q9
      | true =>
        simp only [if_true] at q9 ⊢
        refine thn (pe.run _ t9 σ8 H9 _ I9 q9) fun z t10 ⟨yv, H10, I10, r10, acc, hD10, hz10, nx⟩ => ?_
        exact app_ok (X := blkX X t3 H3 scope ce fp xe) I10 hD10 hz10 r10 fun t11 I11 => fin I11 nx
  exact codeAny_compStart_list loop (T.self X.A 0 _ _ _ st4 loop)
end
section
variable {X : Cx} {W : WX} {elt tg iter : Expr} {ifs : List Expr} {scope : Scope} {own : List (Str × Nat)} {pos spos py : Pos} {wi : TI} {g : TG} {tt : L2.St → TT} {te : L2.St → TE} {i : Nat} {y : Str}
theorem pe_lcX (tk : Tk X W) (hc : X.calm = true) (hN : X.N.Nodup) (hi : PI X tg iter wi) (ok : BlkOk X.N X.env.scope scope own)
    (hg : ∀ (s : Shared) (H : Hp) (C : Addr) (l : List (Str × Addr)) (fp : List Addr) (xe : Value → Shared → Prop), PG (blkX X s H scope (compEnvC scope l C X.env) fp xe) tg g)
    (ht : ∀ (σ : L2.St) (s : Shared) (H : Hp) (C : Addr) (l : List (Str × Addr)) (fp : List Addr) (xe : Value → Shared → Prop), Tk (blkX X s H scope (compEnvC scope l C X.env) fp xe) (fun c d _ H => W c d σ H) → PTs (blkX X s H scope (compEnvC scope l C X.env) fp xe) ifs (tt σ))
    (he : ∀ (σ : L2.St) (s : Shared) (H : Hp) (C : Addr) (l : List (Str × Addr)) (fp : List Addr) (xe : Value → Shared → Prop), Tk (blkX X s H scope (compEnvC scope l C X.env) fp xe) (fun c d _ H => W c d σ H) → PE (blkX X s H scope (compEnvC scope l C X.env) fp xe) elt (te σ))
    (hs : ∀ x, foldedSetIterable iter X.env x = pure x) : PE X (.ListComp elt [⟨tg, iter, ifs, 0⟩] scope pos) (fun σ => tLc wi g (tt σ) (te σ) (own.map (·.2)) σ) := by
  refine ⟨fun pins s σ H Q I h => ?_⟩
  rw [eval_ListComp]
  refine lcX tk hc hN I hi ok hg ht he hs h fun D t m H' ce I' q hn f => ⟨m, hn, fun h2 sb => ?_⟩
  exact ⟨.ref D, H', I'.turned (t' := t.toks) (fun b o hb z => (sb.2 b hb).trans z) f.1 f.2.1 f.2.2.2.1 f.2.2.2.2.1 f.2.2.2.2.2, rfl, q⟩
theorem ps_lcX (tk : Tk X W) (hc : X.calm = true) (hN : X.N.Nodup) (hy : X.N[i]? = some y) (hyl : X.env.scope.names.lookup y = some .local) (hsw : swapsWith (.ListComp elt [⟨tg, iter, ifs, 0⟩] scope pos) (some (.Name y py)) spos.line X.env = pure true) (hi : PI X tg iter wi) (ok : BlkOk X.N X.env.scope scope own)
    (hg : ∀ (s : Shared) (H : Hp) (C : Addr) (l : List (Str × Addr)) (fp : List Addr) (xe : Value → Shared → Prop), PG (blkX X s H scope (compEnvC scope l C X.env) fp xe) tg g)
    (ht : ∀ (σ : L2.St) (s : Shared) (H : Hp) (C : Addr) (l : List (Str × Addr)) (fp : List Addr) (xe : Value → Shared → Prop), Tk (blkX X s H scope (compEnvC scope l C X.env) fp xe) (fun c d _ H => W c d σ H) → PTs (blkX X s H scope (compEnvC scope l C X.env) fp xe) ifs (tt σ))
    (he : ∀ (σ : L2.St) (s : Shared) (H : Hp) (C : Addr) (l : List (Str × Addr)) (fp : List Addr) (xe : Value → Shared → Prop), Tk (blkX X s H scope (compEnvC scope l C X.env) fp xe) (fun c d _ H => W c d σ H) → PE (blkX X s H scope (compEnvC scope l C X.env) fp xe) elt (te σ))
    (hs : ∀ x, foldedSetIterable iter X.env x = pure x) : PS X (.Assign [.Name y py] (.ListComp elt [⟨tg, iter, ifs, 0⟩] scope pos) spos) (tAsg (fun σ => tLc wi g (tt σ) (te σ) (own.map (·.2)) σ) (gName i)) := by
  refine ⟨fun pins s σ H D I h => ?_⟩
  rw [exec_Assign_Name_used _ _ _ _ hsw]
  refine wpAny_bind (wpAny_standAt (wpAny_bind ?_))
  show wpAny _ X.A (do let _ ← comprehension (.ListComp elt [⟨tg, iter, ifs, 0⟩] scope pos) scope X.env (firstIterPos [⟨tg, iter, ifs, 0⟩] pos) (newList []) false (eval iter X.env) (some (assign (.Name y py) X.env))) _ _ s
  have h : tLc wi g (tt σ) (te σ) (own.map (·.2)) σ H (fun x H1 => gName i x σ H1 D.nx) := h
  refine wpAny_bind (thn (lcX (Qf := fun _ t => SP X pins D .next t) tk hc hN I hi ok hg ht he hs h fun L t m H' ce I' q hn f => ?_) fun _ t hq => wpAny_pure (wpAny_pure hq))
  show wpAny _ _ (assign (.Name y py) X.env (.ref L)) _ _ _
  refine wpAny_assign_Name (store_ok2 (v := V.ref L) I' hN hy (.inl hyl) rfl (fun t2 I2 ⟨a, sb, ha⟩ => ?_) (.inr hyl))
  have hne : ce.locals ≠ a := by
    cases ha with
    | inl z => rw [z]; exact f.2.1
    | inr z => exact fun q => f.2.2.2.2.1 y a z q.symm
  refine ⟨m, hn.sameBut sb hne, fun h3 sb3 => ⟨_, H', I2.turned (t' := t2.toks) (fun b o hb z => (sb3.2 b hb).trans z) f.1 f.2.1 f.2.2.2.1 f.2.2.2.2.1 f.2.2.2.2.2, q⟩⟩
end
end Gv

namespace Gv
open PySem PySem.Spec L2

/-! ### calls of built-ins -/
def notStar : Expr → Bool
  | .Starred .. => false
  | _ => true
theorem star_cons {e : Expr} {es : List Expr} {env : Env} (h : notStar e = true) : starEach (e :: es) env = (false, eval e env) :: starEach es env := by
  cases e <;> first | rfl | cases h
theorem star_all {env : Env} {pos : Pos} : ∀ {es : List Expr}, es.all notStar = true → ((backTo pos (starEach es env)).any fun x => x.1) = false
  | [], _ => rfl
  | e :: es, h => by
    simp only [List.all_cons, Bool.and_eq_true] at h
    rw [star_cons h.1]
    have ih := star_all (env := env) (pos := pos) h.2
    simp only [backTo, List.map_cons, List.any_cons, Bool.false_or] at ih ⊢
    exact ih
theorem call_str_none {X : Cx} : CallR X (.type "str") (fun xs H Q => xs = [.non] ∧ Q (.str ("None" : String)) H) := by
  intro pins s σ H xs us Q I r h
  obtain ⟨rfl, q⟩ := h
  obtain ⟨u, rfl, r1⟩ := vals1 r
  cases r1
  exact PySem.P.str_of_none ⟨.str _, H, I.tok _, ⟨_, rfl⟩, q⟩
section
variable {X : Cx} {cl : Nat → Addr} {W : WX} {a b c e : Expr} {es : List Expr} {ga gb gc ge : Slots → Store → R Val} {gs : Slots → Store → R (List Val)} {pos p : Pos} {F : FEnv} {x : Str}

theorem se_callB {id : String} {rr : List V → Hp → VK → Prop} {f : List Val → Store → R Val} (hc : CallR X (.builtin id) rr) (hg : Gl X x) (hm : X.mg x = none) (hv : bootBuiltins x = some (.builtin id)) (ha : SA X cl W (e :: es) gs)
    (hk : ∀ (σ : L2.St) (B r : List Addr) (H : Hp) (M : Store) (Q : VK) (us : List V) (vs : List Val), Rel X.K cl B r M H → VRs X.K cl B r H us vs → Out X.K cl (VR X.K cl B) W σ B r H (f vs M) (KQ Q) → rr us H Q)
    (hs : (e :: es).all notStar = true) (hn : x ≠ "__name__") (hd : (x == ("__debug__" : Str)) = false) : SE X cl W (.Call (.Name x p) (e :: es) [] pos) (fun s M => (gs s M).bind fun vs M => f vs M) := by
  have hs' := hs
  simp only [List.all_cons, Bool.and_eq_true] at hs'
  exact PE.imp (pe_callB hc hg hm hv ha hn hd (star_cons hs'.1) (star_all hs'.2)) fun σ H Q ⟨B, r, M, s, R, S, o⟩ => ⟨B, r, M, s, R, S, o.step fun us vs r1 M1 H1 g1 R1 v1 o1 => hk σ B r1 H1 M1 Q us vs R1 v1 o1⟩
theorem se_callTy {T : String} {rr : List V → Hp → VK → Prop} {f : List Val → Store → R Val} (hc : CallR X (.type T) rr) (hg : Gl X x) (hm : X.mg x = none) (hv : bootBuiltins x = some (.type T)) (ha : SA X cl W (e :: es) gs)
    (hk : ∀ (σ : L2.St) (B r : List Addr) (H : Hp) (M : Store) (Q : VK) (us : List V) (vs : List Val), Rel X.K cl B r M H → VRs X.K cl B r H us vs → Out X.K cl (VR X.K cl B) W σ B r H (f vs M) (KQ Q) → rr us H Q)
    (hs : (e :: es).all notStar = true) (hn : x ≠ "__name__") (hd : (x == ("__debug__" : Str)) = false) : SE X cl W (.Call (.Name x p) (e :: es) [] pos) (fun s M => (gs s M).bind fun vs M => f vs M) := by
  have hs' := hs
  simp only [List.all_cons, Bool.and_eq_true] at hs'
  exact PE.imp (pe_callTy hc hg hm hv ha hn hd (star_cons hs'.1) (star_all hs'.2)) fun σ H Q ⟨B, r, M, s, R, S, o⟩ => ⟨B, r, M, s, R, S, o.step fun us vs r1 M1 H1 g1 R1 v1 o1 => hk σ B r1 H1 M1 Q us vs R1 v1 o1⟩

section
variable {K : PySem.W.Frag} {B r : List Addr} {H : Hp} {M : Store} {us : List V}
theorem VRs.one {v : Val} (h : VRs K cl B r H us [v]) : ∃ x, us = [x] ∧ VR K cl B r H x v := by
  cases h with | cons a t => cases t; exact ⟨_, rfl, a⟩
theorem VRs.two {v w : Val} (h : VRs K cl B r H us [v, w]) : ∃ x y, us = [x, y] ∧ VR K cl B r H x v ∧ VR K cl B r H y w := by
  cases h with | cons a t => cases t with | cons b t => cases t; exact ⟨_, _, rfl, a, b⟩
theorem VRs.three {v w u : Val} (h : VRs K cl B r H us [v, w, u]) : ∃ x y z, us = [x, y, z] ∧ VR K cl B r H x v ∧ VR K cl B r H y w ∧ VR K cl B r H z u := by
  cases h with | cons a t => cases t with | cons b t => cases t with | cons c t => cases t; exact ⟨_, _, _, rfl, a, b, c⟩
theorem VR.len (R : Rel K cl B r M H) {x : V} {v : Val} {n : Nat} (h : VR K cl B r H x v) (e : lenD M v = some n) : (∃ p ys, x = .ref p ∧ (SqL K H p ys ∨ SqT K H p ys) ∧ ys.length = n) ∨ (∃ z : Str, x = .str z ∧ z.length ≤ sizeLine ∧ z.length = n) ∨
    (∃ p, x = .ref p ∧ ((∃ kvs : List (Key × V), H p = some (.dK kvs) ∧ kvs.length = n) ∨ ∃ kvs : List (List Key × V), H p = some (.dT kvs) ∧ kvs.length = n)) := by
  unfold lenD at e
  split at e
  · obtain ⟨a, xs, rfl, h, _, _, _, hs⟩ := h.list
    cases e
    exact .inl ⟨a, xs, rfl, .inl (.inl (.inl h)), hs.length⟩
  · obtain ⟨a, xs, rfl, h, _, hs⟩ := h.tuple
    cases e
    exact .inl ⟨a, xs, rfl, .inr (.inl (.inl h)), hs.length⟩
  · split at e
    · rename_i hz
      cases e
      exact .inr (.inl ⟨_, h.str, by rw [← lim_eq]; exact hz, rfl⟩)
    · cases e
  · split at e
    · rename_i vs em
      obtain ⟨p, rfl, hp⟩ := h.atRef
      obtain ⟨c, e1, hc⟩ := R.mem hp
      rw [em] at e1
      cases e1
      cases e
      cases hc with
      | lst h' l hs => exact .inl ⟨p, _, rfl, .inl (.inl (.inl h')), Paired.length hs⟩
    · rename_i t kvs em
      obtain ⟨p, rfl, hp⟩ := h.atRef
      obtain ⟨c, e1, hc⟩ := R.mem hp
      rw [em] at e1
      cases e1
      cases e
      cases hc with
      | dK h' l hs => exact .inr (.inr ⟨p, rfl, .inl ⟨_, h', Paired.length hs⟩⟩)
      | dT h' l hs => exact .inr (.inr ⟨p, rfl, .inr ⟨_, h', Paired.length hs⟩⟩)
    · cases e
  · cases e
theorem DRs.bools : ∀ {xs : List V} {ds : List PyData} {bs : List Bool}, DRs B r H xs ds → allB ds = some bs → xs = bs.map V.bl
  | _, _, _, .nil, e => by simp [allB] at e; subst e; rfl
  | _, _, _, .cons (d := d) a t, e => by
    cases a with
    | bl b =>
      simp only [allB, Option.map_eq_some_iff] at e
      obtain ⟨bs', e1, rfl⟩ := e
      rw [DRs.bools t e1]; rfl
    | _ => simp [allB] at e
theorem DRs.ofInts (ns : List Int) : DRs B r H (ns.map V.int) (ns.map PyData.int) := by
  induction ns with
  | nil => exact .nil
  | cons n ns ih => exact .cons (.int n) ih
end

/-- the names of the built-ins that stand in the text -/
def bfName : Bf → Str
  | .len => "len" | .list => "list" | .tuple => "tuple" | .int => "int" | .min2 => "min" | .max2 => "max" | .all => "all" | .divmod => "divmod" | .max1 => "max" | .min1 => "min" | .sorted => "sorted" | .str => "str" | .lenset => "len" | .sortset => "sorted"
def bfLate : Bf → Bool
  | .max1 => true | .min1 => true | .sorted => true | .lenset => true | .sortset => true | _ => false
theorem call_list_txt (hc : X.calm = true) : CallR X (.type "list") (fun xs H Q => ∃ z, xs = [.str z] ∧ z.length ≤ sizeLine ∧ ∀ q, H q = none → Q (.ref q) (upd H q (.lst (z.cps.toList.map fun c => V.str ⟨#[c]⟩)))) := by
  intro pins s σ H xs us Q I r h
  obtain ⟨z, rfl, hz, q⟩ := h
  obtain ⟨u, rfl, t, rfl⟩ := vals1 r
  refine PySem.call_list_str (I.ok.hd hc) z t (fun h' tk acc c' hk e hi => ?_) hz
  refine ⟨.ref s.heap.objs.size, upd H s.heap.objs.size (.lst (z.cps.toList.map fun c => V.str ⟨#[c]⟩)), I.laid hk (Nat.le_refl _) (show ObjOk X.prog X.w _ _ _ (.lst (z.cps.toList.map fun c => V.str ⟨#[c]⟩)) from ⟨?_, acc.toList, c', ?_, ?_⟩), rfl, q _ (I.hok.fresh (Nat.le_refl _))⟩
  · rw [List.length_map]; exact hz
  · refine vals_of_at (by rw [List.length_map, Array.length_toList, Array.length_toList, hi.1]) fun j x w h1 h2 => ?_
    obtain ⟨c, v, e1, rfl⟩ := hi.2 j w (by rw [← Array.getElem?_toList]; exact h2)
    rw [List.getElem?_map, Array.getElem?_toList, e1] at h1
    cases h1
    exact ⟨v, rfl⟩
  · rw [Array.toArray_toList]; exact e
theorem drs_signs {B r : List Addr} {H : Hp} : ∀ l : List Nat, DRs B r H (l.map fun c => V.str ⟨#[c]⟩) (l.map fun c => PyData.str ⟨#[c]⟩)
  | [] => .nil
  | c :: l => .cons (.str _) (drs_signs l)
theorem se_bi {al : Bool} (f : Bf) (hlate : bfLate f = false) (hcalm : X.calm = true) (hx : x = bfName f) (hg : Gl X x) (hm : X.mg x = none) (ha : SA X cl W (e :: es) gs) (hs : (e :: es).all notStar = true) :
    SE X cl W (.Call (.Name x p) (e :: es) [] pos) (fun s M => (gs s M).bind fun vs M => biD al f vs M) := by
  subst hx
  cases f with
  | len =>
    refine se_callB (id := "len") (f := fun vs M => biLen vs M) (call_len_seq.or (call_len_str.or (call_lenD.or call_len_dT))) hg hm (by decide +kernel) ha (fun σ B r H M Q us vs R hv o => ?_) hs (by decide) (by decide)
    unfold biLen at o
    split at o
    · obtain ⟨x, rfl, hx⟩ := VRs.one hv
      split at o
      · rename_i n e
        rcases VR.len R hx e with ⟨p, ys, rfl, hp, rfl⟩ | ⟨z, rfl, hz, rfl⟩ | ⟨p, rfl, ⟨kvs, hp, rfl⟩ | ⟨kvs, hp, rfl⟩⟩
        · exact .inl ⟨p, ys, rfl, hp, Out.here (u := .int _) o R (.d (.int _))⟩
        · exact .inr (.inl ⟨z, rfl, hz, Out.here (u := .int _) o R (.d (.int _))⟩)
        · exact .inr (.inr (.inl ⟨p, kvs, rfl, hp, Out.here (u := .int _) o R (.d (.int _))⟩))
        · exact .inr (.inr (.inr ⟨p, kvs, rfl, hp, Out.here (u := .int _) o R (.d (.int _))⟩))
      · exact o.elim
    · exact o.elim
  | list =>
    refine se_callTy (T := "list") (f := fun vs M => biList al vs M) (call_list_of.or (call_list_txt hcalm)) hg hm (by decide +kernel) ha (fun σ B r H M Q us vs R hv o => ?_) hs (by decide) (by decide)
    unfold biList at o
    split at o
    · obtain ⟨x, rfl, hx⟩ := VRs.one hv
      obtain ⟨a, xs, rfl, h, l, hd⟩ := hx.tuple
      refine .inl ⟨a, xs, rfl, .inr (.inl (.inl h)), fun p hp => ?_⟩
      obtain ⟨_, _, _, q⟩ := Out.newL o R hd l hp
      exact q
    · obtain ⟨x, rfl, hx⟩ := VRs.one hv
      split at o
      · rename_i hz
        cases hx with
        | scr h =>
          refine .inl ⟨_, _, rfl, .inl h.sq, fun p hp => ?_⟩
          obtain ⟨_, _, _, q⟩ := Out.newL o R (DRs.ofInts _) (by simpa using hz) hp
          exact q
      · exact o.elim
    · obtain ⟨x, rfl, hx⟩ := VRs.one hv
      split at o
      · rename_i hz
        refine .inr ⟨_, by rw [hx.str], by rw [← lim_eq]; exact hz, fun p hp => ?_⟩
        obtain ⟨_, _, _, q⟩ := Out.newL o R (drs_signs _) (by simpa [Str.length] using hz) hp
        exact q
      · exact o.elim
    · obtain ⟨x, rfl, hx⟩ := VRs.one hv
      split at o
      · rename_i e
        obtain ⟨pa, ys, rfl, ha, da, la⟩ := VR.lstD R hx e
        refine .inl ⟨pa, ys, rfl, .inl (.inl (.inl ha)), fun p hp => ?_⟩
        obtain ⟨_, _, _, q⟩ := Out.newL o R da la hp
        exact q
      · exact o.elim
    · exact o.elim
  | tuple =>
    refine se_callTy (T := "tuple") (f := fun vs M => biTuple vs M) call_tuple_of hg hm (by decide +kernel) ha (fun σ B r H M Q us vs R hv o => ?_) hs (by decide) (by decide)
    unfold biTuple at o
    split at o
    · obtain ⟨x, rfl, hx⟩ := VRs.one hv
      obtain ⟨a, xs, rfl, h, l, hd⟩ := hx.tuple
      exact ⟨a, xs, rfl, .inr ⟨.inl (.inl h), o.here R (.d (.tup h l hd))⟩⟩
    · obtain ⟨x, rfl, hx⟩ := VRs.one hv
      split at o
      · rename_i e
        obtain ⟨pa, ys, rfl, ha, da, la⟩ := VR.lstD R hx e
        refine ⟨pa, ys, rfl, .inl ⟨.inl (.inl ha), fun p hp => ?_⟩⟩
        obtain ⟨_, _, _, q⟩ := Out.newT o R da la hp
        exact q
      · exact o.elim
    · exact o.elim
  | int =>
    refine se_callTy (T := "int") (f := fun vs M => biInt vs M) (call_int1.or call_int_str) hg hm (by decide +kernel) ha (fun σ B r H M Q us vs R hv o => ?_) hs (by decide) (by decide)
    unfold biInt at o
    split at o
    · rename_i i
      obtain ⟨x, rfl, hx⟩ := VRs.one hv
      obtain rfl := hx.int
      exact .inl (.inl ⟨i, rfl, Out.here (u := .int _) o R (.d (.int _))⟩)
    · rename_i k
      obtain ⟨x, rfl, hx⟩ := VRs.one hv
      obtain rfl := hx.bool
      exact .inl (.inr ⟨k, rfl, Out.here (u := .int _) o R (.d (.int _))⟩)
    · rename_i z
      split at o
      · rename_i n en
        split at o
        · rename_i hz
          obtain ⟨x, rfl, hx⟩ := VRs.one hv
          obtain rfl := hx.str
          exact .inr ⟨z, n, rfl, en, hz, Out.here (u := .int _) o R (.d (.int _))⟩
        · exact o.elim
      · exact o.elim
    · exact o.elim
  | min2 =>
    refine se_callB (id := "min") (f := fun vs M => biMin vs M) (call_min2 hcalm) hg hm (by decide +kernel) ha (fun σ B r H M Q us vs R hv o => ?_) hs (by decide) (by decide)
    unfold biMin at o
    split at o
    · rename_i i j
      obtain ⟨x, y, rfl, hx, hy⟩ := VRs.two hv
      obtain rfl := hx.int
      obtain rfl := hy.int
      exact ⟨i, j, rfl, Out.here (u := .int _) o R (.d (.int _))⟩
    · exact o.elim
  | max2 =>
    refine se_callB (id := "max") (f := fun vs M => biMax vs M) (call_max2 hcalm) hg hm (by decide +kernel) ha (fun σ B r H M Q us vs R hv o => ?_) hs (by decide) (by decide)
    unfold biMax at o
    split at o
    · rename_i i j
      obtain ⟨x, y, rfl, hx, hy⟩ := VRs.two hv
      obtain rfl := hx.int
      obtain rfl := hy.int
      exact ⟨i, j, rfl, Out.here (u := .int _) o R (.d (.int _))⟩
    · exact o.elim
  | all =>
    refine se_callB (id := "all") (f := fun vs M => biAll vs M) (cr_all hcalm) hg hm (by decide +kernel) ha (fun σ B r H M Q us vs R hv o => ?_) hs (by decide) (by decide)
    unfold biAll at o
    split at o
    · obtain ⟨x, rfl, hx⟩ := VRs.one hv
      split at o
      · rename_i bs e
        simp only [Option.bind_eq_some_iff] at e
        obtain ⟨ds, e1, e2⟩ := e
        obtain ⟨pa, ys, rfl, ha, da, la⟩ := VR.lstD R hx e1
        have := da.bools e2
        subst this
        exact ⟨pa, bs, rfl, .inl (.inl ha), bl_ok R o⟩
      · exact o.elim
    · exact o.elim
  | divmod =>
    refine se_callB (id := "divmod") (f := fun vs M => biDivmod vs M) call_divmod hg hm (by decide +kernel) ha (fun σ B r H M Q us vs R hv o => ?_) hs (by decide) (by decide)
    unfold biDivmod at o
    split at o
    · rename_i i j
      split at o
      · rename_i hl
        simp only [Bool.and_eq_true, decide_eq_true_eq] at hl
        obtain ⟨x, y, rfl, hx, hy⟩ := VRs.two hv
        obtain rfl := hx.int
        obtain rfl := hy.int
        refine ⟨i, j, rfl, hl, fun p hp => ?_⟩
        obtain ⟨_, _, _, q⟩ := Out.newT o R (.cons (.int _) (.cons (.int _) .nil)) (by show 2 ≤ lim; decide) hp
        exact q
      · exact o.elim
    · exact o.elim
  | str =>
    refine se_callTy (T := "str") (f := fun vs M => biStr vs M) ((call_str_int.or SkE.call_str_str).or call_str_none) hg hm (by decide +kernel) ha (fun σ B r H M Q us vs R hv o => ?_) hs (by decide) (by decide)
    unfold biStr at o
    split at o
    · rename_i i
      split at o
      · rename_i hz
        obtain ⟨x, rfl, hx⟩ := VRs.one hv
        obtain rfl := hx.int
        exact .inl (.inl ⟨i, rfl, hz, Out.here (u := .str _) o R (.d (.str _))⟩)
      · exact o.elim
    · rename_i z
      obtain ⟨x, rfl, hx⟩ := VRs.one hv
      obtain rfl := hx.str
      exact .inl (.inr ⟨z, rfl, Out.here (u := .str _) o R (.d (.str _))⟩)
    · obtain ⟨x, rfl, hx⟩ := VRs.one hv
      obtain rfl := hx.none
      exact .inr ⟨rfl, Out.here (u := .str _) o R (.d (.str _))⟩
    · exact o.elim
  | max1 => cases hlate
  | min1 => cases hlate
  | sorted => cases hlate
  | lenset => cases hlate
  | sortset => cases hlate
end
end Gv

namespace Gv
open PySem PySem.Spec L2

/-! ### isinstance with a built-in class -/
def tyStr : Ty → String
  | .int => "int" | .bool => "bool" | .str => "str" | .list => "list" | .tuple => "tuple" | .none_ => "NoneType" | .verr => "ValueError" | .cls _ => "object"
section
variable {K : PySem.W.Frag} {cl : Nat → Addr} {B r : List Addr} {H : Hp} {M : Store}
theorem sqt_ty {a : Addr} {xs : List V} (h : SqT K H a xs) : TyX K H (.ref a) (.type "tuple") := by
  rcases h with (h | ⟨o, h⟩) | ⟨o, its, n, h1, h2, _⟩
  · exact .base (.tup h)
  · exact .fTuple h
  · exact .kTuple h1 h2
theorem VR.ty (R : Rel K cl B r M H) {x : V} {v : Val} {t : Ty} (h : VR K cl B r H x v) (e : tyD M v = some t) : TyX K H x (.type (tyStr t)) := by
  unfold tyD at e
  split at e
  · cases e; rw [h.none]; exact .base .non
  · cases e; rw [h.bool]; exact .base (.bl _)
  · cases e; rw [h.int]; exact .base (.int _)
  · cases e; rw [h.str]; exact .base (.str _)
  · cases e
    obtain ⟨a, xs, rfl, h, _, _, _, hs⟩ := h.list
    exact .base (.lst h)
  · cases e
    obtain ⟨a, xs, rfl, h, _, hs⟩ := h.tuple
    exact sqt_ty (.inl (.inl h))
  · split at e
    · rename_i vs em
      obtain ⟨p, rfl, hp⟩ := h.atRef
      obtain ⟨c, e1, hc⟩ := R.mem hp
      rw [em] at e1
      cases e1
      cases e
      cases hc with
      | lst h' l hs => exact .base (.lst h')
    · rename_i vs em
      obtain ⟨p, rfl, hp⟩ := h.atRef
      obtain ⟨c, e1, hc⟩ := R.mem hp
      rw [em] at e1
      cases e1
      cases e
      cases hc with
      | tup h' l hs => exact .base (.tup h')
    · cases e
  · cases e
theorem kit_all (u t : Ty) (hu : ∀ c, u ≠ .cls c) (hu2 : u ≠ .verr) (ht : plainTy t = true) : PySem.W.kitOne K (.type (tyStr u)) (.type (tyStr t)) = some (decide (u = t) || (decide (t = .int) && decide (u = .bool))) := by
  apply kit_ty
  cases t with
  | verr => cases ht
  | none_ => cases ht
  | cls c => cases ht
  | int => cases u <;> first | exact absurd rfl hu2 | exact absurd rfl (hu _) | decide +kernel
  | bool => cases u <;> first | exact absurd rfl hu2 | exact absurd rfl (hu _) | decide +kernel
  | str => cases u <;> first | exact absurd rfl hu2 | exact absurd rfl (hu _) | decide +kernel
  | list => cases u <;> first | exact absurd rfl hu2 | exact absurd rfl (hu _) | decide +kernel
  | tuple => cases u <;> first | exact absurd rfl hu2 | exact absurd rfl (hu _) | decide +kernel
theorem tyD_plain {v : Val} {t : Ty} (e : tyD M v = some t) : (∀ c, t ≠ .cls c) ∧ t ≠ .verr := by
  unfold tyD at e
  split at e <;> first | (cases e; exact ⟨fun c => by simp, by simp⟩) | skip
  · split at e <;> cases e
    · exact ⟨fun c => by simp, by simp⟩
    · exact ⟨fun c => by simp, by simp⟩
  · cases e
end
section
variable {X : Cx} {cl : Nat → Addr} {W : WX} {a b c e : Expr} {es : List Expr} {ga gb gc ge : Slots → Store → R Val} {gs : Slots → Store → R (List Val)} {pos p p2 : Pos} {F : FEnv} {x : Str}
def eIsi (sub : Nat → Nat → Option Bool) (t : Ty) (g : Slots → Store → R Val) : Slots → Store → R Val := fun s M => (g s M).bind fun x M => (match isiD sub M x t with
      | some b => bl b M
      | none => .bad)
def plainName : Str → Option Ty := fun x =>
  if x == "int" then some .int else if x == "bool" then some .bool else if x == "str" then some .str else if x == "list" then some .list else if x == "tuple" then some .tuple else none
theorem plainName_ok {x : Str} {t : Ty} (h : plainName x = some t) : plainTy t = true ∧ bootBuiltins x = some (.type (tyStr t)) ∧ x ≠ "__name__" ∧ (x == ("__debug__" : Str)) = false := by
  unfold plainName at h
  split at h
  · rename_i e; cases h; rw [eq_of_beq e]; exact ⟨rfl, by decide +kernel, by decide, by decide⟩
  · split at h
    · rename_i e; cases h; rw [eq_of_beq e]; exact ⟨rfl, by decide +kernel, by decide, by decide⟩
    · split at h
      · rename_i e; cases h; rw [eq_of_beq e]; exact ⟨rfl, by decide +kernel, by decide, by decide⟩
      · split at h
        · rename_i e; cases h; rw [eq_of_beq e]; exact ⟨rfl, by decide +kernel, by decide, by decide⟩
        · split at h
          · rename_i e; cases h; rw [eq_of_beq e]; exact ⟨rfl, by decide +kernel, by decide, by decide⟩
          · cases h
theorem se_isi {sub : Nat → Nat → Option Bool} {y : Str} {t : Ty} (hg : Gl X "isinstance") (hm : X.mg "isinstance" = none) (hgy : Gl X y) (hmy : X.mg y = none) (hy : plainName y = some t) (ha : SE X cl W a ga) (hs : notStar a = true) :
    SE X cl W (.Call (.Name "isinstance" p) [a, .Name y p2] [] pos) (eIsi sub t ga) := by
  obtain ⟨ht, hb, hn, hd⟩ := plainName_ok hy
  have hp : PE X (.Name y p2) (tC (.ty (tyStr t))) := pe_bltn hgy hmy hb rfl hn hd
  refine PE.imp (pe_callB call_isi hg hm (by decide +kernel) (pa_cons ha (pa_cons hp pa_nil (star_cons rfl)) (star_cons hs)) (by decide) (by decide) (star_cons hs) (star_all (by rfl))) fun σ H Q ⟨B, r, M, s, R, S, o⟩ => ⟨B, r, M, s, R, S, o.step fun x v r1 M1 H1 g1 R1 v1 o1 => ?_⟩
  split at o1
  · rename_i k e
    unfold isiD at e
    split at e
    · cases ht
    · cases ht
    · rw [if_pos ht] at e
      simp only [Option.map_eq_some_iff] at e
      obtain ⟨u, e1, e2⟩ := e
      subst e2
      obtain ⟨q1, q2⟩ := tyD_plain e1
      exact ⟨x, .ty (tyStr t), _, _, _, rfl, .ty _, v1.ty R1 e1, kit_all u t q1 q2 ht, bl_ok R1 o1⟩
  · exact o1.elim

/-! ### a def is called -/
def spF (K : PySem.W.Frag) (cl : Nat → Addr) (n : Nat) (g : List Val → Store → R Val) : Sp := fun us H Q E => us.length = n ∧ ∃ B r M vs, Rel K cl B r M H ∧ VRs K cl B r H us vs ∧
  Out K cl (VR K cl B) (fun c d _ H => E c d H) [] B r H (g vs M) (KQ Q)
end
section
variable {K : PySem.W.Frag} {cl : Nat → Addr} {B r : List Addr} {H H' : Hp} {M : Store}
mutual
theorem DR.block : ∀ {x : V} {d : PyData}, DR B r H x d → DR (B ++ r) [] H x d
  | _, _, .non => .non
  | _, _, .bl b => .bl b
  | _, _, .int i => .int i
  | _, _, .str x => .str x
  | _, _, .lst h n1 n2 l hs => .lst h (by simp [n1, n2]) (by simp) l (DRs.block hs)
  | _, _, .tup h l hs => .tup h l (DRs.block hs)
theorem DRs.block : ∀ {xs : List V} {ds : List PyData}, DRs B r H xs ds → DRs (B ++ r) [] H xs ds
  | _, _, .nil => .nil
  | _, _, .cons a b => .cons (DR.block a) (DRs.block b)
end
mutual
theorem DR.unblock {r' : List Addr} : ∀ {x : V} {d : PyData}, DR (B ++ r) r' H x d → DR B (r ++ r') H x d
  | _, _, .non => .non
  | _, _, .bl b => .bl b
  | _, _, .int i => .int i
  | _, _, .str x => .str x
  | _, _, .lst h n1 n2 l hs => .lst h (fun z => n1 (List.mem_append_left _ z)) (fun z => (List.mem_append.mp z).elim (fun q => n1 (List.mem_append_right _ q)) n2) l (DRs.unblock hs)
  | _, _, .tup h l hs => .tup h l (DRs.unblock hs)
theorem DRs.unblock {r' : List Addr} : ∀ {xs : List V} {ds : List PyData}, DRs (B ++ r) r' H xs ds → DRs B (r ++ r') H xs ds
  | _, _, .nil => .nil
  | _, _, .cons a b => .cons (DR.unblock a) (DRs.unblock b)
end
theorem VR.unblock {r' : List Addr} {x : V} {v : Val} (h : VR K cl (B ++ r) r' H x v) : VR K cl B (r ++ r') H x (v.shift r.length) := by
  cases h with
  | d h => exact .d h.unblock
  | ref h =>
    rename_i a n
    refine .ref ?_
    rw [List.getElem?_append_right (by omega)]
    simpa using h
  | exc h n1 n2 => exact .exc h (fun z => n1 (List.mem_append_left _ z)) (fun z => (List.mem_append.mp z).elim (fun q => n1 (List.mem_append_right _ q)) n2)
  | scr h =>
    rcases h with ⟨h, n1, n2⟩ | h
    · exact .scr (.inl ⟨h, fun z => n1 (List.mem_append_left _ z), fun z => (List.mem_append.mp z).elim (fun q => n1 (List.mem_append_right _ q)) n2⟩)
    · exact .scr (.inr h)
theorem VRs.unblock {r' : List Addr} : ∀ {xs : List V} {vs : List Val}, VRs K cl (B ++ r) r' H xs vs → VRs K cl B (r ++ r') H xs (vs.map (Val.shift r.length))
  | _, _, .nil => .nil
  | _, _, .cons a t => .cons (VR.unblock a) (VRs.unblock t)
theorem paired_mapR {α β γ : Type} {P : α → β → Prop} {Q : α → γ → Prop} {f : β → γ} : ∀ {xs : List α} {ys : List β}, Paired P xs ys → (∀ x y, P x y → Q x (f y)) → Paired Q xs (ys.map f)
  | _, _, .nil, _ => .nil
  | _, _, .cons a t, h => .cons (h _ _ a) (paired_mapR t h)
theorem CR.unblock {r' : List Addr} {a : Addr} {c : Cell} (h : CR K cl (B ++ r) r' H a c) : CR K cl B (r ++ r') H a (c.shift r.length) := by
  cases h with
  | lst h l hs => exact .lst h (by simpa using l) hs.unblock
  | dK h l hs => exact .dK h (by simpa using l) (paired_mapR hs fun _ _ z => ⟨z.1, z.2.unblock⟩)
  | dT h l hs => exact .dT h (by simpa using l) (paired_mapR hs fun _ _ z => ⟨z.1, z.2.unblock⟩)
  | ins h ho nb n ci hs => exact .ins h ho (fun z => nb (List.mem_append_left _ z)) (fun z => (List.mem_append.mp z).elim (fun q => nb (List.mem_append_right _ q)) n) ci (paired_mapR hs fun _ _ z => ⟨z.1, z.2.unblock⟩)
  | tup h l hs => exact .tup h (by simpa using l) hs.unblock
/-- a call that is handed data alone: its own store -/
theorem Rel.apart (R : Rel K cl B r M H) : Rel K cl (B ++ r) [] [] H := by
  refine ⟨rfl, List.nodup_nil, fun a h => by simp at h, fun a h => ?_, fun n c a e => by simp at e⟩
  rcases List.mem_append.mp h with q | q
  · exact R.bs a q
  · obtain ⟨o, e, _⟩ := R.isSome q
    rw [e]; exact fun z => nomatch z
theorem Grow.apart {r' : List Addr} (g : Grow [] H r' H') : Grow r H (r ++ r') H' := by
  refine ⟨⟨r', rfl⟩, fun a o h _ => g.keep a o h (by simp), fun a h => ?_, g.some, g.tup⟩
  rcases List.mem_append.mp h with q | q
  · exact .inl q
  · rcases g.new a q with z | z
    · simp at z
    · exact .inr z
theorem Grow.apart0 {r' : List Addr} (g : Grow [] H r' H') : Grow r H r H' :=
  ⟨⟨[], by simp⟩, fun a o h _ => g.keep a o h (by simp), fun a h => .inl h, g.some, g.tup⟩
theorem Rel.apart0 {r' : List Addr} (R : Rel K cl B r M H) (g : Grow [] H r' H') : Rel K cl B r M H' := by
  refine ⟨R.len, R.nd, R.blk, fun a h => g.some a (R.bs a h), fun n c a e1 e2 => (R.cell n c a e1 e2).mono g.apart0 ?_⟩
  obtain ⟨o, q, _⟩ := R.isSome (List.mem_of_getElem? e2)
  rw [q]; exact g.keep a o q (by simp)
theorem Rel.join {r' : List Addr} {M' : Store} (R : Rel K cl B r M H) (g : Grow [] H r' H') (R' : Rel K cl (B ++ r) r' M' H') : Rel K cl B (r ++ r') (M ++ M'.map (Cell.shift M.length)) H' := by
  have fresh : ∀ a ∈ r', H a = none := fun a h => by
    rcases g.new a h with z | z
    · simp at z
    · exact z
  refine ⟨by simp [R.len, R'.len], ?_, fun a h => ?_, fun a h => g.some a (R.bs a h), fun n c a e1 e2 => ?_⟩
  · rw [List.nodup_append]
    refine ⟨R.nd, R'.nd, fun a ha b hb e => ?_⟩
    obtain ⟨o, q, _⟩ := R.isSome ha
    rw [e, fresh b hb] at q
    cases q
  · rcases List.mem_append.mp h with q | q
    · exact R.blk a q
    · exact fun z => R'.blk a q (List.mem_append_left _ z)
  · by_cases hn : n < M.length
    · have hr : n < r.length := by rw [R.len]; exact hn
      rw [List.getElem?_append_left hn] at e1
      rw [List.getElem?_append_left hr] at e2
      refine (R.cell n c a e1 e2).mono g.apart ?_
      obtain ⟨o, q, _⟩ := R.isSome (List.mem_of_getElem? e2)
      rw [q]; exact g.keep a o q (by simp)
    · rw [List.getElem?_append_right (by omega)] at e1
      rw [List.getElem?_append_right (by rw [R.len]; omega), R.len] at e2
      simp only [List.getElem?_map, Option.map_eq_some_iff] at e1
      obtain ⟨c', e3, rfl⟩ := e1
      rw [← R.len]
      exact (R'.cell _ c' a e3 e2).unblock
end
section
variable {X : Cx} {cl : Nat → Addr} {W : WX} {e : Expr} {es : List Expr} {gs : Slots → Store → R (List Val)} {pos p : Pos} {F : FEnv} {x : Str}
theorem call_sp {K : PySem.W.Frag} {σ : L2.St} {B r : List Addr} {H : Hp} {M : Store} {Q : VK} {us : List V} {vs : List Val} {i n : Nat} (R : Rel K cl B r M H) (hv : VRs K cl B r H us vs) (hn : us.length = n) (o : Out K cl (VR K cl B) W σ B r H (callV F i vs M) (KQ Q)) :
    spF K cl n (F.call i) us H Q (WE W σ) := by
  refine ⟨hn, ?_⟩
  unfold callV at o
  cases ed : allD vs with
  | none =>
    rw [ed] at o
    refine ⟨B, r, M, vs, R, hv, ?_⟩
    cases q : F.call i vs M with
    | bad => rw [q] at o; exact o
    | exc c M' => rw [q] at o; exact o
    | ok v M' => rw [q] at o; exact o
  | some ds =>
    rw [ed] at o
    have hd := VRs.allD hv ed
    have hvs : vs = ds.map .d := by
      clear o hv R hd hn
      induction vs generalizing ds with
      | nil => simp [allD] at ed; subst ed; rfl
      | cons v vs ih =>
        cases v with
        | d y =>
          simp only [allD, Option.map_eq_some_iff] at ed
          obtain ⟨ds', e1, rfl⟩ := ed
          simp [ih ds' e1]
        | _ => simp [allD] at ed
    refine ⟨B ++ r, [], [], vs, R.apart, by rw [hvs]; exact hd.block.vrs, ?_⟩
    cases q : F.call i vs [] with
    | bad => simp only [q] at o; exact o
    | exc c M' => simp only [q] at o; exact fun H' r' g R' => o H' r g.apart0 (R.apart0 g)
    | ok v M' =>
      simp only [q] at o
      intro u H' r' g R' hu
      exact o u H' (r ++ r') g.apart (R.join g R') (by rw [← R.len]; exact hu.unblock)
theorem pe_callS0 {CX : CXT} {k : Nat} {f : Addr} {fd : FuncData} {ps : List Str} {sp : Sp} {E : L2.St → XK} (F : FnOk X.prog X.w X.K X.mg X.base CX k f fd ps sp) (hr : Room k X.A) (hg : Gl X x) (hm : X.mg x = some (.ref f)) (hk : PySem.W.keepIn X.K (.ref f) = true) (hb : Binds X.K fd ps []) (hx : ∀ σ, PassesAt CX X σ (E σ))
    (hdb : (x == ("__debug__" : Str)) = false) : PE X (.Call (.Name x p) [] [] pos) (tCallS sp E tNil) := by
  refine ⟨fun pins s σ H Q I h => ?_⟩
  refine wpAny_Call_Name_kw (ld_glob I hg hm ?_ hdb)
  exact PySem.W.callWith_K0 I.kIn hk (run_fnS (us := []) F hr hb (hx σ) I .nil h)
theorem se_call0 {i n k : Nat} {f : Addr} {fd : FuncData} {ps : List Str} (hF : FnOk X.prog X.w X.K X.mg X.base (CXb X.prog X.w) k f fd ps (spF X.K cl n (F.call i))) (hr : Room k X.A) (hg : Gl X x) (hm : X.mg x = some (.ref f))
    (hk : PySem.W.keepIn X.K (.ref f) = true) (hb : Binds X.K fd ps []) (tk : Tk X W) (hn : n = 0) (hd : (x == ("__debug__" : Str)) = false) :
    SE X cl W (.Call (.Name x p) [] [] pos) (fun _ M => callV F i [] M) := by
  subst hn
  exact PE.imp (pe_callS0 hF hr hg hm hk hb (fun σ => tk.pass σ) hd) fun σ H Q ⟨B, r, M, s, R, S, o⟩ => call_sp R .nil rfl o
theorem se_call {i n k : Nat} {f : Addr} {fd : FuncData} {ps : List Str} (hF : FnOk X.prog X.w X.K X.mg X.base (CXb X.prog X.w) k f fd ps (spF X.K cl n (F.call i))) (hr : Room k X.A) (hg : Gl X x) (hm : X.mg x = some (.ref f))
    (hk : PySem.W.keepIn X.K (.ref f) = true) (hb : Binds X.K fd ps []) (tk : Tk X W) (hn : Cnt n gs) (ha : SA X cl W (e :: es) gs) (hs : (e :: es).all notStar = true) (hd : (x == ("__debug__" : Str)) = false) :
    SE X cl W (.Call (.Name x p) (e :: es) [] pos) (fun s M => (gs s M).bind fun vs M => callV F i vs M) := by
  have hs' := hs
  simp only [List.all_cons, Bool.and_eq_true] at hs'
  exact PE.imp (pe_callS hF hr hg hm hk hb (fun σ => tk.pass σ) ha hd (star_cons hs'.1) (star_all hs'.2)) fun σ H Q ⟨B, r, M, s, R, S, o⟩ => ⟨B, r, M, s, R, S, o.stepE fun us vs r1 M1 H1 e g1 R1 v1 o1 =>
    call_sp R1 v1 (by rw [Paired.length v1]; exact hn s M vs M1 e) o1⟩
end
end Gv

namespace Gv
open PySem PySem.Spec L2

/-! ### what is walked -/
inductive ItR (K : PySem.W.Frag) (cl : Nat → Addr) (B : List Addr) (r : List Addr) (H : Hp) : It → Src → Prop
  | lst {a : Addr} {xs : List V} {ds : List PyData} : H a = some (.lst xs) → a ∉ B → a ∉ r → ds.length ≤ lim → DRs B r H xs ds → ItR K cl B r H (Itl K a) (.vs (ds.map .d))
  | tup {a : Addr} {xs : List V} {ds : List PyData} : H a = some (.tup xs) → ds.length ≤ lim → DRs B r H xs ds → ItR K cl B r H (Itt K a) (.vs (ds.map .d))
  | rng {lo : Int} {n : Nat} : n ≤ lim → ItR K cl B r H (Itr lo n) (.vs (upTo lo n))
  | enm {a : Addr} {xs : List V} {ds : List PyData} : H a = some (.lst xs) → a ∉ B → a ∉ r → ds.length ≤ lim → DRs B r H xs ds →
      ItR K cl B r H (Ite K a) (.vs ((List.range ds.length).zipWith (fun (k : Nat) x => Val.d (.tuple [.int (k : Int), x])) ds))
  | enmT {a : Addr} {xs : List V} {ds : List PyData} : H a = some (.tup xs) → ds.length ≤ lim → DRs B r H xs ds →
      ItR K cl B r H (ItT K a) (.vs ((List.range ds.length).zipWith (fun (k : Nat) x => Val.d (.tuple [.int (k : Int), x])) ds))
  | str {z : Str} : z.length ≤ lim → ItR K cl B r H (Its z) (.vs (z.cps.toList.map fun c => .d (.str ⟨#[c]⟩)))
  | rngC {i : Int} {n : Nat} : n ≤ lim → ItR K cl B r H (Itc i (-1) n) (.vs ((List.range n).map fun (m : Nat) => .d (.int (i - (m : Int)))))
  | zip {a b : Addr} {xs ys : List V} {ds es : List PyData} : H a = some (.lst xs) → a ∉ B → a ∉ r → H b = some (.lst ys) → b ∉ B → b ∉ r → ds.length ≤ lim → es.length ≤ lim → DRs B r H xs ds → DRs B r H ys es →
      ItR K cl B r H (Itz K a b) (.vs (ds.zipWith (fun x y => Val.d (.tuple [x, y])) es))
  | zipT {a b : Addr} {xs ys : List V} {ds es : List PyData} : H a = some (.tup xs) → H b = some (.tup ys) → ds.length ≤ lim → es.length ≤ lim → DRs B r H xs ds → DRs B r H ys es →
      ItR K cl B r H (RZ.ItzT K a b) (.vs (ds.zipWith (fun x y => Val.d (.tuple [x, y])) es))
  | cel {a : Addr} {n : Nat} : r[n]? = some a → ItR K cl B r H (Itl K a) (.cel n false)
  | celE {a : Addr} {n : Nat} : r[n]? = some a → ItR K cl B r H (Ite K a) (.cel n true)
  | zc {a b : Addr} {xs : List V} {ds : List PyData} {n : Nat} : H a = some (.lst xs) → a ∉ B → a ∉ r → ds.length ≤ lim → DRs B r H xs ds → r[n]? = some b → ItR K cl B r H (Itz K a b) (.zc ds n)
section
variable {K : PySem.W.Frag} {cl : Nat → Addr} {B r r' : List Addr} {H H' : Hp} {M : Store} {J : It} {vs : List Val}
theorem Grow.at_ (g : Grow r H r' H') {n : Nat} {a : Addr} (h : r[n]? = Option.some a) : r'[n]? = Option.some a := by
  obtain ⟨e, he⟩ := g.pre
  rw [he, List.getElem?_append_left (List.getElem?_eq_some_iff.mp h).1]
  exact h
theorem ItR.mono {src : Src} (g : Grow r H r' H') (h : ItR K cl B r H J src) : ItR K cl B r' H' J src := by
  cases h with
  | lst h n1 n2 l hs => exact .lst (g.keep _ _ h n2) n1 (g.notin (.inl h) n2) l (hs.mono g)
  | tup h l hs => exact .tup (g.tup _ _ h) l (hs.mono g)
  | rng l => exact .rng l
  | enm h n1 n2 l hs => exact .enm (g.keep _ _ h n2) n1 (g.notin (.inl h) n2) l (hs.mono g)
  | enmT h l hs => exact .enmT (g.tup _ _ h) l (hs.mono g)
  | str l => exact .str l
  | rngC l => exact .rngC l
  | zip h1 n1 n2 h2 n3 n4 l1 l2 d1 d2 => exact .zip (g.keep _ _ h1 n2) n1 (g.notin (.inl h1) n2) (g.keep _ _ h2 n4) n3 (g.notin (.inl h2) n4) l1 l2 (d1.mono g) (d2.mono g)
  | zipT h1 h2 l1 l2 d1 d2 => exact .zipT (g.tup _ _ h1) (g.tup _ _ h2) l1 l2 (d1.mono g) (d2.mono g)
  | cel h => exact .cel (g.at_ h)
  | celE h => exact .celE (g.at_ h)
  | zc h n1 n2 l hs hb => exact .zc (g.keep _ _ h n2) n1 (g.notin (.inl h) n2) l (hs.mono g) (g.at_ hb)
theorem ItR.len (h : ItR K cl B r H J (.vs vs)) : vs.length ≤ lim := by
  cases h with
  | lst h n1 n2 l hs => simp; omega
  | tup h l hs => simp; omega
  | rng l => simp [upTo]; omega
  | enm h n1 n2 l hs => simp; omega
  | enmT h l hs => simp; omega
  | str l =>
    have l' := l
    unfold Str.length at l'
    simp
    omega
  | rngC l => simpa using l
  | zip h1 n1 n2 h2 n3 n4 l1 l2 d1 d2 => simp; omega
  | zipT h1 h2 l1 l2 d1 d2 => simp; omega
theorem DRs.some {xs : List V} {ds : List PyData} {i : Nat} (h : DRs B r H xs ds) (hi : i < ds.length) : ∃ x, xs[i]? = some x := ⟨xs[i]'(by rw [h.length]; exact hi), by simp [h.length, hi]⟩
theorem ItR.go (h : ItR K cl B r H J (.vs vs)) {i : Nat} (hi : i < vs.length) : J.go i H := by
  cases h with
  | lst h n1 n2 l hs =>
    obtain ⟨x, e⟩ := hs.some (by simpa using hi)
    exact ⟨_, x, .inl (.inl h), e⟩
  | tup h l hs =>
    obtain ⟨x, e⟩ := hs.some (by simpa using hi)
    exact ⟨_, x, .inl (.inl h), e⟩
  | rng l => show i < _; simpa [upTo] using hi
  | enm h n1 n2 l hs =>
    obtain ⟨x, e⟩ := hs.some (by simpa using hi)
    exact ⟨_, x, .inl (.inl h), e⟩
  | enmT h l hs =>
    obtain ⟨x, e⟩ := hs.some (by simpa using hi)
    exact ⟨_, x, .inl (.inl h), e⟩
  | str l => show i < _; simpa using hi
  | rngC l => show i < _; simpa using hi
  | zip h1 n1 n2 h2 n3 n4 l1 l2 d1 d2 =>
    simp at hi
    obtain ⟨x, e⟩ := d1.some (i := i) (by omega)
    obtain ⟨y, e'⟩ := d2.some (i := i) (by omega)
    exact ⟨_, _, x, y, .inl (.inl h1), .inl (.inl h2), e, e'⟩
  | zipT h1 h2 l1 l2 d1 d2 =>
    simp at hi
    obtain ⟨x, e⟩ := d1.some (i := i) (by omega)
    obtain ⟨y, e'⟩ := d2.some (i := i) (by omega)
    exact ⟨_, _, x, y, .inl (.inl h1), .inl (.inl h2), e, e'⟩
theorem ItR.stop (h : ItR K cl B r H J (.vs vs)) : J.stop vs.length H := by
  cases h with
  | lst h n1 n2 l hs => exact ⟨_, .inl (.inl h), by rw [hs.length]; simp⟩
  | tup h l hs => exact ⟨_, .inl (.inl h), by rw [hs.length]; simp⟩
  | rng l => show _ ≤ _; simp [upTo]
  | enm h n1 n2 l hs => exact ⟨_, .inl (.inl h), by rw [hs.length]; simp⟩
  | enmT h l hs => exact ⟨_, .inl (.inl h), by rw [hs.length]; simp⟩
  | str l => show _ ≤ _; simp
  | rngC l => show _ ≤ _; simp
  | zip h1 n1 n2 h2 n3 n4 l1 l2 d1 d2 =>
    refine ⟨_, _, .inl (.inl h1), .inl (.inl h2), ?_⟩
    rw [d1.length, d2.length]
    simp
    omega
  | zipT h1 h2 l1 l2 d1 d2 =>
    refine ⟨_, _, .inl (.inl h1), .inl (.inl h2), ?_⟩
    rw [d1.length, d2.length]
    simp
    omega
theorem DRs.elt {xs : List V} {ds : List PyData} {i : Nat} {x : V} {d : PyData} (h : DRs B r H xs ds) (e : ds[i]? = Option.some d) (ex : xs[i]? = Option.some x) : DR B r H x d := by
  obtain ⟨x', e1, hd⟩ := h.get e
  rw [ex] at e1
  cases e1
  exact hd
/-- a turn: the item, and a heap that has at most a new tuple more -/
theorem ItR.yld (h : ItR K cl B r H J (.vs vs)) (R : Rel K cl B r M H) {i : Nat} {v : Val} (hv : vs[i]? = some v) {x : V} {H' : Hp} (y : J.yld i H x H') : Grow r H r H' ∧ Rel K cl B r M H' ∧ VR K cl B r H' x v ∧ (H' = H ∨ ∃ T o, H T = none ∧ H' = upd H T o) := by
  cases h with
  | lst h n1 n2 l hs =>
    obtain ⟨rfl, hy⟩ := y
    rw [List.getElem?_map, Option.map_eq_some_iff] at hv
    obtain ⟨d, e, rfl⟩ := hv
    exact ⟨.refl, R, .d (hs.elt e (hy _ (.inl (.inl h)))), .inl rfl⟩
  | tup h l hs =>
    obtain ⟨rfl, hy⟩ := y
    rw [List.getElem?_map, Option.map_eq_some_iff] at hv
    obtain ⟨d, e, rfl⟩ := hv
    exact ⟨.refl, R, .d (hs.elt e (hy _ (.inl (.inl h)))), .inl rfl⟩
  | rng l =>
    obtain ⟨rfl, rfl⟩ := y
    unfold upTo at hv
    rw [List.getElem?_map, Option.map_eq_some_iff] at hv
    obtain ⟨k, e, rfl⟩ := hv
    have : k = i := by
      rw [List.getElem?_eq_some_iff] at e
      obtain ⟨h1, h2⟩ := e
      simpa using h2.symm
    subst this
    exact ⟨.refl, R, .d (.int _), .inl rfl⟩
  | enm h n1 n2 l hs =>
    obtain ⟨T, z, rfl, hT, rfl, hy⟩ := y
    have hz := hy _ (.inl (.inl h))
    rw [List.getElem?_zipWith] at hv
    cases ek : (List.range _)[i]? with
    | none => rw [ek] at hv; simp at hv
    | some k =>
      rw [ek] at hv
      cases ed : (_ : List PyData)[i]? with
      | none => rw [ed] at hv; simp at hv
      | some d =>
        rw [ed] at hv
        simp only [Option.some.injEq] at hv
        subst hv
        have : k = i := by
          rw [List.getElem?_eq_some_iff] at ek
          obtain ⟨h1, h2⟩ := ek
          simpa using h2.symm
        subst this
        have g : Grow r H r (upd H T (.tup [.int (k : Int), z])) := Grow.laid hT
        exact ⟨g, R.laid hT, .d (.tup upd_same (by show 2 ≤ lim; decide) (.cons (.int _) (.cons ((hs.elt ed hz).mono g) .nil))), .inr ⟨T, _, hT, rfl⟩⟩
  | enmT h l hs =>
    obtain ⟨T, z, rfl, hT, rfl, hy⟩ := y
    have hz := hy _ (.inl (.inl h))
    rw [List.getElem?_zipWith] at hv
    cases ek : (List.range _)[i]? with
    | none => rw [ek] at hv; simp at hv
    | some k =>
      rw [ek] at hv
      cases ed : (_ : List PyData)[i]? with
      | none => rw [ed] at hv; simp at hv
      | some d =>
        rw [ed] at hv
        simp only [Option.some.injEq] at hv
        subst hv
        have : k = i := by
          rw [List.getElem?_eq_some_iff] at ek
          obtain ⟨h1, h2⟩ := ek
          simpa using h2.symm
        subst this
        have g : Grow r H r (upd H T (.tup [.int (k : Int), z])) := Grow.laid hT
        exact ⟨g, R.laid hT, .d (.tup upd_same (by show 2 ≤ lim; decide) (.cons (.int _) (.cons ((hs.elt ed hz).mono g) .nil))), .inr ⟨T, _, hT, rfl⟩⟩
  | str l =>
    obtain ⟨rfl, c, ec, rfl⟩ := y
    rw [List.getElem?_map, Option.map_eq_some_iff] at hv
    obtain ⟨c', e', rfl⟩ := hv
    rw [Array.getElem?_toList] at e'
    rw [ec] at e'
    cases e'
    exact ⟨.refl, R, .d (.str _), .inl rfl⟩
  | rngC l =>
    obtain ⟨rfl, rfl⟩ := y
    obtain ⟨h1, h2⟩ := List.getElem?_eq_some_iff.mp hv
    simp at h2
    subst h2
    refine ⟨.refl, R, ?_, .inl rfl⟩
    rename_i i0 n0
    have e0 : i0 + (i : Int) * -1 = i0 - (i : Int) := by omega
    rw [e0]
    exact .d (.int _)
  | zip h1 n1 n2 h2 n3 n4 l1 l2 d1 d2 =>
    obtain ⟨T, x1, y1, rfl, hT, rfl, hy1, hy2⟩ := y
    have hz1 := hy1 _ (.inl (.inl h1))
    have hz2 := hy2 _ (.inl (.inl h2))
    obtain ⟨q1, q2⟩ := List.getElem?_eq_some_iff.mp hv
    simp at q1 q2
    subst q2
    have g : Grow r H r (upd H T (.tup [x1, y1])) := Grow.laid hT
    exact ⟨g, R.laid hT, .d (.tup upd_same (by show 2 ≤ lim; decide) (.cons ((d1.elt (List.getElem?_eq_getElem (by omega)) hz1).mono g) (.cons ((d2.elt (List.getElem?_eq_getElem (by omega)) hz2).mono g) .nil))), .inr ⟨T, _, hT, rfl⟩⟩
  | zipT h1 h2 l1 l2 d1 d2 =>
    obtain ⟨T, x1, y1, rfl, hT, rfl, hy1, hy2⟩ := y
    have hz1 := hy1 _ (.inl (.inl h1))
    have hz2 := hy2 _ (.inl (.inl h2))
    obtain ⟨q1, q2⟩ := List.getElem?_eq_some_iff.mp hv
    simp at q1 q2
    subst q2
    have g : Grow r H r (upd H T (.tup [x1, y1])) := Grow.laid hT
    exact ⟨g, R.laid hT, .d (.tup upd_same (by show 2 ≤ lim; decide) (.cons ((d1.elt (List.getElem?_eq_getElem (by omega)) hz1).mono g) (.cons ((d2.elt (List.getElem?_eq_getElem (by omega)) hz2).mono g) .nil))), .inr ⟨T, _, hT, rfl⟩⟩
/-! a list that may change, walked as it is -/
def Jc (K : PySem.W.Frag) (a : Addr) (en : Bool) : It := if en then Ite K a else Itl K a
theorem ItR.cels {n : Nat} {en : Bool} (h : ItR K cl B r H J (.cel n en)) : ∃ a, J = Jc K a en ∧ r[n]? = some a := by
  cases h with
  | cel h => exact ⟨_, rfl, h⟩
  | celE h => exact ⟨_, rfl, h⟩
theorem cell_of (R : Rel K cl B r M H) {n i : Nat} {a : Addr} {o : Option Val} (hp : r[n]? = some a) (e : cellAt M n i = some o) : ∃ xs vs, M[n]? = some (.lst vs) ∧ H a = some (.lst xs) ∧ vs.length ≤ lim ∧ VRs K cl B r H xs vs ∧ vs[i]? = o := by
  unfold cellAt at e
  split at e
  · rename_i vs em
    obtain ⟨c, e1, hc⟩ := R.mem hp
    rw [em] at e1
    cases e1
    cases hc with
    | lst h l hs => exact ⟨_, vs, em, h, l, hs, Option.some.inj e⟩
  · cases e
theorem vrs_len {xs : List V} {vs : List Val} (h : VRs K cl B r H xs vs) : xs.length = vs.length := Paired.length h
theorem cel_stop (R : Rel K cl B r M H) {n i : Nat} {a : Addr} {en : Bool} (hp : r[n]? = some a) (e : cellAt M n i = some none) : (Jc K a en).stop i H := by
  obtain ⟨xs, vs, _, h, _, hs, hv⟩ := cell_of R hp e
  have hl : xs.length ≤ i := by
    rw [vrs_len hs]
    exact List.getElem?_eq_none_iff.mp hv
  cases en with
  | false => exact ⟨xs, .inl (.inl h), hl⟩
  | true => exact ⟨xs, .inl (.inl h), hl⟩
theorem cel_go (R : Rel K cl B r M H) {n i : Nat} {a : Addr} {en : Bool} {v : Val} (hp : r[n]? = some a) (e : cellAt M n i = some (some v)) : (Jc K a en).go i H ∧ i < lim := by
  obtain ⟨xs, vs, _, h, l, hs, hv⟩ := cell_of R hp e
  obtain ⟨h1, h2⟩ := List.getElem?_eq_some_iff.mp hv
  have hx : xs[i]? = some (xs[i]'(by rw [vrs_len hs]; exact h1)) := List.getElem?_eq_getElem _
  refine ⟨?_, by omega⟩
  cases en with
  | false => exact ⟨xs, _, .inl (.inl h), hx⟩
  | true => exact ⟨xs, _, .inl (.inl h), hx⟩
theorem vrs_at2 : ∀ {xs : List V} {vs : List Val} {i : Nat} {x : V} {v : Val}, VRs K cl B r H xs vs → xs[i]? = some x → vs[i]? = some v → VR K cl B r H x v
  | _, _, _, _, _, .nil, e, _ => by simp at e
  | _, _, 0, _, _, .cons a _, e1, e2 => by simp at e1 e2; subst e1 e2; exact a
  | _, _, i + 1, _, _, .cons _ t, e1, e2 => vrs_at2 (i := i) t (by simpa using e1) (by simpa using e2)
theorem ItR.zcs {ds : List PyData} {n : Nat} (h : ItR K cl B r H J (.zc ds n)) : ∃ a b xs, J = Itz K a b ∧ H a = some (.lst xs) ∧ DRs B r H xs ds ∧ ds.length ≤ lim ∧ r[n]? = some b := by
  cases h with
  | zc h n1 n2 l hs hb => exact ⟨_, _, _, rfl, h, hs, l, hb⟩
theorem zc_stop (R : Rel K cl B r M H) {ds : List PyData} {n i : Nat} {o : Option Val} (h : ItR K cl B r H J (.zc ds n)) (e : cellAt M n i = some o) (hn : o = none ∨ ds[i]? = none) : J.stop i H := by
  obtain ⟨a, b, xs, rfl, ha, hd, _, hb⟩ := h.zcs
  obtain ⟨ys, vs, _, h2, _, hs, hv⟩ := cell_of R hb e
  refine ⟨xs, ys, .inl (.inl ha), .inl (.inl h2), ?_⟩
  rw [hd.length, vrs_len hs]
  rcases hn with rfl | hn
  · exact .inr (List.getElem?_eq_none_iff.mp hv)
  · exact .inl (List.getElem?_eq_none_iff.mp hn)
theorem zc_go (R : Rel K cl B r M H) {ds : List PyData} {n i : Nat} {v : Val} {d : PyData} (h : ItR K cl B r H J (.zc ds n)) (e : cellAt M n i = some (some v)) (hd : ds[i]? = some d) : J.go i H := by
  obtain ⟨a, b, xs, rfl, ha, hs, _, hb⟩ := h.zcs
  obtain ⟨ys, vs, _, h2, _, hs2, hv⟩ := cell_of R hb e
  obtain ⟨h1, _⟩ := List.getElem?_eq_some_iff.mp hv
  obtain ⟨x, ex⟩ := hs.some (List.getElem?_eq_some_iff.mp hd).1
  exact ⟨xs, ys, x, ys[i]'(by rw [vrs_len hs2]; exact h1), .inl (.inl ha), .inl (.inl h2), ex, List.getElem?_eq_getElem _⟩
/-- a thing to its target -/
def AsgR (K : PySem.W.Frag) (cl : Nat → Addr) (B r : List Addr) (H : Hp) (t : Tg) (x : V) (s s' : Slots) : Prop :=
  (∃ v, VR K cl B r H x v ∧ asgT t v s = some s') ∨ ∃ a xs vs is, x = .ref a ∧ H a = some (.tup xs) ∧ VRs K cl B r H xs vs ∧ t = .many is ∧ setAll is vs s = some s'
theorem zc_yld (R : Rel K cl B r M H) {ds : List PyData} {n i : Nat} {v : Val} {d : PyData} {is : List Nat} {s s1 : Slots} (h : ItR K cl B r H J (.zc ds n)) (e : cellAt M n i = some (some v)) (hd : ds[i]? = some d) (ea : setAll is [.d d, v] s = some s1) {x : V} {H' : Hp} (y : J.yld i H x H') : Grow r H r H' ∧ Rel K cl B r M H' ∧ AsgR K cl B r H' (.many is) x s s1 := by
  obtain ⟨a, b, xs, rfl, ha, hs, _, hb⟩ := h.zcs
  obtain ⟨ys, vs, _, h2, _, hs2, hv⟩ := cell_of R hb e
  obtain ⟨T, x1, y1, rfl, hT, rfl, hy1, hy2⟩ := y
  have g : Grow r H r (upd H T (.tup [x1, y1])) := Grow.laid hT
  exact ⟨g, R.laid hT, .inr ⟨T, [x1, y1], _, is, rfl, upd_same, .cons ((VR.d (hs.elt hd (hy1 _ (.inl (.inl ha))))).mono g) (.cons ((vrs_at2 hs2 (hy2 _ (.inl (.inl h2))) hv).mono g) .nil), rfl, ea⟩⟩
theorem cel_yld (R : Rel K cl B r M H) {n i : Nat} {a : Addr} {en : Bool} {v : Val} {t : Tg} {s s1 : Slots} (hp : r[n]? = some a) (e : cellAt M n i = some (some v)) (ea : asgE en i t v s = some s1) {x : V} {H' : Hp} (y : (Jc K a en).yld i H x H') : Grow r H r H' ∧ Rel K cl B r M H' ∧ AsgR K cl B r H' t x s s1 := by
  obtain ⟨xs, vs, _, h, l, hs, hv⟩ := cell_of R hp e
  cases en with
  | false =>
    obtain ⟨rfl, hy⟩ := y
    exact ⟨.refl, R, .inl ⟨v, vrs_at2 hs (hy _ (.inl (.inl h))) hv, ea⟩⟩
  | true =>
    obtain ⟨T, z, rfl, hT, rfl, hy⟩ := y
    have hz := vrs_at2 hs (hy _ (.inl (.inl h))) hv
    have g : Grow r H r (upd H T (.tup [.int (i : Nat), z])) := Grow.laid hT
    refine ⟨g, R.laid hT, ?_⟩
    unfold asgE at ea
    split at ea
    · rename_i w ew
      unfold enV at ew
      rw [if_pos rfl] at ew
      split at ew
      · rename_i d
        cases ew
        exact .inl ⟨_, .d (.tup upd_same (by show 2 ≤ lim; decide) (.cons (.int _) (.cons (hz.inv.mono g) .nil))), ea⟩
      · cases ew
    · split at ea
      · rename_i p q
        exact .inr ⟨T, _, [.d (.int (i : Int)), v], [p, q], rfl, upd_same, .cons (.d (.int _)) (.cons (hz.mono g) .nil), rfl, ea⟩
      · cases ea
end

section
variable {X : Cx} {cl : Nat → Addr} {W : WX} {a b c e tg : Expr} {es : List Expr} {ga gb gc ge : Slots → Store → R Val} {gs : Slots → Store → R (List Val)} {pos p : Pos} {F : FEnv} {x : Str}
def rdI (K : PySem.W.Frag) (cl : Nat → Addr) (W : WX) (g : Slots → Store → R Src) : TI := fun σ H Q => ∃ B r M s, Rel K cl B r M H ∧ SRel K cl B r H σ s ∧
  Out K cl (ItR K cl B) W σ B r H (g s M) fun J _ _ _ H' => Q J H'
abbrev SI (X : Cx) (cl : Nat → Addr) (W : WX) (tg e : Expr) (g : Slots → Store → R Src) : Prop := PI X tg e (rdI X.K cl W g)
theorem PI.imp {t t' : TI} (h : PI X tg e t) (i : ∀ σ H Q, t' σ H Q → t σ H Q) : PI X tg e t' := ⟨fun pins s σ H R I w => h.run pins s σ H R I (i σ H R w)⟩
theorem PI.or {t t' : TI} (h : PI X tg e t) (h' : PI X tg e t') : PI X tg e (fun σ H Q => t σ H Q ∨ t' σ H Q) := ⟨fun pins s σ H R I w => w.elim (h.run pins s σ H R I) (h'.run pins s σ H R I)⟩
theorem si_seq (h : SE X cl W e ge) : SI X cl W tg e (fun s M => (ge s M).bind fun v M => ofOpt ((seqD v).map .vs) M) :=
  PI.imp (PI.or (pi_list h) (PI.or (pi_tup h) (pi_str h))) fun σ H Q ⟨B, r, M, s, R, S, o⟩ => by
    dsimp only at o
    cases q : ge s M with
    | bad => rw [q] at o; exact o.elim
    | exc k M' =>
      rw [q] at o
      exact .inl ⟨B, r, M, s, R, S, by rw [q]; exact o⟩
    | ok v M' =>
      rw [q] at o
      simp only [Gv.R.bind_ok] at o
      cases v with
      | d y =>
        cases y with
        | list ds =>
          refine .inl ⟨B, r, M, s, R, S, ?_⟩
          rw [q]
          intro u H' r' g R' v'
          obtain ⟨p, xs, rfl, hp, n1, n2, l, hs⟩ := v'.list
          exact ⟨p, rfl, ⟨xs, .inl (.inl hp)⟩, o (Itl X.K p) H' r' g R' (.lst hp n1 n2 l hs)⟩
        | tuple ds =>
          refine .inr (.inl ⟨B, r, M, s, R, S, ?_⟩)
          rw [q]
          intro u H' r' g R' v'
          obtain ⟨p, xs, rfl, hp, l, hs⟩ := v'.tuple
          exact ⟨p, rfl, ⟨xs, .inl (.inl hp)⟩, o (Itt X.K p) H' r' g R' (.tup hp l hs)⟩
        | str z =>
          refine .inr (.inr ⟨B, r, M, s, R, S, ?_⟩)
          rw [q]
          intro u H' r' g R' v'
          obtain rfl := v'.str
          cases hz : decide (z.length ≤ lim) with
          | false =>
            have hz' := of_decide_eq_false hz
            simp only [seqD, hz', if_false] at o
            exact o.elim
          | true =>
            have hz' := of_decide_eq_true hz
            simp only [seqD, hz', if_true] at o
            exact ⟨z, rfl, o (Its z) H' r' g R' (.str hz')⟩
        | _ => exact o.elim
      | _ => exact o.elim
theorem si_enum {elts : List Expr} {kk : Nat} {tpos : Pos} (hg : Gl X "enumerate") (hm : X.mg "enumerate" = none) (h : SE X cl W e ge) (hs : notStar e = true) : SI X cl W (.Tuple elts kk tpos) (.Call (.Name "enumerate" p) [e] [] pos) (fun s M => (ge s M).bind fun v M => ofOpt ((enumD v).map .vs) M) :=
  PI.imp (pi_enumA hg hm (pa_cons h pa_nil (star_cons hs)) (by rw [star_cons hs]; rfl)) fun σ H Q ⟨B, r, M, s, R, S, o⟩ => ⟨B, r, M, s, R, S, o.step fun x v r1 M1 H1 g1 R1 v1 o1 => by
    unfold enumD at o1
    split at o1
    · obtain ⟨p, xs, rfl, hp, n1, n2, l, hs⟩ := v1.list
      exact ⟨p, xs, rfl, .inl ⟨.inl (.inl hp), Out.here (u := Ite X.K p) o1 R1 (.enm hp n1 n2 l hs)⟩⟩
    · obtain ⟨p, xs, rfl, hp, l, hs⟩ := v1.tuple
      exact ⟨p, xs, rfl, .inr ⟨.inl (.inl hp), Out.here (u := ItT X.K p) o1 R1 (.enmT hp l hs)⟩⟩
    · exact o1.elim⟩
theorem si_rng (hg : Gl X "range") (hm : X.mg "range" = none) (ha : SA X cl W (e :: es) gs) (hs : (e :: es).all notStar = true) (hl : es.length ≤ 2) (hn : Cnt (es.length + 1) gs) :
    SI X cl W tg (.Call (.Name "range" p) (e :: es) [] pos) (fun s M => (gs s M).bind fun vs M => ofOpt ((rngD vs).map .vs) M) := by
  cases es with
  | nil =>
    simp only [List.all_cons, Bool.and_eq_true] at hs
    refine PI.imp (pi_range1 hg hm ha (by rw [star_cons hs.1]; rfl)) fun σ H Q ⟨B, r, M, s, R, S, o⟩ => ⟨B, r, M, s, R, S, o.stepE fun us vs r1 M1 H1 ev g1 R1 v1 o1 => ?_⟩
    have hc := hn s M vs M1 ev
    unfold rngD at o1
    split at o1
    · obtain ⟨x, rfl, hx⟩ := VRs.one v1
      obtain rfl := hx.int
      rename_i j
      split at o1
      · clear hc; rename_i hc
        simp only [Bool.and_eq_true, decide_eq_true_eq] at hc
        refine ⟨j, rfl, hc.2, by have := hc.1; omega, ?_⟩
        exact Out.here (u := Itr 0 j.toNat) o1 R1 (.rng (by have := hc.1; unfold lim; omega))
      · exact o1.elim
    · simp at hc
    · simp at hc
    · exact o1.elim
  | cons e2 es =>
    cases es with
    | cons e3 es =>
      cases es with
      | cons _ _ => simp at hl
      | nil =>
        simp only [List.all_cons, Bool.and_eq_true] at hs
        refine PI.imp (pi_range3 hg hm ha (by rw [star_cons hs.1]) (by rw [star_cons hs.2.1, star_cons hs.2.2.1]; rfl)) fun σ H Q ⟨B, r, M, s, R, S, o⟩ => ⟨B, r, M, s, R, S, o.stepE fun us vs r1 M1 H1 ev g1 R1 v1 o1 => ?_⟩
        have hc := hn s M vs M1 ev
        unfold rngD at o1
        split at o1
        · simp at hc
        · simp at hc
        · obtain ⟨x, y, z, rfl, hx, hy, hz⟩ := VRs.three v1
          obtain rfl := hx.int
          obtain rfl := hy.int
          obtain rfl := hz.int
          rename_i i j k
          split at o1
          · clear hc; rename_i hc
            simp only [Bool.and_eq_true, decide_eq_true_eq] at hc
            obtain ⟨⟨⟨⟨⟨rfl, h1⟩, h2⟩, h3⟩, h4⟩, h5⟩ := hc
            exact ⟨i, j, -1, _, rfl, RgC.neg (by omega) (by omega) (by omega) (by omega), Out.here (u := Itc i (-1) (i - j).toNat) o1 R1 (.rngC (by unfold lim; omega))⟩
          · exact o1.elim
        · exact o1.elim
    | nil =>
      simp only [List.all_cons, Bool.and_eq_true] at hs
      refine PI.imp (pi_range2 hg hm ha (by rw [star_cons hs.1, star_cons hs.2.1]; rfl) (by rw [star_cons hs.2.1]; rfl)) fun σ H Q ⟨B, r, M, s, R, S, o⟩ => ⟨B, r, M, s, R, S, o.stepE fun us vs r1 M1 H1 ev g1 R1 v1 o1 => ?_⟩
      have hc := hn s M vs M1 ev
      unfold rngD at o1
      split at o1
      · simp at hc
      · obtain ⟨x, y, rfl, hx, hy⟩ := VRs.two v1
        obtain rfl := hx.int
        obtain rfl := hy.int
        rename_i i j
        split at o1
        · clear hc; rename_i hc
          simp only [Bool.and_eq_true, decide_eq_true_eq] at hc
          obtain ⟨⟨⟨⟨h1, h2⟩, h3⟩, h4⟩, h5⟩ := hc
          refine ⟨i, j, rfl, ⟨h1, h2, h3, h4⟩, ?_⟩
          exact Out.here (u := Itr i (j - i).toNat) o1 R1 (.rng (by unfold lim; omega))
        · exact o1.elim
      · simp at hc
      · exact o1.elim
theorem si_zip {e2 : Expr} {ge2 : Slots → Store → R Val} {elts : List Expr} {kk : Nat} {tpos : Pos} (hg : Gl X "zip") (hm : X.mg "zip" = none) (h : SE X cl W e ge) (h2 : SE X cl W e2 ge2) (hs : notStar e = true) (hs2 : notStar e2 = true) :
    SI X cl W (.Tuple elts kk tpos) (.Call (.Name "zip" p) [e, e2] [] pos) (fun s M => (ge s M).bind fun v M => (ge2 s M).bind fun w M => ofOpt (zipS M v w) M) :=
  PI.imp (RZ.pi_zipA hg hm (pa_cons h (pa_cons h2 pa_nil (star_cons hs2)) (star_cons hs)) (star_cons hs) (by rw [star_cons hs2]; rfl)) fun σ H Q ⟨B, r, M, s, R, S, o⟩ => ⟨B, r, M, s, R, S, o.step fun x v r1 M1 H1 g1 R1 v1 o1 =>
    ⟨B, r1, M1, s, R1, S.mono g1, o1.step fun y w r2 M2 H2 g2 R2 v2 o2 => by
      unfold zipS at o2
      cases ez : zipD v w with
      | none =>
        rw [ez] at o2
        dsimp only at o2
        split at o2
        · rename_i ds m
          split at o2
          · rename_i vs em
            obtain ⟨p, xs, rfl, hp, n1, n2, l, hs⟩ := (v1.mono g2).list
            obtain ⟨p', rfl, hp'⟩ := v2.atRef
            obtain ⟨c, e1, hc⟩ := R2.mem hp'
            rw [em] at e1
            cases e1
            cases hc with
            | lst h' l' hs' => exact ⟨p, p', xs, _, rfl, .inl ⟨.inl (.inl hp), .inl (.inl h'), Out.here (u := Itz X.K p p') o2 R2 (.zc hp n1 n2 l hs hp')⟩⟩
          · exact o2.elim
        · exact o2.elim
      | some lz =>
      rw [ez] at o2
      unfold zipD at ez
      split at ez
      · cases ez
        obtain ⟨p, xs, rfl, hp, n1, n2, l, hs⟩ := (v1.mono g2).list
        obtain ⟨p', xs', rfl, hp', n1', n2', l', hs'⟩ := v2.list
        exact ⟨p, p', xs, xs', rfl, .inl ⟨.inl (.inl hp), .inl (.inl hp'), Out.here (u := Itz X.K p p') o2 R2 (.zip hp n1 n2 hp' n1' n2' l l' hs hs')⟩⟩
      · cases ez
        obtain ⟨p, xs, rfl, hp, l, hs⟩ := (v1.mono g2).tuple
        obtain ⟨p', xs', rfl, hp', l', hs'⟩ := v2.tuple
        exact ⟨p, p', xs, xs', rfl, .inr ⟨.inl (.inl hp), .inl (.inl hp'), Out.here (u := RZ.ItzT X.K p p') o2 R2 (.zipT hp hp' l l' hs hs')⟩⟩
      · cases ez⟩⟩
theorem si_cseq (h : SE X cl W e ge) : SI X cl W tg e (fun s M => (ge s M).bind fun v M => srcC false v M) :=
  PI.imp (PI.or (pi_list h) (PI.or (pi_tup h) (pi_str h))) fun σ H Q ⟨B, r, M, s, R, S, o⟩ => by
    dsimp only at o
    cases q : ge s M with
    | bad => rw [q] at o; exact o.elim
    | exc k M' =>
      rw [q] at o
      exact .inl ⟨B, r, M, s, R, S, by rw [q]; exact o⟩
    | ok v M' =>
      rw [q] at o
      simp only [Gv.R.bind_ok] at o
      cases v with
      | ref n =>
        refine .inl ⟨B, r, M, s, R, S, ?_⟩
        rw [q]
        intro u H' r' g R' v'
        unfold srcC at o
        dsimp only at o
        split at o
        · rename_i vs em
          obtain ⟨p, rfl, hp⟩ := v'.atRef
          obtain ⟨c, e1, hc⟩ := R'.mem hp
          rw [em] at e1
          cases e1
          cases hc with
          | lst h' l hs => exact ⟨p, rfl, ⟨_, .inl (.inl h')⟩, o (Itl X.K p) H' r' g R' (.cel hp)⟩
        · exact o.elim
      | d y =>
        cases y with
        | list ds =>
          refine .inl ⟨B, r, M, s, R, S, ?_⟩
          rw [q]
          intro u H' r' g R' v'
          obtain ⟨p, xs, rfl, hp, n1, n2, l, hs⟩ := v'.list
          exact ⟨p, rfl, ⟨xs, .inl (.inl hp)⟩, o (Itl X.K p) H' r' g R' (.lst hp n1 n2 l hs)⟩
        | tuple ds =>
          refine .inr (.inl ⟨B, r, M, s, R, S, ?_⟩)
          rw [q]
          intro u H' r' g R' v'
          obtain ⟨p, xs, rfl, hp, l, hs⟩ := v'.tuple
          exact ⟨p, rfl, ⟨xs, .inl (.inl hp)⟩, o (Itt X.K p) H' r' g R' (.tup hp l hs)⟩
        | str z =>
          refine .inr (.inr ⟨B, r, M, s, R, S, ?_⟩)
          rw [q]
          intro u H' r' g R' v'
          obtain rfl := v'.str
          by_cases hz' : z.length ≤ lim
          · have e0 : srcC false (.d (.str z)) M' = .ok (.vs (z.cps.toList.map fun c => .d (.str ⟨#[c]⟩))) M' := by simp [srcC, seqD, hz']
            rw [e0] at o
            exact ⟨z, rfl, o (Its z) H' r' g R' (.str hz')⟩
          · have e0 : srcC false (.d (.str z)) M' = .bad := by simp [srcC, seqD, hz']
            rw [e0] at o
            exact o.elim
        | _ => exact o.elim
      | _ => exact o.elim
theorem si_cenum {elts : List Expr} {kk : Nat} {tpos : Pos} (hg : Gl X "enumerate") (hm : X.mg "enumerate" = none) (h : SE X cl W e ge) (hs : notStar e = true) : SI X cl W (.Tuple elts kk tpos) (.Call (.Name "enumerate" p) [e] [] pos) (fun s M => (ge s M).bind fun v M => srcC true v M) :=
  PI.imp (pi_enumA hg hm (pa_cons h pa_nil (star_cons hs)) (by rw [star_cons hs]; rfl)) fun σ H Q ⟨B, r, M, s, R, S, o⟩ => ⟨B, r, M, s, R, S, o.step fun x v r1 M1 H1 g1 R1 v1 o1 => by
    cases v with
    | ref n =>
      unfold srcC at o1
      dsimp only at o1
      split at o1
      · rename_i vs em
        obtain ⟨p, rfl, hp⟩ := v1.atRef
        obtain ⟨c, e1, hc⟩ := R1.mem hp
        rw [em] at e1
        cases e1
        cases hc with
        | lst h' l hs => exact ⟨p, _, rfl, .inl ⟨.inl (.inl h'), Out.here (u := Ite X.K p) o1 R1 (.celE hp)⟩⟩
      · exact o1.elim
    | d y =>
      cases y with
      | list ds =>
        obtain ⟨p, xs, rfl, hp, n1, n2, l, hs⟩ := v1.list
        exact ⟨p, xs, rfl, .inl ⟨.inl (.inl hp), Out.here (u := Ite X.K p) o1 R1 (.enm hp n1 n2 l hs)⟩⟩
      | tuple ds =>
        obtain ⟨p, xs, rfl, hp, l, hs⟩ := v1.tuple
        exact ⟨p, xs, rfl, .inr ⟨.inl (.inl hp), Out.here (u := ItT X.K p) o1 R1 (.enmT hp l hs)⟩⟩
      | _ => exact o1.elim
    | _ => exact o1.elim⟩
end
end Gv

namespace Gv
open PySem PySem.Spec L2

/-! ### targets -/
def Tg.slots : Tg → List Nat
  | .one i => [i]
  | .many is => is
def rdG (K : PySem.W.Frag) (cl : Nat → Addr) (tg : Tg) : TG := fun x σ H Q => ∃ B r M s s', Rel K cl B r M H ∧ SRel K cl B r H σ s ∧ AsgR K cl B r H tg x s s' ∧
  ∀ σ', SRel K cl B r H σ' s' → σ'.length = σ.length → (∀ j, j ∉ tg.slots → σ'[j]? = σ[j]?) → Q σ' H
def gNames : List Nat → TGs
  | [] => gNil
  | i :: is => gCons (gName i) (gNames is)
section
variable {K : PySem.W.Frag} {cl : Nat → Addr} {B r : List Addr} {H : Hp}
theorem SRel.set {σ : L2.St} {s : Slots} {x : V} {v : Val} (h : SRel K cl B r H σ s) (hv : VR K cl B r H x v) (i : Nat) : SRel K cl B r H (σ.set i (some x)) (s.set i (some v)) := by
  refine ⟨by simp [h.len], fun j w e => ?_⟩
  by_cases hj : i = j
  · subst hj
    by_cases hi : i < s.length
    · rw [List.getElem?_set_self hi] at e
      cases e
      exact ⟨x, List.getElem?_set_self (by rw [h.len]; exact hi), hv⟩
    · rw [List.getElem?_eq_none (by simp; omega)] at e; cases e
  · rw [List.getElem?_set_ne hj] at e
    obtain ⟨y, e1, hy⟩ := h.get j w e
    exact ⟨y, by rw [List.getElem?_set_ne hj]; exact e1, hy⟩
theorem SRel.none {σ : L2.St} {s : Slots} (h : SRel K cl B r H σ s) (i : Nat) (o : Option V) : SRel K cl B r H (σ.set i o) (s.set i Option.none) := by
  refine ⟨by simp [h.len], fun j w e => ?_⟩
  by_cases hj : i = j
  · subst hj
    by_cases hi : i < s.length
    · rw [List.getElem?_set_self hi] at e; cases e
    · rw [List.getElem?_eq_none (by simp; omega)] at e; cases e
  · rw [List.getElem?_set_ne hj] at e
    obtain ⟨y, e1, hy⟩ := h.get j w e
    exact ⟨y, by rw [List.getElem?_set_ne hj]; exact e1, hy⟩
theorem SRel.wipe {σ : L2.St} {s : Slots} (h : SRel K cl B r H σ s) : ∀ vs, SRel K cl B r H (L2.wipe σ vs) (Gv.wipe s vs)
  | [] => h
  | v :: vs => (SRel.wipe h vs).none v Option.none
theorem gNames_ok {Q : L2.St → Hp → Prop} : ∀ {is : List Nat} {vs : List Val} {xs : List V} {σ : L2.St} {s s' : Slots}, SRel K cl B r H σ s → VRs K cl B r H xs vs → setAll is vs s = some s' →
    (∀ σ', SRel K cl B r H σ' s' → σ'.length = σ.length → (∀ j, j ∉ is → σ'[j]? = σ[j]?) → Q σ' H) → gNames is xs σ H Q
  | [], _, _, σ, s, s', S, .nil, e, h => by
    simp only [setAll, Option.some.injEq] at e
    subst e
    exact ⟨rfl, h σ S rfl fun _ _ => rfl⟩
  | [], _, _, σ, s, s', S, .cons _ _, e, h => by simp [setAll] at e
  | i :: is, _, _, σ, s, s', S, .nil, e, h => by simp [setAll] at e
  | i :: is, _, _, σ, s, s', S, .cons (a := x) (b := v) hv t, e, h => by
    simp only [setAll] at e
    refine ⟨x, _, rfl, ?_⟩
    refine gNames_ok (S.set hv i) t e fun σ' S' hl hj => h σ' S' (by rw [hl]; simp) fun j hn => ?_
    simp only [List.mem_cons, not_or] at hn
    rw [hj j hn.2, List.getElem?_set_ne (Ne.symm hn.1)]
end
section
variable {X : Cx} {cl : Nat → Addr} {W : WX} {e tg : Expr} {es : List Expr} {pos : Pos} {x : Str}
abbrev SG (X : Cx) (cl : Nat → Addr) (tg : Expr) (t : Tg) : Prop := PG X tg (rdG X.K cl t)
theorem PG.imp {t t' : TG} (h : PG X tg t) (i : ∀ x σ H Q, t' x σ H Q → t x σ H Q) : PG X tg t' := ⟨fun pins s σ H x v Q I rv w => h.run pins s σ H x v Q I rv (i x σ H Q w)⟩
theorem sg_name {i : Nat} (hN : X.N.Nodup) (hi : X.N[i]? = some x) (hx : Loc X.env.scope x) (hf : X.fn x = true ∨ X.env.scope.names.lookup x = some .local) : SG X cl (.Name x pos) (.one i) :=
  PG.imp (pg_name hN hi hx hf) fun y σ H Q ⟨B, r, M, s, s', R, S, hv, h⟩ => by
    rcases hv with ⟨v, hv, e⟩ | ⟨_, _, _, _, _, _, _, e, _⟩
    · simp only [asgT, Option.some.injEq] at e
      subst e
      refine h _ (S.set hv i) (by simp) fun j hj => ?_
      simp only [Tg.slots, List.mem_singleton] at hj
      exact List.getElem?_set_ne (Ne.symm hj)
    · cases e
/-- names, with their slots -/
inductive NamesAt (X : Cx) : List Expr → List Nat → Prop
  | nil : NamesAt X [] []
  | cons {x : Str} {p : Pos} {i : Nat} {es : List Expr} {is : List Nat} : X.N[i]? = some x → Loc X.env.scope x → (X.fn x = true ∨ X.env.scope.names.lookup x = some .local) → NamesAt X es is → NamesAt X (.Name x p :: es) (i :: is)
theorem pgs_names (hN : X.N.Nodup) : ∀ {es : List Expr} {is : List Nat}, NamesAt X es is → PGs X es (gNames is)
  | _, _, .nil => pgs_nil
  | _, _, .cons h1 h2 h3 t => pgs_cons (pg_name hN h1 h2 h3) (pgs_names hN t) rfl
theorem names_len : ∀ {es : List Expr} {is : List Nat}, NamesAt X es is → (assignEach es X.env).length = is.length
  | _, _, .nil => rfl
  | _, _, .cons h1 h2 h3 t => by
    show (_ :: assignEach _ X.env).length = _
    simp [names_len t]
theorem names_star : ∀ {es : List Expr} {is : List Nat}, NamesAt X es is → List.findIdx? (fun x => x.fst) (assignEach es X.env) = none
  | _, _, .nil => rfl
  | _, _, .cons h1 h2 h3 t => by
    show List.findIdx? _ ((false, _) :: assignEach _ X.env) = _
    rw [List.findIdx?_cons]
    simp [names_star t]
theorem setAll_len : ∀ {is : List Nat} {vs : List Val} {s s' : Slots}, setAll is vs s = some s' → vs.length = is.length
  | [], [], _, _, _ => rfl
  | [], _ :: _, _, _, e => by simp [setAll] at e
  | _ :: _, [], _, _, e => by simp [setAll] at e
  | i :: is, v :: vs, s, s', e => by
    simp only [setAll] at e
    simp [setAll_len e]
theorem sg_tup {is : List Nat} {k : Nat} (hc : X.calm = true) (hN : X.N.Nodup) (h : NamesAt X es is) : SG X cl (.Tuple es k pos) (.many is) :=
  PG.imp (pg_tup hc (pgs_names hN h) (names_len h) (names_star h)) fun y σ H Q ⟨B, r, M, s, s', R, S, hv, q⟩ => by
    rcases hv with ⟨v, hv, e⟩ | ⟨a, xs, vs, is', rfl, ht, hd, e0, e⟩
    · simp only [asgT] at e
      split at e
      · obtain ⟨a, xs, rfl, ht, l, hd⟩ := hv.tuple
        refine ⟨a, xs, rfl, .inl (.inl ht), ?_, gNames_ok S hd.vrs e q⟩
        rw [hd.length, ← setAll_len e, List.length_map]
      · cases e
    · cases e0
      refine ⟨a, xs, rfl, .inl (.inl ht), ?_, gNames_ok S hd e q⟩
      rw [Paired.length hd, ← setAll_len e]
end

/-! ### what lies apart, D among what is blocked, is written -/
section
variable {K : PySem.W.Frag} {cl : Nat → Addr} {B r : List Addr} {H : Hp} {M : Store} {D : Addr} {o : HO}
theorem tup_other (nt : ∀ xs, ¬ H D = some (.tup xs)) {a : Addr} {xs : List V} (h : H a = some (.tup xs)) : upd H D o a = some (.tup xs) := by
  have hne : a ≠ D := fun z => nt xs (z ▸ h)
  rw [upd_ne hne]; exact h
mutual
theorem DR.other (hD : D ∈ B) (nt : ∀ xs, ¬ H D = Option.some (.tup xs)) : ∀ {x : V} {d : PyData}, DR B r H x d → DR B r (upd H D o) x d
  | _, _, .non => .non
  | _, _, .bl b => .bl b
  | _, _, .int i => .int i
  | _, _, .str x => .str x
  | _, _, .lst h n1 n2 l hs => .lst (by rw [upd_ne (fun z => n1 (by rw [z]; exact hD))]; exact h) n1 n2 l (DRs.other hD nt hs)
  | _, _, .tup h l hs => .tup (tup_other nt h) l (DRs.other hD nt hs)
theorem DRs.other (hD : D ∈ B) (nt : ∀ xs, ¬ H D = Option.some (.tup xs)) : ∀ {xs : List V} {ds : List PyData}, DRs B r H xs ds → DRs B r (upd H D o) xs ds
  | _, _, .nil => .nil
  | _, _, .cons a b => .cons (DR.other hD nt a) (DRs.other hD nt b)
end
theorem VR.other (hD : D ∈ B) (nt : ∀ xs, ¬ H D = Option.some (.tup xs)) {x : V} {v : Val} (h : VR K cl B r H x v) : VR K cl B r (upd H D o) x v := by
  cases h with
  | d h => exact .d (h.other hD nt)
  | ref h => exact .ref h
  | exc h n1 n2 => exact .exc (by rw [upd_ne (fun z => n1 (by rw [z]; exact hD))]; exact h) n1 n2
  | scr h =>
    rcases h with ⟨h, n1, n2⟩ | h
    · rename_i a' ns
      have hne : a' ≠ D := fun z => n1 (by rw [z]; exact hD)
      refine .scr (.inl ⟨?_, n1, n2⟩)
      rcases h with h | ⟨v, h⟩
      · exact .inl (by rw [upd_ne hne]; exact h)
      · exact .inr ⟨v, by rw [upd_ne hne]; exact h⟩
    · exact .scr (.inr h)
theorem VRs.other (hD : D ∈ B) (nt : ∀ xs, ¬ H D = Option.some (.tup xs)) {xs : List V} {vs : List Val} (h : VRs K cl B r H xs vs) : VRs K cl B r (upd H D o) xs vs := Paired.mapP h fun _ _ z => z.other hD nt
theorem SRel.other (hD : D ∈ B) (nt : ∀ xs, ¬ H D = Option.some (.tup xs)) {σ : L2.St} {s : Slots} (h : SRel K cl B r H σ s) : SRel K cl B r (upd H D o) σ s :=
  ⟨h.len, fun i v e => let ⟨x, a, b⟩ := h.get i v e; ⟨x, a, b.other hD nt⟩⟩
theorem Rel.other (hD : D ∈ B) (nt : ∀ xs, ¬ H D = Option.some (.tup xs)) (R : Rel K cl B r M H) : Rel K cl B r M (upd H D o) := by
  refine ⟨R.len, R.nd, R.blk, fun a h => upd_some (R.bs a h), fun n c a e1 e2 => ?_⟩
  have hne : a ≠ D := fun z => R.blk a (List.mem_of_getElem? e2) (by rw [z]; exact hD)
  have h := R.cell n c a e1 e2
  cases h with
  | lst h l hs => exact .lst (by rw [upd_ne hne]; exact h) l (hs.other hD nt)
  | dK h l hs => exact .dK (by rw [upd_ne hne]; exact h) l (Paired.mapP hs fun _ _ z => ⟨z.1, z.2.other hD nt⟩)
  | dT h l hs => exact .dT (by rw [upd_ne hne]; exact h) l (Paired.mapP hs fun _ _ z => ⟨z.1, z.2.other hD nt⟩)
  | ins h ho nb nr ci hs => exact .ins (by rw [upd_ne hne]; exact h) (by rw [upd_ne (fun z => nb (by rw [z]; exact hD))]; exact ho) nb nr ci (Paired.mapP hs fun _ _ z => ⟨z.1, z.2.other hD nt⟩)
  | tup h l hs => exact .tup (by rw [upd_ne hne]; exact h) l (hs.other hD nt)
theorem ItR.other {J : It} {vs : Src} (hD : D ∈ B) (nt : ∀ xs, ¬ H D = Option.some (.tup xs)) (h : ItR K cl B r H J vs) : ItR K cl B r (upd H D o) J vs := by
  cases h with
  | lst h n1 n2 l hs => exact .lst (by rw [upd_ne (fun z => n1 (by rw [z]; exact hD))]; exact h) n1 n2 l (hs.other hD nt)
  | tup h l hs => exact .tup (tup_other nt h) l (hs.other hD nt)
  | rng l => exact .rng l
  | enm h n1 n2 l hs => exact .enm (by rw [upd_ne (fun z => n1 (by rw [z]; exact hD))]; exact h) n1 n2 l (hs.other hD nt)
  | enmT h l hs => exact .enmT (tup_other nt h) l (hs.other hD nt)
  | str l => exact .str l
  | rngC l => exact .rngC l
  | zip h1 n1 n2 h2 n3 n4 l1 l2 d1 d2 => exact .zip (by rw [upd_ne (fun z => n1 (by rw [z]; exact hD))]; exact h1) n1 n2 (by rw [upd_ne (fun z => n3 (by rw [z]; exact hD))]; exact h2) n3 n4 l1 l2 (d1.other hD nt) (d2.other hD nt)
  | zipT h1 h2 l1 l2 d1 d2 => exact .zipT (tup_other nt h1) (tup_other nt h2) l1 l2 (d1.other hD nt) (d2.other hD nt)
  | cel h => exact .cel h
  | celE h => exact .celE h
  | zc h n1 n2 l hs hb => exact .zc (by rw [upd_ne (fun z => n1 (by rw [z]; exact hD))]; exact h) n1 n2 l (hs.other hD nt) hb
/-! .. and is blocked from now on -/
mutual
theorem DR.more (hD : H D = none) : ∀ {x : V} {d : PyData}, DR B r H x d → DR (D :: B) r H x d
  | _, _, .non => .non
  | _, _, .bl b => .bl b
  | _, _, .int i => .int i
  | _, _, .str x => .str x
  | _, _, .lst h n1 n2 l hs => .lst h (fun z => by rcases List.mem_cons.mp z with q | q; · rw [q, hD] at h; cases h
                                                   · exact n1 q) n2 l (DRs.more hD hs)
  | _, _, .tup h l hs => .tup h l (DRs.more hD hs)
theorem DRs.more (hD : H D = none) : ∀ {xs : List V} {ds : List PyData}, DRs B r H xs ds → DRs (D :: B) r H xs ds
  | _, _, .nil => .nil
  | _, _, .cons a b => .cons (DR.more hD a) (DRs.more hD b)
end
theorem VR.more (hD : H D = Option.none) {x : V} {v : Val} (h : VR K cl B r H x v) : VR K cl (D :: B) r H x v := by
  have hb : ∀ {a o}, H a = some o → a ∉ B → a ∉ D :: B := fun {a o} e n z => by
    rcases List.mem_cons.mp z with q | q
    · rw [q, hD] at e; cases e
    · exact n q
  cases h with
  | d h => exact .d (h.more hD)
  | ref h => exact .ref h
  | exc h n1 n2 => exact .exc h (hb h n1) n2
  | scr h =>
    rcases h with ⟨h, n1, n2⟩ | h
    · obtain ⟨o, e, _⟩ := Rd.some h
      exact .scr (.inl ⟨h, hb e n1, n2⟩)
    · exact .scr (.inr h)
theorem SRel.more (hD : H D = Option.none) {σ : L2.St} {s : Slots} (h : SRel K cl B r H σ s) : SRel K cl (D :: B) r H σ s :=
  ⟨h.len, fun i v e => let ⟨x, a, b⟩ := h.get i v e; ⟨x, a, b.more hD⟩⟩
theorem ItR.more {J : It} {vs : Src} (hD : H D = none) (h : ItR K cl B r H J vs) : ItR K cl (D :: B) r H J vs := by
  cases h with
  | lst h n1 n2 l hs => exact .lst h (fun z => by rcases List.mem_cons.mp z with q | q; · rw [q, hD] at h; cases h
                                                  · exact n1 q) n2 l (hs.more hD)
  | tup h l hs => exact .tup h l (hs.more hD)
  | rng l => exact .rng l
  | enm h n1 n2 l hs => exact .enm h (fun z => by rcases List.mem_cons.mp z with q | q; · rw [q, hD] at h; cases h
                                                  · exact n1 q) n2 l (hs.more hD)
  | enmT h l hs => exact .enmT h l (hs.more hD)
  | str l => exact .str l
  | rngC l => exact .rngC l
  | zip h1 n1 n2 h2 n3 n4 l1 l2 d1 d2 =>
    refine .zip h1 (fun z => ?_) n2 h2 (fun z => ?_) n4 l1 l2 (d1.more hD) (d2.more hD)
    · rcases List.mem_cons.mp z with q | q
      · rw [q, hD] at h1; cases h1
      · exact n1 q
    · rcases List.mem_cons.mp z with q | q
      · rw [q, hD] at h2; cases h2
      · exact n3 q
  | zipT h1 h2 l1 l2 d1 d2 => exact .zipT h1 h2 l1 l2 (d1.more hD) (d2.more hD)
  | cel h => exact .cel h
  | celE h => exact .celE h
  | zc h n1 n2 l hs hb => exact .zc h (fun z => (List.mem_cons.mp z).elim (fun q => by rw [q, hD] at h; cases h) n1) n2 l (hs.more hD) hb
/-- a new thing, blocked -/
theorem Rel.more (R : Rel K cl B r M H) (hD : H D = none) : Rel K cl (D :: B) r M (upd H D o) := by
  have R1 := R.laid (o := o) hD
  have hr : D ∉ r := fun z => by obtain ⟨_, q, _⟩ := R.isSome z; rw [hD] at q; cases q
  refine ⟨R.len, R.nd, fun a h z => ?_, fun a h => ?_, fun n c a e1 e2 => ?_⟩
  · rcases List.mem_cons.mp z with q | q
    · exact hr (q ▸ h)
    · exact R.blk a h q
  · rcases List.mem_cons.mp h with q | q
    · rw [q, upd_same]; exact fun z => nomatch z
    · exact R1.bs a q
  · have h := R.cell n c a e1 e2
    have hne : a ≠ D := fun z => hr (by rw [← z]; exact List.mem_of_getElem? e2)
    cases h with
    | lst h l hs => exact .lst (by rw [upd_ne hne]; exact h) l (VRs.mono (Grow.laid hD) (Paired.mapP hs fun _ _ z => z.more hD))
    | dK h l hs => exact .dK (by rw [upd_ne hne]; exact h) l (Paired.mapP hs fun _ _ z => ⟨z.1, (z.2.more hD).mono (Grow.laid hD)⟩)
    | dT h l hs => exact .dT (by rw [upd_ne hne]; exact h) l (Paired.mapP hs fun _ _ z => ⟨z.1, (z.2.more hD).mono (Grow.laid hD)⟩)
    | ins h ho nb nr ci hs =>
      have hdx : ∀ dx, H dx = some (.own a) → dx ≠ D := fun dx e z => by rw [z, hD] at e; cases e
      refine .ins (by rw [upd_ne hne]; exact h) (by rw [upd_ne (hdx _ ho)]; exact ho) (fun z => ?_) nr ci (Paired.mapP hs fun _ _ z => ⟨z.1, (z.2.more hD).mono (Grow.laid hD)⟩)
      rcases List.mem_cons.mp z with q | q
      · exact hdx _ ho q
      · exact nb q
    | tup h l hs => exact .tup (by rw [upd_ne hne]; exact h) l (VRs.mono (Grow.laid hD) (Paired.mapP hs fun _ _ z => z.more hD))
/-! .. and no more -/
mutual
theorem DR.less : ∀ {x : V} {d : PyData}, DR (D :: B) r H x d → DR B r H x d
  | _, _, .non => .non
  | _, _, .bl b => .bl b
  | _, _, .int i => .int i
  | _, _, .str x => .str x
  | _, _, .lst h n1 n2 l hs => .lst h (fun z => n1 (List.mem_cons_of_mem _ z)) n2 l (DRs.less hs)
  | _, _, .tup h l hs => .tup h l (DRs.less hs)
theorem DRs.less : ∀ {xs : List V} {ds : List PyData}, DRs (D :: B) r H xs ds → DRs B r H xs ds
  | _, _, .nil => .nil
  | _, _, .cons a b => .cons (DR.less a) (DRs.less b)
end
theorem VR.less {x : V} {v : Val} (h : VR K cl (D :: B) r H x v) : VR K cl B r H x v := by
  cases h with
  | d h => exact .d h.less
  | ref h => exact .ref h
  | exc h n1 n2 => exact .exc h (fun z => n1 (List.mem_cons_of_mem _ z)) n2
  | scr h =>
    rcases h with ⟨h, n1, n2⟩ | h
    · exact .scr (.inl ⟨h, fun z => n1 (List.mem_cons_of_mem _ z), n2⟩)
    · exact .scr (.inr h)
theorem Rel.less (R : Rel K cl (D :: B) r M H) : Rel K cl B r M H := by
  refine ⟨R.len, R.nd, fun a h z => R.blk a h (List.mem_cons_of_mem _ z), fun a h => R.bs a (List.mem_cons_of_mem _ h), fun n c a e1 e2 => ?_⟩
  have h := R.cell n c a e1 e2
  cases h with
  | lst h l hs => exact .lst h l (Paired.mapP hs fun _ _ z => z.less)
  | dK h l hs => exact .dK h l (Paired.mapP hs fun _ _ z => ⟨z.1, z.2.less⟩)
  | dT h l hs => exact .dT h l (Paired.mapP hs fun _ _ z => ⟨z.1, z.2.less⟩)
  | ins h ho nb nr ci hs => exact .ins h ho (fun z => nb (List.mem_cons_of_mem _ z)) nr ci (Paired.mapP hs fun _ _ z => ⟨z.1, z.2.less⟩)
  | tup h l hs => exact .tup h l (Paired.mapP hs fun _ _ z => z.less)
end
end Gv

namespace Gv
open PySem PySem.Spec L2

section
variable {K : PySem.W.Frag} {cl : Nat → Addr} {B r : List Addr} {H : Hp} {M : Store} {D : Addr} {o : HO}
/-! a blocked list becomes a cell -/
mutual
theorem DR.adopt : ∀ {x : V} {d : PyData}, DR (D :: B) r H x d → DR B (r ++ [D]) H x d
  | _, _, .non => .non
  | _, _, .bl b => .bl b
  | _, _, .int i => .int i
  | _, _, .str x => .str x
  | _, _, .lst h n1 n2 l hs => .lst h (fun z => n1 (List.mem_cons_of_mem _ z)) (fun z => (List.mem_append.mp z).elim n2 fun q => n1 (by simp at q; simp [q])) l (DRs.adopt hs)
  | _, _, .tup h l hs => .tup h l (DRs.adopt hs)
theorem DRs.adopt : ∀ {xs : List V} {ds : List PyData}, DRs (D :: B) r H xs ds → DRs B (r ++ [D]) H xs ds
  | _, _, .nil => .nil
  | _, _, .cons a b => .cons (DR.adopt a) (DRs.adopt b)
end
theorem VR.adopt {x : V} {v : Val} (h : VR K cl (D :: B) r H x v) : VR K cl B (r ++ [D]) H x v := by
  have hn : ∀ {a}, a ∉ D :: B → a ∉ r → a ∉ r ++ [D] := fun {a} n1 n2 z => (List.mem_append.mp z).elim n2 fun q => n1 (by simp at q; simp [q])
  cases h with
  | d h => exact .d h.adopt
  | ref h => exact .ref (by rw [List.getElem?_append_left (List.getElem?_eq_some_iff.mp h).1]; exact h)
  | exc h n1 n2 => exact .exc h (fun z => n1 (List.mem_cons_of_mem _ z)) (hn n1 n2)
  | scr h =>
    rcases h with ⟨h, n1, n2⟩ | h
    · exact .scr (.inl ⟨h, fun z => n1 (List.mem_cons_of_mem _ z), hn n1 n2⟩)
    · exact .scr (.inr h)
theorem VRs.adopt {xs : List V} {vs : List Val} (h : VRs K cl (D :: B) r H xs vs) : VRs K cl B (r ++ [D]) H xs vs := Paired.mapP h fun _ _ z => z.adopt
theorem Rel.adopt (R : Rel K cl (D :: B) r M H) (hB : D ∉ B) {xs : List V} {vs : List Val} (hD : H D = some (.lst xs)) (hl : vs.length ≤ lim) (hv : VRs K cl (D :: B) r H xs vs) : Rel K cl B (r ++ [D]) (M ++ [.lst vs]) H := by
  have hr : D ∉ r := fun z => R.blk D z (by simp)
  refine ⟨by simp [R.len], ?_, fun a ha z => ?_, fun a h => R.bs a (List.mem_cons_of_mem _ h), fun n c a e1 e2 => ?_⟩
  · rw [List.nodup_append]
    refine ⟨R.nd, by simp, fun a ha b hb e => ?_⟩
    simp at hb
    subst hb
    exact hr (e ▸ ha)
  · rcases List.mem_append.mp ha with q | q
    · exact R.blk a q (List.mem_cons_of_mem _ z)
    · simp at q; subst q; exact hB z
  · by_cases hn : n < M.length
    · rw [List.getElem?_append_left hn] at e1
      rw [List.getElem?_append_left (by rw [R.len]; exact hn)] at e2
      have h := R.cell n c a e1 e2
      cases h with
      | lst h l hs => exact .lst h l hs.adopt
      | dK h l hs => exact .dK h l (Paired.mapP hs fun _ _ z => ⟨z.1, z.2.adopt⟩)
      | dT h l hs => exact .dT h l (Paired.mapP hs fun _ _ z => ⟨z.1, z.2.adopt⟩)
      | ins h ho nb nr ci hs => exact .ins h ho (fun z => nb (List.mem_cons_of_mem _ z)) (fun z => (List.mem_append.mp z).elim nr fun q => nb (by simp at q; simp [q])) ci (Paired.mapP hs fun _ _ z => ⟨z.1, z.2.adopt⟩)
      | tup h l hs => exact .tup h l hs.adopt
    · rw [List.getElem?_append_right (by omega)] at e1
      rw [List.getElem?_append_right (by rw [R.len]; omega), R.len] at e2
      have hz : n - M.length = 0 := by
        have := (List.getElem?_eq_some_iff.mp e1).1
        simp at this
        omega
      rw [hz] at e1 e2
      simp at e1 e2
      subst e1 e2
      exact .lst hD hl hv.adopt
theorem Grow.adopt {r0 : List Addr} {H0 : Hp} (g : Grow r0 H0 r H) (hD : H0 D = none) : Grow r0 H0 (r ++ [D]) H := by
  refine ⟨?_, g.keep, fun a h => ?_, g.some, g.tup⟩
  · obtain ⟨e, he⟩ := g.pre
    exact ⟨e ++ [D], by rw [he, List.append_assoc]⟩
  · rcases List.mem_append.mp h with q | q
    · exact g.new a q
    · simp at q; subst q; exact .inr hD
theorem Grow.after {r0 : List Addr} {H0 : Hp} (g : Grow r0 H0 r H) (hD : H0 D = none) : Grow r0 H0 r (upd H D o) := by
  refine ⟨g.pre, fun a u e n => ?_, g.new, fun a z => upd_some (g.some a z), fun a xs q => ?_⟩
  · rw [upd_ne (fun z => by rw [z, hD] at e; cases e)]; exact g.keep a u e n
  · have hne : a ≠ D := fun z => by rw [z, hD] at q; cases q
    rw [upd_ne hne]; exact g.tup a xs q
end

theorem wipe_get (s : L2.St) (j : Nat) : ∀ vs : List Nat, (L2.wipe s vs)[j]? = if j ∈ vs then (s[j]?).map (fun _ => none) else s[j]?
  | [] => by simp [L2.wipe]
  | v :: vs => by
    unfold L2.wipe
    by_cases h : v = j
    · subst h
      by_cases hv : v < s.length
      · rw [List.getElem?_set_self (by rw [L2.wipe_length]; exact hv)]
        simp [hv]
      · rw [List.getElem?_eq_none (by rw [List.length_set, L2.wipe_length]; omega), List.getElem?_eq_none (by omega)]
        simp
    · rw [List.getElem?_set_ne h, wipe_get s j vs]
      have : (j ∈ v :: vs) ↔ j ∈ vs := by
        simp only [List.mem_cons]
        exact ⟨fun z => z.resolve_left fun q => h q.symm, .inr⟩
      simp only [this]
theorem wipe_eq {σ σ' : L2.St} {vs sl : List Nat} (hl : σ'.length = (L2.wipe σ vs).length) (hs : ∀ j ∈ sl, j ∈ vs) (hj : ∀ j, j ∉ sl → σ'[j]? = (L2.wipe σ vs)[j]?) : L2.wipe σ' vs = L2.wipe σ vs := by
  rw [L2.wipe_length] at hl
  apply List.ext_getElem?
  intro j
  rw [wipe_get, wipe_get]
  by_cases h : j ∈ vs
  · simp only [h, if_true]
    by_cases hv : j < σ.length
    · rw [List.getElem?_eq_getElem (by omega), List.getElem?_eq_getElem hv]; rfl
    · rw [List.getElem?_eq_none (by omega), List.getElem?_eq_none (by omega)]
  · simp only [h, if_false]
    have := hj j fun z => h (hs j z)
    rw [this, wipe_get]
    simp [h]

abbrev W0 : WX := fun _ _ _ _ => False
def eLc (al : Bool) (own : List Nat) (t : Tg) (gi : Slots → Store → R Src) (gc ge : Slots → Store → R Val) : Slots → Store → R Val := fun s M =>
  (gi s M).bind fun vs M => (lcS gc ge t (wipe s own) vs M).bind fun ys M => mkLV al ys M
/-- what holds ahead of turn i -/
structure LcI (K : PySem.W.Frag) (cl : Nat → Addr) (W : WX) (σ0 : L2.St) (Q : VK) (al : Bool) (B r1 : List Addr) (H1 : Hp) (D : Addr) (σ : L2.St) (s : Slots) (t : Tg) (gc ge : Slots → Store → R Val) (J : It) (items : List Val) (i : Nat) (H : Hp) : Prop where
  le : i ≤ items.length
  st : ∃ rr MM acc yd, Grow r1 H1 rr H ∧ Rel K cl (D :: B) rr MM H ∧ SRel K cl (D :: B) rr H σ s ∧ ItR K cl (D :: B) rr H J (.vs items) ∧ H D = some (.lst acc) ∧ VRs K cl (D :: B) rr H acc yd ∧ acc.length ≤ i ∧
    Out K cl (VR K cl B) W σ0 B r1 H1 ((lcL gc ge t s (items.drop i) MM).bind fun yr M => mkLV al (yd ++ yr) M) (KQ Q)
theorem Out.congr {α β : Type} {K : PySem.W.Frag} {cl : Nat → Addr} {P : List Addr → Hp → β → α → Prop} {W : WX} {σ : L2.St} {B r : List Addr} {H : Hp} {x y : R α} {k : β → α → List Addr → Store → Hp → Prop} (o : Out K cl P W σ B r H x k) (e : x = y) : Out K cl P W σ B r H y k := e ▸ o
theorem paired_snoc {α β : Type} {P : α → β → Prop} {x : α} {y : β} (h : P x y) : ∀ {xs : List α} {ys : List β}, Paired P xs ys → Paired P (xs ++ [x]) (ys ++ [y])
  | _, _, .nil => .cons h .nil
  | _, _, .cons a t => .cons a (paired_snoc h t)
section
variable {K : PySem.W.Frag} {cl : Nat → Addr} {W : WX} {σ0 : L2.St} {Q : VK} {al : Bool} {B r1 : List Addr} {H1 H : Hp} {D : Addr} {σ : L2.St} {s : Slots} {t : Tg} {gc ge : Slots → Store → R Val} {J : It} {items : List Val} {i : Nat} {own : List Nat}
theorem nt_lst {acc : List V} (h : H D = some (.lst acc)) : ∀ xs, ¬ H D = some (.tup xs) := fun xs q => by rw [h] at q; cases q
theorem LcI.turn (hD : H1 D = none) (I : LcI K cl W σ0 Q al B r1 H1 D (L2.wipe σ own) s t gc ge J items i H) (hi : i < items.length) (hs : ∀ j ∈ t.slots, j ∈ own) {x : V} {H' : Hp} (y : J.yld i H x H') :
    rdG K cl t x (L2.wipe σ own) H' fun σ2 H2 => L2.wipe σ2 own = L2.wipe σ own ∧ rdT K cl (fun c d _ H => W c d σ0 H) gc σ2 H2 fun b H3 =>
      if b = true then rdE K cl (fun c d _ H => W c d σ0 H) ge σ2 H3 fun y H4 => ∃ acc, H4 D = some (.lst acc) ∧ acc.length < sizeLine ∧ LcI K cl W σ0 Q al B r1 H1 D (L2.wipe σ own) s t gc ge J items (i + 1) (upd H4 D (.lst (acc ++ [y]))) else LcI K cl W σ0 Q al B r1 H1 D (L2.wipe σ own) s t gc ge J items (i + 1) H3 := by
  obtain ⟨rr, MM, acc, yd, g, R, S, it, hd, va, la, o⟩ := I.st
  have hv : items[i]? = some items[i] := by simp [hi]
  obtain ⟨gy, Ry, vx, _⟩ := it.yld R hv y
  rw [List.drop_eq_getElem_cons hi] at o
  unfold lcL at o
  cases e1 : asgT t items[i] s with
  | none => rw [e1] at o; exact (show False from o).elim
  | some s1 =>
    rw [e1] at o
    dsimp only at o
    refine ⟨D :: B, rr, MM, s, s1, Ry, S.mono gy, .inl ⟨_, vx, e1⟩, fun σ' S' hl hj => ⟨wipe_eq hl hs hj, ?_⟩⟩
    refine ⟨D :: B, rr, MM, s1, Ry, S', ?_⟩
    have nb : ∀ {q : List Addr} {MQ : Store} {HQ : Hp}, Rel K cl (D :: B) q MQ HQ → D ∉ q := fun RQ z => RQ.blk D z (by simp)
    have hd1 : H' D = some (.lst acc) := gy.keep D _ hd (nb R)
    split at o
    · rename_i M1 ec
      rw [ec]
      intro u H3 r3 g3 R3 v3
      refine ⟨true, rfl, ?_⟩
      dsimp only
      rw [if_pos rfl]
      refine ⟨D :: B, r3, M1, s1, R3, S'.mono g3, ?_⟩
      cases eq : ge s1 M1 with
      | bad => rw [eq] at o; exact (show False from o).elim
      | exc k M4 =>
        rw [eq] at o
        have o : Out K cl (VR K cl B) W σ0 B r1 H1 (.exc k M4) (KQ Q) := o
        exact fun H4 r4 g4 R4 => o H4 r4 (((g.trans gy).trans g3).trans g4) R4.less
      | ok w M4 =>
        rw [eq] at o
        simp only [Gv.R.bind_ok] at o
        intro u4 H4 r4 g4 R4 v4
        have hd3 : H3 D = some (.lst acc) := g3.keep D _ hd1 (nb Ry)
        have hd4 : H4 D = some (.lst acc) := g4.keep D _ hd3 (nb R3)
        have gg := ((gy.trans g3).trans g4)
        have hm : D ∈ D :: B := by simp
        refine ⟨acc, hd4, ?_, ⟨hi, r4, M4, acc ++ [u4], yd ++ [w], (((g.trans gy).trans g3).trans g4).after hD, R4.other hm (nt_lst hd4), (S.mono gg).other hm (nt_lst hd4), (it.mono gg).other hm (nt_lst hd4), upd_same,
          VRs.other hm (nt_lst hd4) (paired_snoc v4 (VRs.mono gg va)), by simp; omega, o.congr ?_⟩⟩
        · have := it.len
          rw [← lim_eq]
          omega
        · cases lcL gc ge t s (items.drop (i + 1)) M4 with
          | bad => rfl
          | exc k M5 => rfl
          | ok yr M5 => simp only [Gv.R.bind_ok, List.append_assoc, List.singleton_append]
    · rename_i M1 ec
      rw [ec]
      intro u H3 r3 g3 R3 v3
      refine ⟨false, rfl, ?_⟩
      dsimp only
      rw [if_neg Bool.false_ne_true]
      have gg := gy.trans g3
      exact ⟨hi, r3, M1, acc, yd, (g.trans gy).trans g3, R3, S.mono gg, it.mono gg, g3.keep D _ hd1 (nb Ry), VRs.mono gg va, by omega, o⟩
    · exact (show False from o).elim
theorem lc_end {ys : List Val} {rr : List Addr} {MM M1 : Store} {acc : List V} (hD : H1 D = none) (R1 : Rel K cl B r1 M1 H1) (g : Grow r1 H1 rr H) (R : Rel K cl (D :: B) rr MM H) (hd : H D = some (.lst acc)) (va : VRs K cl (D :: B) rr H acc ys) (hl : ys.length ≤ lim)
    (o : Out K cl (VR K cl B) W σ0 B r1 H1 (mkLV al ys MM) (KQ Q)) : Q (.ref D) H := by
  have hB : D ∉ B := fun z => R1.bs D z hD
  have hr : D ∉ rr := fun z => R.blk D z (by simp)
  unfold mkLV at o
  cases ed : allD ys with
  | none =>
    rw [ed] at o
    exact o (.ref D) H (rr ++ [D]) (g.adopt hD) (R.adopt hB hd hl va) (.ref (by rw [← R.len]; simp))
  | some ds =>
    rw [ed] at o
    have hds := VRs.allD va ed
    have hl2 : ds.length ≤ lim := by rw [← hds.length, Paired.length va]; exact hl
    unfold mkL at o
    cases al with
    | false => exact o (.ref D) H rr g R.less (.d (.lst hd hB hr hl2 hds.less))
    | true => exact o (.ref D) H (rr ++ [D]) (g.adopt hD) (R.adopt hB hd (by simpa using hl2) hds.vrs) (.ref (by rw [← R.len]; simp))
theorem LcI.done {M1 : Store} (hD : H1 D = none) (R1 : Rel K cl B r1 M1 H1) (I : LcI K cl W σ0 Q al B r1 H1 D σ s t gc ge J items items.length H) : J.stop items.length H ∧ Q (.ref D) H := by
  obtain ⟨rr, MM, acc, yd, g, R, S, it, hd, va, la, o⟩ := I.st
  refine ⟨it.stop, ?_⟩
  rw [List.drop_length] at o
  simp only [lcL, Gv.R.bind_ok, List.append_nil] at o
  exact lc_end hD R1 g R hd va (by have := it.len; rw [← Paired.length va]; omega) o
end
section
variable {X : Cx} {cl : Nat → Addr} {W : WX} {elt tg iter : Expr} {ifs : List Expr} {scope : Scope} {own : List (Str × Nat)} {pos : Pos} {gi : Slots → Store → R Src} {gc ge : Slots → Store → R Val} {t : Tg} {al : Bool}
/-- what holds ahead of turn i, a list that may change walked -/
structure LcC (K : PySem.W.Frag) (cl : Nat → Addr) (W : WX) (σ0 : L2.St) (Q : VK) (al : Bool) (B r1 : List Addr) (H1 : Hp) (D : Addr) (σ : L2.St) (s : Slots) (t : Tg) (gc ge : Slots → Store → R Val) (a : Addr) (n : Nat) (en : Bool) (f i : Nat) (H : Hp) : Prop where
  st : ∃ rr MM acc yd, Grow r1 H1 rr H ∧ Rel K cl (D :: B) rr MM H ∧ SRel K cl (D :: B) rr H σ s ∧ rr[n]? = some a ∧ H D = some (.lst acc) ∧ VRs K cl (D :: B) rr H acc yd ∧ acc.length ≤ i ∧ i ≤ lim ∧
    Out K cl (VR K cl B) W σ0 B r1 H1 ((lcC gc ge t s n en f i MM).bind fun yr M => mkLV al (yd ++ yr) M) (KQ Q)
theorem LcC.step {K : PySem.W.Frag} {B r1 : List Addr} {H1 H : Hp} {D a : Addr} {σ σ0 : L2.St} {s : Slots} {t : Tg} {n f i : Nat} {en : Bool} {M1 : Store} {own : List Nat} {Q : VK} {W : WX} {al : Bool} (hD : H1 D = none) (R1 : Rel K cl B r1 M1 H1) (hs : ∀ j ∈ t.slots, j ∈ own) (I : LcC K cl W σ0 Q al B r1 H1 D (L2.wipe σ own) s t gc ge a n en f i H) :
    ((Jc K a en).stop i H ∧ Q (.ref D) H) ∨ ∃ f', f = f' + 1 ∧ (Jc K a en).go i H ∧ ∀ x H', (Jc K a en).yld i H x H' → rdG K cl t x (L2.wipe σ own) H' fun σ2 H2 => L2.wipe σ2 own = L2.wipe σ own ∧ rdT K cl (fun c d _ H => W c d σ0 H) gc σ2 H2 fun b H3 =>
      if b = true then rdE K cl (fun c d _ H => W c d σ0 H) ge σ2 H3 fun y H4 => ∃ acc, H4 D = some (.lst acc) ∧ acc.length < sizeLine ∧ LcC K cl W σ0 Q al B r1 H1 D (L2.wipe σ own) s t gc ge a n en f' (i + 1) (upd H4 D (.lst (acc ++ [y]))) else LcC K cl W σ0 Q al B r1 H1 D (L2.wipe σ own) s t gc ge a n en f' (i + 1) H3 := by
  obtain ⟨rr, MM, acc, yd, g, R, S, hp, hd, va, la, lb, o⟩ := I.st
  cases f with
  | zero => exact (show False from o).elim
  | succ f =>
    unfold lcC at o
    cases ec : cellAt MM n i with
    | none => rw [ec] at o; exact (show False from o).elim
    | some ov =>
    rw [ec] at o
    cases ov with
    | none =>
      simp only [Gv.R.bind_ok, List.append_nil] at o
      exact .inl ⟨cel_stop R hp ec, lc_end hD R1 g R hd va (by rw [← Paired.length va]; omega) o⟩
    | some v =>
      obtain ⟨hgo, hlt⟩ := cel_go (en := en) R hp ec
      refine .inr ⟨f, rfl, hgo, fun x H' y => ?_⟩
      dsimp only at o
      cases e1 : asgE en i t v s with
      | none => rw [e1] at o; exact (show False from o).elim
      | some s1 =>
        rw [e1] at o
        dsimp only at o
        obtain ⟨gy, Ry, vx⟩ := cel_yld R hp ec e1 y
        refine ⟨D :: B, rr, MM, s, s1, Ry, S.mono gy, vx, fun σ' S' hl hj => ⟨wipe_eq hl hs hj, ?_⟩⟩
        refine ⟨D :: B, rr, MM, s1, Ry, S', ?_⟩
        have nb : ∀ {q : List Addr} {MQ : Store} {HQ : Hp}, Rel K cl (D :: B) q MQ HQ → D ∉ q := fun RQ z => RQ.blk D z (by simp)
        have hd1 : H' D = some (.lst acc) := gy.keep D _ hd (nb R)
        split at o
        · rename_i M1 ec
          rw [ec]
          intro u H3 r3 g3 R3 v3
          refine ⟨true, rfl, ?_⟩
          dsimp only
          rw [if_pos rfl]
          refine ⟨D :: B, r3, M1, s1, R3, S'.mono g3, ?_⟩
          cases eq : ge s1 M1 with
          | bad => rw [eq] at o; exact (show False from o).elim
          | exc k M4 =>
            rw [eq] at o
            have o : Out K cl (VR K cl B) W σ0 B r1 H1 (.exc k M4) (KQ Q) := o
            exact fun H4 r4 g4 R4 => o H4 r4 (((g.trans gy).trans g3).trans g4) R4.less
          | ok w M4 =>
            rw [eq] at o
            simp only [Gv.R.bind_ok] at o
            intro u4 H4 r4 g4 R4 v4
            have hd3 : H3 D = some (.lst acc) := g3.keep D _ hd1 (nb Ry)
            have hd4 : H4 D = some (.lst acc) := g4.keep D _ hd3 (nb R3)
            have gg := ((gy.trans g3).trans g4)
            have hm : D ∈ D :: B := by simp
            refine ⟨acc, hd4, by rw [← lim_eq]; omega, ⟨r4, M4, acc ++ [u4], yd ++ [w], (((g.trans gy).trans g3).trans g4).after hD, R4.other hm (nt_lst hd4), (S.mono gg).other hm (nt_lst hd4), gg.at_ hp, upd_same,
              VRs.other hm (nt_lst hd4) (paired_snoc v4 (VRs.mono gg va)), by simp; omega, by omega, o.congr ?_⟩⟩
            cases lcC gc ge t s n en f (i + 1) M4 with
            | bad => rfl
            | exc k M5 => rfl
            | ok yr M5 => simp only [Gv.R.bind_ok, List.append_assoc, List.singleton_append]
        · rename_i M1 ec
          rw [ec]
          intro u H3 r3 g3 R3 v3
          refine ⟨false, rfl, ?_⟩
          dsimp only
          rw [if_neg Bool.false_ne_true]
          have gg := gy.trans g3
          exact ⟨r3, M1, acc, yd, (g.trans gy).trans g3, R3, S.mono gg, gg.at_ hp, g3.keep D _ hd1 (nb Ry), VRs.mono gg va, by omega, by omega, o⟩
        · exact (show False from o).elim
theorem lc_imp (hs : ∀ j ∈ t.slots, j ∈ own.map (·.2)) {σ : L2.St} {H : Hp} {Q : VK} (h : rdE X.K cl W (eLc al (own.map (·.2)) t gi gc ge) σ H Q) :
    tLc (rdI X.K cl W gi) (rdG X.K cl t) (rdT X.K cl (fun c d _ H => W c d σ H) gc) (rdE X.K cl (fun c d _ H => W c d σ H) ge) (own.map (·.2)) σ H Q := by
  obtain ⟨B, r, M, s, R, S, o⟩ := h
  refine ⟨B, r, M, s, R, S, o.step fun J src r1 M1 H1 g1 R1 it1 o1 D hD => ?_⟩
  have gl : Grow r1 H1 r1 (upd H1 D (.lst [])) := Grow.laid hD
  cases src with
  | zc ds n => exact (show False from o1).elim
  | cel n en =>
    obtain ⟨a, rfl, hp⟩ := it1.cels
    have o1 : Out X.K cl (VR X.K cl B) W σ B r1 H1 ((lcC gc ge t (wipe s (own.map (·.2))) n en (lenCel M1 n) 0 M1).bind fun ys M => mkLV al ([] ++ ys) M) (KQ Q) := o1
    refine ⟨fun i m H => LcC X.K cl W σ Q al B r1 H1 D (L2.wipe σ (own.map (·.2))) (wipe s (own.map (·.2))) t gc ge a n en m i H, ⟨lenCel M1 n, ?_⟩, ?_⟩
    · exact ⟨r1, M1, [], [], gl, R1.more hD, (((S.wipe (own.map (·.2))).mono g1).more hD).mono gl, hp, upd_same, .nil, Nat.le_refl _, Nat.zero_le _, o1⟩
    · intro i m H I
      rcases I.step hD R1 hs with h | ⟨f', rfl, hgo, h⟩
      · exact .inl h
      · exact .inr ⟨hgo, fun H' => LcC X.K cl W σ Q al B r1 H1 D (L2.wipe σ (own.map (·.2))) (wipe s (own.map (·.2))) t gc ge a n en f' (i + 1) H', fun H' I' => ⟨f', Nat.lt_succ_self _, I'⟩, h⟩
  | vs items =>
    have o1 : Out X.K cl (VR X.K cl B) W σ B r1 H1 ((lcL gc ge t (wipe s (own.map (·.2))) items M1).bind fun ys M => mkLV al ([] ++ ys) M) (KQ Q) := o1
    refine ⟨fun i m H => m = items.length - i ∧ LcI X.K cl W σ Q al B r1 H1 D (L2.wipe σ (own.map (·.2))) (wipe s (own.map (·.2))) t gc ge J items i H, ⟨_, rfl, Nat.zero_le _, ?_⟩, ?_⟩
    · exact ⟨r1, M1, [], [], gl, R1.more hD, (((S.wipe (own.map (·.2))).mono g1).more hD).mono gl, (it1.more hD).mono gl, upd_same, .nil, Nat.le_refl _, o1⟩
    · rintro i m H ⟨rfl, I⟩
      by_cases hi : i < items.length
      · refine .inr ⟨?_, fun H' => LcI X.K cl W σ Q al B r1 H1 D (L2.wipe σ (own.map (·.2))) (wipe s (own.map (·.2))) t gc ge J items (i + 1) H', fun H' I' => ⟨items.length - (i + 1), by omega, rfl, I'⟩, fun x H' y => I.turn hD hi hs y⟩
        obtain ⟨rr, MM, acc, yd, g, R, S, it, _⟩ := I.st
        exact it.go hi
      · have : i = items.length := Nat.le_antisymm I.le (Nat.le_of_not_lt hi)
        subst this
        exact .inl (I.done hD R1)
/-- what a block's tests and element are told to be -/
abbrev BlkG (X : Cx) (cl : Nat → Addr) (scope : Scope) (tg : Expr) (t : Tg) : Prop := ∀ (s : Shared) (H : Hp) (C : Addr) (l : List (Str × Addr)) (fp : List Addr) (xe : Value → Shared → Prop), SG (blkX X s H scope (compEnvC scope l C X.env) fp xe) cl tg t
abbrev BlkT (X : Cx) (cl : Nat → Addr) (W : WX) (scope : Scope) (ifs : List Expr) (gc : Slots → Store → R Val) : Prop := ∀ (W' : WX) (s : Shared) (H : Hp) (C : Addr) (l : List (Str × Addr)) (fp : List Addr) (xe : Value → Shared → Prop), Tk (blkX X s H scope (compEnvC scope l C X.env) fp xe) W' → PTs (blkX X s H scope (compEnvC scope l C X.env) fp xe) ifs (rdT X.K cl W' gc)
abbrev BlkE (X : Cx) (cl : Nat → Addr) (W : WX) (scope : Scope) (elt : Expr) (ge : Slots → Store → R Val) : Prop := ∀ (W' : WX) (s : Shared) (H : Hp) (C : Addr) (l : List (Str × Addr)) (fp : List Addr) (xe : Value → Shared → Prop), Tk (blkX X s H scope (compEnvC scope l C X.env) fp xe) W' → SE (blkX X s H scope (compEnvC scope l C X.env) fp xe) cl W' elt ge
theorem se_lc (tk : Tk X W) (hc : X.calm = true) (hN : X.N.Nodup) (hi : SI X cl W tg iter gi) (ok : BlkOk X.N X.env.scope scope own)
    (hg : BlkG X cl scope tg t) (ht : BlkT X cl W scope ifs gc) (he : BlkE X cl W scope elt ge)
    (hf : ∀ x, foldedSetIterable iter X.env x = pure x) (hs : ∀ j ∈ t.slots, j ∈ own.map (·.2)) :
    SE X cl W (.ListComp elt [⟨tg, iter, ifs, 0⟩] scope pos) (eLc al (own.map (·.2)) t gi gc ge) :=
  PE.imp (pe_lcX (tt := fun σ => rdT X.K cl (fun c d _ H => W c d σ H) gc) (te := fun σ => rdE X.K cl (fun c d _ H => W c d σ H) ge) tk hc hN hi ok hg (fun σ => ht _) (fun σ => he _) hf) fun σ H Q h => lc_imp hs h
end
end Gv

namespace Gv
open PySem PySem.Spec L2

/-! ### statements -/
def OutS (K : PySem.W.Frag) (cl : Nat → Addr) (W : WX) (B r : List Addr) (H : Hp) (x : SR) (D : Ends) : Prop :=
  match x with
  | .next s M' => ∀ σ' H' r', Grow r H r' H' → Rel K cl B r' M' H' → SRel K cl B r' H' σ' s → D.nx σ' H'
  | .ret v M' => ∀ u H' r', Grow r H r' H' → Rel K cl B r' M' H' → VR K cl B r' H' u v → D.rt u H'
  | .exc c s M' => ∀ σ' H' r', Grow r H r' H' → Rel K cl B r' M' H' → SRel K cl B r' H' σ' s → W (xv cl c) none σ' H'
  | .bad => False
def rdS (K : PySem.W.Frag) (cl : Nat → Addr) (W : WX) (g : Slots → Store → SR) : TS := fun D σ H => ∃ B r M s, Rel K cl B r M H ∧ SRel K cl B r H σ s ∧ OutS K cl W B r H (g s M) D
abbrev SS (X : Cx) (cl : Nat → Addr) (W : WX) (st : Stmt) (g : Slots → Store → SR) : Prop := PS X st (rdS X.K cl W g)
abbrev SSs (X : Cx) (cl : Nat → Addr) (W : WX) (st : List Stmt) (g : Slots → Store → SR) : Prop := PSs X st (rdS X.K cl W g)
section
variable {K : PySem.W.Frag} {cl : Nat → Addr} {W : WX} {σ : L2.St} {B r : List Addr} {H : Hp} {M : Store} {s : Slots} {D : Ends}
theorem OutS.grow {r1 : List Addr} {H1 : Hp} {x : SR} (o : OutS K cl W B r H x D) (g : Grow r H r1 H1) : OutS K cl W B r1 H1 x D := by
  cases x with
  | bad => exact o
  | next s M => exact fun σ' H' r' g' => o σ' H' r' (g.trans g')
  | ret v M => exact fun u H' r' g' => o u H' r' (g.trans g')
  | exc c s M => exact fun σ' H' r' g' => o σ' H' r' (g.trans g')
/-- an expression at the head of a statement -/
theorem OutS.step {x : R Val} {f : Val → Store → SR} {k : V → Val → List Addr → Store → Hp → Prop} (S : SRel K cl B r H σ s) (o : OutS K cl W B r H (x.toS s f) D)
    (h : ∀ u v r1 M1 H1, Grow r H r1 H1 → Rel K cl B r1 M1 H1 → VR K cl B r1 H1 u v → OutS K cl W B r1 H1 (f v M1) D → k u v r1 M1 H1) : Out K cl (VR K cl B) W σ B r H x k := by
  cases x with
  | bad => exact o
  | exc c M' => exact fun H' r' g R => o σ H' r' g R (S.mono g)
  | ok v M' => exact fun u H' r' g R p => h u v r' M' H' g R p (OutS.grow (x := f v M') o g)
theorem OutS.next {σ' : L2.St} {s' : Slots} {r' : List Addr} {H' : Hp} (o : OutS K cl W B r H (.next s' M) D) (g : Grow r H r' H') (R : Rel K cl B r' M H') (S : SRel K cl B r' H' σ' s') : D.nx σ' H' := o σ' H' r' g R S
end
section
variable {X : Cx} {cl : Nat → Addr} {W : WX} {a b c e o i tg : Expr} {es : List Expr} {ga gb gc ge go gi : Slots → Store → R Val} {gl : Slots → Store → R Src} {pos p : Pos} {x : Str} {gt gu gb' : Slots → Store → SR} {st : Stmt} {sts body : List Stmt} {t : Tg}
theorem ss_pass : SS X cl W (.Pass pos) (fun s M => .next s M) := PS.imp ps_pass fun D σ H ⟨B, r, M, s, R, S, o⟩ => o.next .refl R S
theorem ss_expr (he : SE X cl W e ge) (hs : swapsWith e none pos.line X.env = pure false) : SS X cl W (.Expr e pos) (fun s M => (ge s M).toS s fun _ M => .next s M) :=
  PS.imp (ps_expr he hs) fun D σ H ⟨B, r, M, s, R, S, o⟩ => ⟨B, r, M, s, R, S, OutS.step S o fun u v r1 M1 H1 g1 R1 v1 o1 => o1.next .refl R1 (S.mono g1)⟩
theorem ss_ret (he : SE X cl W e ge) : SS X cl W (.Return (some e) pos) (fun s M => (ge s M).toS s fun v M => .ret v M) :=
  PS.imp (ps_ret he) fun D σ H ⟨B, r, M, s, R, S, o⟩ => ⟨B, r, M, s, R, S, OutS.step S o fun u v r1 M1 H1 g1 R1 v1 o1 => o1 u H1 r1 .refl R1 v1⟩
def sAsg (t : Tg) (g : Slots → Store → R Val) : Slots → Store → SR := fun s M => (g s M).toS s fun v M => (match asgT t v s with | some s' => .next s' M | none => .bad)
theorem asg_imp {D : Ends} {σ : L2.St} {H : Hp} (h : rdS X.K cl W (sAsg t ge) D σ H) : tAsg (rdE X.K cl W ge) (rdG X.K cl t) D σ H := by
  obtain ⟨B, r, M, s, R, S, o⟩ := h
  refine ⟨B, r, M, s, R, S, OutS.step S o fun u v r1 M1 H1 g1 R1 v1 o1 => ?_⟩
  split at o1
  · rename_i s' e1
    exact ⟨B, r1, M1, s, s', R1, S.mono g1, .inl ⟨v, v1, e1⟩, fun σ' S' _ _ => o1.next .refl R1 S'⟩
  · exact o1.elim
theorem ss_asg (he : SE X cl W e ge) (hg : SG X cl tg t) (h1 : swapsWithSole [tg] e pos.line X.env = pure false) (h2 : swappedStores [tg] e X.env = pure none) (h3 : (assignEach [tg] X.env).map (·.2) = [assign tg X.env]) : SS X cl W (.Assign [tg] e pos) (sAsg t ge) :=
  PS.imp (ps_asg he hg h1 h2 h3) fun D σ H h => asg_imp h
theorem ss_asgLc {i : Nat} {y : Str} {py lpos : Pos} {elt tg iter : Expr} {ifs : List Expr} {scope : Scope} {own : List (Str × Nat)} {al : Bool} (tk : Tk X W) (hc : X.calm = true) (hN : X.N.Nodup) (hy : X.N[i]? = some y) (hyl : X.env.scope.names.lookup y = some .local)
    (hsw : swapsWith (.ListComp elt [⟨tg, iter, ifs, 0⟩] scope lpos) (some (.Name y py)) pos.line X.env = pure true) (hi : SI X cl W tg iter gl) (ok : BlkOk X.N X.env.scope scope own)
    (hg : BlkG X cl scope tg t) (ht : BlkT X cl W scope ifs gc) (he : BlkE X cl W scope elt ge)
    (hf : ∀ x, foldedSetIterable iter X.env x = pure x) (hs : ∀ j ∈ t.slots, j ∈ own.map (·.2)) :
    SS X cl W (.Assign [.Name y py] (.ListComp elt [⟨tg, iter, ifs, 0⟩] scope lpos) pos) (sAsg (.one i) (eLc al (own.map (·.2)) t gl gc ge)) :=
  PS.imp (ps_lcX (g := rdG X.K cl t) (tt := fun σ => rdT X.K cl (fun c d _ H => W c d σ H) gc) (te := fun σ => rdE X.K cl (fun c d _ H => W c d σ H) ge) tk hc hN hy hyl hsw hi ok hg (fun σ => ht _) (fun σ => he _) hf) fun D σ H ⟨B, r, M, s, R, S, o⟩ => by
    show tLc _ _ _ _ _ σ H (fun x H1 => gName i x σ H1 D.nx)
    refine lc_imp hs ⟨B, r, M, s, R, S, OutS.step S o fun u v r1 M1 H1 g1 R1 v1 o1 => ?_⟩
    simp only [asgT] at o1
    exact o1.next .refl R1 ((S.mono g1).set v1 i)
def sPar (i j : Nat) (ga gb : Slots → Store → R Val) : Slots → Store → SR := fun s M => (ga s M).toS s fun x M => (gb s M).toS s fun y M => .next ((s.set i (some x)).set j (some y)) M
theorem ss_par {i j : Nat} {y : Str} {px py pt : Pos} {kt k2 pt2} (hc : X.calm = true) (hN : X.N.Nodup) (hi : X.N[i]? = some x) (hj : X.N[j]? = some y) (hij : i ≠ j)
    (hx : X.env.scope.names.lookup x = some .local) (hy : X.env.scope.names.lookup y = some .local) (ha : SE X cl W a ga) (hb : SE X cl W b gb) (sa : notStar a = true) (sb : notStar b = true)
    (hw : swappedStores [.Tuple [.Name x px, .Name y py] kt pt] (.Tuple [a, b] k2 pt2) X.env = pure (some [x, y])) :
    SS X cl W (.Assign [.Tuple [.Name x px, .Name y py] kt pt] (.Tuple [a, b] k2 pt2) pos) (sPar i j ga gb) :=
  PS.imp (ps_par hc hN hi hj hij hx hy (sa_cons ha (sa_cons hb sa_nil (star_cons sb)) (star_cons sa)) hw) fun D σ H ⟨B, r, M, s, R0, S, o⟩ => by
    refine ⟨B, r, M, s, R0, S, ?_⟩
    unfold sPar at o
    show Out X.K cl (VRs X.K cl B) W σ B r H ((ga s M).bind fun v M => ((gb s M).bind fun v M => (R.ok ([] : List Val) M).bind fun vs M => .ok (v :: vs) M).bind fun vs M => .ok (v :: vs) M) _
    cases qa : ga s M with
    | bad => rw [qa] at o; exact o.elim
    | exc c M1 => rw [qa] at o; exact fun H' r' g R' => o σ H' r' g R' (S.mono g)
    | ok v M1 =>
      rw [qa] at o
      simp only [R.toS_ok, R.bind_ok] at o ⊢
      cases qb : gb s M1 with
      | bad => rw [qb] at o; exact o.elim
      | exc c M2 => rw [qb] at o; exact fun H' r' g R' => o σ H' r' g R' (S.mono g)
      | ok w M2 =>
        rw [qb] at o
        simp only [R.toS_ok, R.bind_ok] at o ⊢
        intro u H' r' g R' p
        obtain ⟨x1, x2, rfl, p1, p2⟩ := VRs.two p
        exact ⟨x1, x2, rfl, o _ H' r' g R' (((S.mono g).set p1 i).set p2 j)⟩
theorem ss_if (hc : ST X cl W c gc) (ha : SSs X cl W sts gt) (hb : SSs X cl W body gu) : SS X cl W (.If c sts body pos) (fun s M => (gc s M).toS s fun x M => (match x with | .d (.bool true) => gt s M | .d (.bool false) => gu s M | _ => .bad)) :=
  PS.imp (ps_if hc ha hb) fun D σ H ⟨B, r, M, s, R, S, o⟩ => ⟨B, r, M, s, R, S, OutS.step S o fun u v r1 M1 H1 g1 R1 v1 o1 => by
    split at o1
    · exact ⟨true, rfl, by dsimp only; rw [if_pos rfl]; exact ⟨B, r1, M1, s, R1, S.mono g1, o1⟩⟩
    · exact ⟨false, rfl, by dsimp only; rw [if_neg Bool.false_ne_true]; exact ⟨B, r1, M1, s, R1, S.mono g1, o1⟩⟩
    · exact o1.elim⟩
theorem sss_nil : SSs X cl W [] (fun s M => .next s M) := PSs.imp pss_nil fun D σ H ⟨B, r, M, s, R, S, o⟩ => o.next .refl R S
def sSeq (f g : Slots → Store → SR) : Slots → Store → SR := fun s M => (match f s M with
      | .next s1 M1 => g s1 M1
      | x => x)
theorem sss_cons (h1 : SS X cl W st gt) (h2 : SSs X cl W sts gu) : SSs X cl W (st :: sts) (sSeq gt gu) :=
  PSs.imp (pss_cons h1 h2) fun D σ H ⟨B, r, M, s, R, S, o⟩ => ⟨B, r, M, s, R, S, by
    unfold sSeq at o
    cases q : gt s M with
    | bad => rw [q] at o; exact o
    | next s1 M1 => rw [q] at o; exact fun σ' H' r' g R' S' => ⟨B, r', M1, s1, R', S', o.grow g⟩
    | ret v M1 => rw [q] at o; exact o
    | exc k s1 M1 => rw [q] at o; exact o⟩
/-! a list's item is stored; a list grows -/
theorem ix_eq : @Gv.ixN = @L2.ixN := rfl
theorem vrs_set {K : PySem.W.Frag} {B r : List Addr} {H : Hp} {u : V} {v : Val} (hv : VR K cl B r H u v) : ∀ {xs : List V} {vs : List Val} (j : Nat), VRs K cl B r H xs vs → VRs K cl B r H (xs.set j u) (vs.set j v)
  | _, _, _, .nil => .nil
  | _, _, 0, .cons _ t => .cons hv t
  | _, _, j + 1, .cons a t => .cons a (vrs_set hv j t)
def sSetix (go gi ge : Slots → Store → R Val) : Slots → Store → SR := fun s M => (ge s M).toS s fun v M => (go s M).toS s fun x M => (gi s M).toS s fun y M => (match x, y with
      | .ref a, .d (.int k) => (match M[a]? with
        | some (.lst vs) => (match ixN vs.length k with | some j => .next s (M.set a (.lst (vs.set j v))) | none => .bad)
        | _ => .bad)
      | _, _ => .bad)
theorem ss_setix (he : SE X cl W e ge) (ho : SE X cl W o go) (hi : SE X cl W i gi) (h0 : ∀ v, assign (.Subscript o i p) X.env v = (do
      let ov ← holding [v] (eval o X.env)
      let iv ← holding [v, ov] (eval i X.env)
      standAt p
      holding [v, ov, iv] (setItem ov iv v)
      release [v, ov, iv] [])) (h1 : swapsWithSole [.Subscript o i p] e pos.line X.env = pure false) (h2 : swappedStores [.Subscript o i p] e X.env = pure none)
    (h3 : (assignEach [.Subscript o i p] X.env).map (·.2) = [assign (.Subscript o i p) X.env]) : SS X cl W (.Assign [.Subscript o i p] e pos) (sSetix go gi ge) :=
  PS.imp (ps_asg he (pg_sub ho hi set_list h0) h1 h2 h3) fun D σ H ⟨B, r, M, s, R, S, oo⟩ => ⟨B, r, M, s, R, S, OutS.step S oo fun u v r1 M1 H1 g1 R1 v1 o1 =>
    ⟨B, r1, M1, s, R1, S.mono g1, OutS.step (S.mono g1) o1 fun w x r2 M2 H2 g2 R2 v2 o2 =>
      ⟨B, r2, M2, s, R2, (S.mono g1).mono g2, OutS.step ((S.mono g1).mono g2) o2 fun z y r3 M3 H3 g3 R3 v3 o3 => by
        split at o3
        · split at o3
          · rename_i vs em
            split at o3
            · rename_i j ej
              obtain ⟨pa, rfl, hp⟩ := (v2.mono g3).atRef
              obtain rfl := v3.int
              obtain ⟨c', e1, hc⟩ := R3.mem hp
              rw [em] at e1
              cases e1
              cases hc with
              | lst h' l hs =>
                rename_i xs
                refine ⟨pa, xs, _, j, rfl, rfl, h', by rw [Paired.length hs]; exact ej, ?_⟩
                have gw : Grow r3 H3 r3 (upd H3 pa (.lst (xs.set j u))) := R3.growW hp
                have hu := ((v1.mono g2).mono g3).mono gw
                exact o3.next gw (R3.write hp (.lst upd_same (by simpa using l) (vrs_set hu j (VRs.mono gw hs)))) ((((S.mono g1).mono g2).mono g3).mono gw)
            · exact o3.elim
          · exact o3.elim
        · exact o3.elim⟩⟩⟩
def sApp (go ge : Slots → Store → R Val) : Slots → Store → SR := fun s M => (go s M).toS s fun x M => (match x with
      | .ref a => (match M[a]? with
        | some (.lst _) => (ge s M).toS s fun v M => (match M[a]? with
          | some (.lst vs) => if vs.length < lim then .next s (M.set a (.lst (vs ++ [v]))) else .bad
          | _ => .bad)
        | _ => .bad)
      | _ => .bad)
theorem ss_app {apos cpos : Pos} (ho : SE X cl W o go) (he : SE X cl W e ge) (hb : attributeBase o "append" X.env (eval o X.env) = eval o X.env) (hl : (apos.endLine == cpos.line) = true) (hs : notStar e = true) (hw : swapsWith (.Call (.Attribute o "append" apos) [e] [] cpos) none pos.line X.env = pure false) :
    SS X cl W (.Expr (.Call (.Attribute o "append" apos) [e] [] cpos) pos) (sApp go ge) :=
  PS.imp (ps_expr (pe_bm PySem.F.plainAttrs_list PySem.F.slot_list_append PySem.F.type_list_append mt_append ho (pa_cons he pa_nil (star_cons hs)) hb (by
      rw [star_cons hs]; rfl) hl (star_cons hs) rfl) hw) fun D σ H ⟨B, r, M, s, R, S, oo⟩ => ⟨B, r, M, s, R, S, OutS.step S oo fun w x r1 M1 H1 g1 R1 v1 o1 => by
    split at o1
    · split at o1
      · rename_i em
        obtain ⟨pa, rfl, hp⟩ := v1.atRef
        obtain ⟨c', e1, hc⟩ := R1.mem hp
        rw [em] at e1
        cases e1
        cases hc with
        | lst h' l hs =>
          refine ⟨.inl ⟨rfl, _, .inl (.inl h')⟩, B, r1, M1, s, R1, S.mono g1, OutS.step (S.mono g1) o1 fun u v r2 M2 H2 g2 R2 v2 o2 => ?_⟩
          split at o2
          · rename_i vs em2
            split at o2
            · rename_i hlt
              obtain ⟨pb, eb, hp2⟩ := ((VR.ref hp : VR X.K cl B r1 H1 _ _).mono g2).atRef
              cases eb
              obtain ⟨c2, e2, hc2⟩ := R2.mem hp2
              rw [em2] at e2
              cases e2
              cases hc2 with
              | lst h2 l2 hs2 =>
                rename_i xs2
                refine ⟨pa, xs2, u, rfl, rfl, h2, by rw [Paired.length hs2, ← lim_eq]; exact hlt, ?_⟩
                have gw : Grow r2 H2 r2 (upd H2 pa (.lst (xs2 ++ [u]))) := R2.growW hp2
                exact o2.next gw (R2.write hp2 (.lst upd_same (by simp; omega) (paired_snoc (v2.mono gw) (VRs.mono gw hs2)))) (((S.mono g1).mono g2).mono gw)
            · exact o2.elim
          · exact o2.elim
      · exact o1.elim
    · exact o1.elim⟩
end
end Gv

namespace Gv
open PySem PySem.Spec L2

section
variable {X : Cx} {cl : Nat → Addr} {W : WX} {c iter tg : Expr} {gc : Slots → Store → R Val} {gi : Slots → Store → R Src} {pos : Pos} {gb : Slots → Store → SR} {body : List Stmt} {t : Tg}
theorem wipeS_len (s : Slots) : ∀ vs : List Nat, (wipe s vs).length = s.length
  | [] => rfl
  | v :: vs => by
    unfold wipe
    rw [List.length_set]
    exact wipeS_len s vs
theorem wipeS_get {s : Slots} {i : Nat} {v : Val} : ∀ {vs : List Nat}, (wipe s vs)[i]? = some (some v) → s[i]? = some (some v)
  | [], e => e
  | w :: vs, e => by
    unfold wipe at e
    by_cases h : w = i
    · subst h
      by_cases hl : w < (wipe s vs).length
      · rw [List.getElem?_set_self hl] at e
        cases e
      · rw [List.getElem?_eq_none (by rw [List.length_set]; omega)] at e
        cases e
    · rw [List.getElem?_set_ne h] at e
      exact wipeS_get e
theorem SRel.kill {K : PySem.W.Frag} {cl : Nat → Addr} {B r : List Addr} {H : Hp} {σ : L2.St} {s : Slots} (S : SRel K cl B r H σ s) (kl : List Nat) : SRel K cl B r H σ (Gv.wipe s kl) :=
  ⟨by rw [wipeS_len]; exact S.len, fun i v e => S.get i v (wipeS_get e)⟩
def sFor (t : Tg) (kl : List Nat) (gi : Slots → Store → R Src) (gb : Slots → Store → SR) : Slots → Store → SR := fun s M => (match gi s M with
      | .ok vs M => forT gb t kl vs (wipe s kl) M
      | .exc c M => .exc c s M
      | .bad => .bad)
theorem ss_for {kl : List Nat} (hp : PassesOwn (model X.prog X.w) X.A X.env X.xe) (hc : X.calm = true) (hi : SI X cl W tg iter gi) (hg : SG X cl tg t) (hb : SSs X cl W body gb) (hf : ∀ x, foldedSetIterable iter X.env x = pure x) :
    SS X cl W (.For tg iter body [] pos) (sFor t kl gi gb) :=
  PS.imp (ps_for hp hc hi hg hb hf) fun D σ H ⟨B, r, M, s, R, S, o⟩ => by
    refine ⟨B, r, M, s, R, S, ?_⟩
    unfold sFor at o
    cases q : gi s M with
    | bad => rw [q] at o; exact o
    | exc k M' => rw [q] at o; exact fun H' r' g R' => o σ H' r' g R' (S.mono g)
    | ok src M1 =>
      rw [q] at o
      intro J H1 r1 g1 R1 it1
      cases src with
      | zc ds n =>
        refine ⟨fun i m σ H => ∃ rr MM ss, Rel X.K cl B rr MM H ∧ SRel X.K cl B rr H σ ss ∧ ItR X.K cl B rr H J (.zc ds n) ∧ OutS X.K cl W B rr H (forZ gb t kl ds n m i ss MM) D, ⟨ds.length + 1, r1, M1, wipe s kl, R1, (S.kill kl).mono g1, it1, OutS.grow (x := forZ gb t kl ds n (ds.length + 1) 0 (wipe s kl) M1) o g1⟩, ?_⟩
        rintro i m σ2 H2 ⟨rr, MM, ss, R2, S2, it2, o2⟩
        cases m with
        | zero => exact o2.elim
        | succ f =>
          unfold forZ at o2
          split at o2
          · exact o2.elim
          · rename_i ec
            exact .inl ⟨zc_stop R2 it2 ec (.inl rfl), OutS.next o2 .refl R2 S2⟩
          · rename_i v ec
            split at o2
            · rename_i ed
              exact .inl ⟨zc_stop R2 it2 ec (.inr ed), OutS.next o2 .refl R2 S2⟩
            · rename_i d ed
              split at o2
              · rename_i is _
                refine .inr ⟨zc_go R2 it2 ec ed, fun σ' H' => ∃ rr MM ss, Rel X.K cl B rr MM H' ∧ SRel X.K cl B rr H' σ' ss ∧ ItR X.K cl B rr H' J (.zc ds n) ∧ OutS X.K cl W B rr H' (forZ gb (.many is) kl ds n f (i + 1) ss MM) D, fun σ' H' h => ⟨f, Nat.lt_succ_self _, h⟩, fun x H' y => ?_⟩
                split at o2
                · exact o2.elim
                · rename_i s1 e1
                  obtain ⟨gy, Ry, vx⟩ := zc_yld R2 it2 ec ed e1 y
                  refine ⟨B, rr, MM, ss, s1, Ry, S2.mono gy, vx, fun σ' S' _ _ => ⟨B, rr, MM, s1, Ry, S', ?_⟩⟩
                  have o3 := o2.grow gy
                  cases qb : gb s1 MM with
                  | bad => rw [qb] at o3; exact o3
                  | ret v M4 => rw [qb] at o3; exact o3
                  | exc k s4 M4 => rw [qb] at o3; exact o3
                  | next s4 M4 =>
                    rw [qb] at o3
                    exact fun σ4 H4 r4 g4 R4 S4 => ⟨r4, M4, wipe s4 kl, R4, S4.kill kl, (it2.mono gy).mono g4, OutS.grow (x := forZ gb (.many is) kl ds n f (i + 1) (wipe s4 kl) M4) o3 g4⟩
              · exact o2.elim
      | cel n en =>
        obtain ⟨a, rfl, hp⟩ := it1.cels
        refine ⟨fun i m σ H => ∃ rr MM ss, Rel X.K cl B rr MM H ∧ SRel X.K cl B rr H σ ss ∧ rr[n]? = some a ∧ OutS X.K cl W B rr H (forC gb t kl n en m i ss MM) D, ⟨lenCel M1 n, r1, M1, wipe s kl, R1, (S.kill kl).mono g1, hp, OutS.grow (x := forC gb t kl n en (lenCel M1 n) 0 (wipe s kl) M1) o g1⟩, ?_⟩
        rintro i m σ2 H2 ⟨rr, MM, ss, R2, S2, hp2, o2⟩
        cases m with
        | zero => exact o2.elim
        | succ f =>
          unfold forC at o2
          split at o2
          · exact o2.elim
          · rename_i ec
            exact .inl ⟨cel_stop R2 hp2 ec, OutS.next o2 .refl R2 S2⟩
          · rename_i v ec
            refine .inr ⟨(cel_go R2 hp2 ec).1, fun σ' H' => ∃ rr MM ss, Rel X.K cl B rr MM H' ∧ SRel X.K cl B rr H' σ' ss ∧ rr[n]? = some a ∧ OutS X.K cl W B rr H' (forC gb t kl n en f (i + 1) ss MM) D, fun σ' H' h => ⟨f, Nat.lt_succ_self _, h⟩, fun x H' y => ?_⟩
            split at o2
            · exact o2.elim
            · rename_i s1 e1
              obtain ⟨gy, Ry, vx⟩ := cel_yld R2 hp2 ec e1 y
              refine ⟨B, rr, MM, ss, s1, Ry, S2.mono gy, vx, fun σ' S' _ _ => ⟨B, rr, MM, s1, Ry, S', ?_⟩⟩
              have o3 := o2.grow gy
              cases qb : gb s1 MM with
              | bad => rw [qb] at o3; exact o3
              | ret v M4 => rw [qb] at o3; exact o3
              | exc k s4 M4 => rw [qb] at o3; exact o3
              | next s4 M4 =>
                rw [qb] at o3
                exact fun σ4 H4 r4 g4 R4 S4 => ⟨r4, M4, wipe s4 kl, R4, S4.kill kl, g4.at_ hp2, OutS.grow (x := forC gb t kl n en f (i + 1) (wipe s4 kl) M4) o3 g4⟩
      | vs items =>
        refine ⟨fun i m σ H => m = items.length - i ∧ i ≤ items.length ∧ ∃ rr MM ss, Rel X.K cl B rr MM H ∧ SRel X.K cl B rr H σ ss ∧ ItR X.K cl B rr H J (.vs items) ∧ OutS X.K cl W B rr H (forL gb t kl (items.drop i) ss MM) D,
          ⟨_, rfl, Nat.zero_le _, r1, M1, wipe s kl, R1, (S.kill kl).mono g1, it1, OutS.grow (x := forL gb t kl items (wipe s kl) M1) o g1⟩, ?_⟩
        rintro i m σ2 H2 ⟨rfl, hle, rr, MM, ss, R2, S2, it2, o2⟩
        by_cases hlt : i < items.length
        · refine .inr ⟨it2.go hlt, fun σ' H' => i + 1 ≤ items.length ∧ ∃ rr MM ss, Rel X.K cl B rr MM H' ∧ SRel X.K cl B rr H' σ' ss ∧ ItR X.K cl B rr H' J (.vs items) ∧ OutS X.K cl W B rr H' (forL gb t kl (items.drop (i + 1)) ss MM) D,
            fun σ' H' h => ⟨items.length - (i + 1), by omega, rfl, h⟩, fun x H' y => ?_⟩
          have hv : items[i]? = some items[i] := by simp [hlt]
          obtain ⟨gy, Ry, vx, _⟩ := it2.yld R2 hv y
          rw [List.drop_eq_getElem_cons hlt] at o2
          unfold forL at o2
          split at o2
          · exact o2.elim
          · rename_i s1 e1
            refine ⟨B, rr, MM, ss, s1, Ry, S2.mono gy, .inl ⟨_, vx, e1⟩, fun σ' S' _ _ => ⟨B, rr, MM, s1, Ry, S', ?_⟩⟩
            have o3 := o2.grow gy
            cases qb : gb s1 MM with
            | bad => rw [qb] at o3; exact o3
            | ret v M4 => rw [qb] at o3; exact o3
            | exc k s4 M4 => rw [qb] at o3; exact o3
            | next s4 M4 =>
              rw [qb] at o3
              exact fun σ4 H4 r4 g4 R4 S4 => ⟨hlt, r4, M4, wipe s4 kl, R4, S4.kill kl, (it2.mono gy).mono g4, OutS.grow (x := forL gb t kl (items.drop (i + 1)) (wipe s4 kl) M4) o3 g4⟩
        · have : i = items.length := by omega
          subst this
          rw [List.drop_length] at o2
          exact .inl ⟨it2.stop, OutS.next o2 .refl R2 S2⟩
theorem ss_while {wf : Nat} {kl : List Nat} (hp : PassesOwn (model X.prog X.w) X.A X.env X.xe) (hc : ST X cl W c gc) (hb : SSs X cl W body gb) : SS X cl W (.While c body [] pos) (fun s M => whileL gc gb kl wf (wipe s kl) M) :=
  PS.imp (ps_while hp hc hb) fun D σ H ⟨B, r, M, s, R, S, o⟩ => by
    refine ⟨fun m σ H => ∃ B r M s, Rel X.K cl B r M H ∧ SRel X.K cl B r H σ s ∧ OutS X.K cl W B r H (whileL gc gb kl m s M) D, ⟨wf, B, r, M, wipe s kl, R, S.kill kl, o⟩, ?_⟩
    clear R S o
    rintro m σ H ⟨B, r, M, s, R, S, o⟩
    cases m with
    | zero => exact o.elim
    | succ n =>
      refine ⟨B, r, M, s, R, S, ?_⟩
      unfold whileL at o
      split at o
      · rename_i M1 ec
        rw [ec]
        intro u H1 r1 g1 R1 v1
        refine ⟨true, rfl, ?_⟩
        dsimp only
        rw [if_pos rfl]
        refine ⟨fun σ' H' => ∃ B r M s, Rel X.K cl B r M H' ∧ SRel X.K cl B r H' σ' s ∧ OutS X.K cl W B r H' (whileL gc gb kl n s M) D, fun σ' H' h => ⟨n, Nat.lt_succ_self n, h⟩, B, r1, M1, s, R1, S.mono g1, ?_⟩
        have o3 := o.grow g1
        cases qb : gb s M1 with
        | bad => rw [qb] at o3; exact o3
        | ret v M4 => rw [qb] at o3; exact o3
        | exc k s4 M4 => rw [qb] at o3; exact o3
        | next s4 M4 =>
          rw [qb] at o3
          exact fun σ4 H4 r4 g4 R4 S4 => ⟨B, r4, M4, wipe s4 kl, R4, S4.kill kl, OutS.grow (x := whileL gc gb kl n (wipe s4 kl) M4) o3 g4⟩
      · rename_i M1 ec
        rw [ec]
        intro u H1 r1 g1 R1 v1
        refine ⟨false, rfl, ?_⟩
        dsimp only
        rw [if_neg Bool.false_ne_true]
        exact OutS.next o g1 R1 (S.mono g1)
      · rename_i k M1 ec
        rw [ec]
        exact fun H' r' g R' => o σ H' r' g R' (S.mono g)
      · exact o.elim
end

/-! ### what leaves a def -/
section
variable {K : PySem.W.Frag} {cl : Nat → Addr} {B r e : List Addr} {H : Hp} {M : Store}
mutual
theorem DR.trunc : ∀ {x : V} {d : PyData}, DR B (r ++ e) H x d → DR B r H x d
  | _, _, .non => .non
  | _, _, .bl b => .bl b
  | _, _, .int i => .int i
  | _, _, .str x => .str x
  | _, _, .lst h n1 n2 l hs => .lst h n1 (fun z => n2 (List.mem_append_left _ z)) l (DRs.trunc hs)
  | _, _, .tup h l hs => .tup h l (DRs.trunc hs)
theorem DRs.trunc : ∀ {xs : List V} {ds : List PyData}, DRs B (r ++ e) H xs ds → DRs B r H xs ds
  | _, _, .nil => .nil
  | _, _, .cons a b => .cons (DR.trunc a) (DRs.trunc b)
end
theorem VR.trunc {x : V} {v : Val} (h : VR K cl B (r ++ e) H x v) (hb : below r.length v = true) : VR K cl B r H x v := by
  cases h with
  | d h => exact .d h.trunc
  | ref h =>
    have hn := of_decide_eq_true hb
    rw [List.getElem?_append_left hn] at h
    exact .ref h
  | exc h n1 n2 => exact .exc h n1 (fun z => n2 (List.mem_append_left _ z))
  | scr h =>
    rcases h with ⟨h, n1, n2⟩ | h
    · exact .scr (.inl ⟨h, n1, fun z => n2 (List.mem_append_left _ z)⟩)
    · exact .scr (.inr h)
theorem VRs.trunc : ∀ {xs : List V} {vs : List Val}, VRs K cl B (r ++ e) H xs vs → vs.all (below r.length) = true → VRs K cl B r H xs vs
  | _, _, .nil, _ => .nil
  | _, _, .cons a t, h => by
    simp only [List.all_cons, Bool.and_eq_true] at h
    exact .cons (a.trunc h.1) (VRs.trunc t h.2)
theorem paired_trunc {α β : Type} {P : α → β → Prop} : ∀ {xs : List (α × V)} {ys : List (β × Val)}, Paired (fun (p : α × V) (q : β × Val) => P p.1 q.1 ∧ VR K cl B (r ++ e) H p.2 q.2) xs ys → (ys.all fun p => below r.length p.2) = true → Paired (fun (p : α × V) (q : β × Val) => P p.1 q.1 ∧ VR K cl B r H p.2 q.2) xs ys
  | _, _, .nil, _ => .nil
  | _, _, .cons a t, h => by
    simp only [List.all_cons, Bool.and_eq_true] at h
    exact .cons ⟨a.1, a.2.trunc h.1⟩ (paired_trunc t h.2)
theorem Rel.trunc (R : Rel K cl B (r ++ e) M H) (hb : (M.take r.length).all (Cell.below r.length) = true) : Rel K cl B r (M.take r.length) H := by
  have hl : r.length ≤ M.length := by rw [← R.len]; simp
  refine ⟨by simp; omega, (List.nodup_append.mp R.nd).1, fun a h => R.blk a (List.mem_append_left _ h), R.bs, fun n c a e1 e2 => ?_⟩
  have hn : n < r.length := (List.getElem?_eq_some_iff.mp e2).1
  have hc : Cell.below r.length c = true := List.all_eq_true.mp hb c (List.mem_of_getElem? e1)
  have e1' : M[n]? = some c := by rw [List.getElem?_take_of_lt hn] at e1; exact e1
  have h := R.cell n c a e1' (by rw [List.getElem?_append_left hn]; exact e2)
  cases h with
  | lst h l hs => exact .lst h l (VRs.trunc hs hc)
  | dK h l hs => exact .dK h l (paired_trunc (P := fun (k : Key) (q : KK) => q = .inl k) hs hc)
  | dT h l hs => exact .dT h l (paired_trunc (P := fun (k : List Key) (q : KK) => q = .inr k) hs hc)
  | ins h ho nb nr ci hs => exact .ins h ho nb (fun z => nr (List.mem_append_left _ z)) ci (paired_trunc (P := FldIs) hs hc)
  | tup h l hs => exact .tup h l (VRs.trunc hs hc)
theorem mapM_dr {f : Val → Option PyData} (hf : ∀ x v d, VR K cl B (r ++ e) H x v → f v = some d → DR B r H x d) : ∀ {xs : List V} {vs : List Val} {ds : List PyData}, VRs K cl B (r ++ e) H xs vs → vs.mapM f = some ds → DRs B r H xs ds
  | _, _, _, .nil, q => by simp at q; subst q; exact .nil
  | _, _, ds, .cons (a := x) (b := v) h t, q => by
    rw [List.mapM_cons] at q
    cases e1 : f v with
    | none => simp [e1] at q
    | some d =>
      rename_i vs
      cases e2 : List.mapM f vs with
      | none => simp [e1, e2] at q
      | some ds' =>
        simp [e1, e2] at q
        subst q
        exact .cons (hf _ _ _ h e1) (mapM_dr hf t e2)
theorem frz_dr (R : Rel K cl B (r ++ e) M H) : ∀ (n : Nat) (x : V) (v : Val) (d : PyData), VR K cl B (r ++ e) H x v → frz r.length n M v = some d → DR B r H x d
  | n, x, .d y, d, h, q => by
    have e' : y = d := by cases n <;> simpa [frz] using q
    subst e'
    exact h.inv.trunc
  | 0, x, .ref a, d, h, q => by simp [frz] at q
  | n + 1, x, .ref a, d, h, q => by
    obtain ⟨p, rfl, hp⟩ := h.atRef
    obtain ⟨c, e1, hc⟩ := R.mem hp
    simp only [frz] at q
    split at q
    · cases q
    · rename_i hna
      cases hc with
      | lst h' l hs =>
        rw [e1] at q
        simp only [Option.map_eq_some_iff] at q
        obtain ⟨ds, e2, rfl⟩ := q
        have hd := mapM_dr (fun x v d hv hd => frz_dr R n x v d hv hd) hs e2
        refine .lst h' (R.blk p (List.mem_of_getElem? hp)) (fun z => ?_) ?_ hd
        · obtain ⟨m, hm⟩ := List.getElem?_of_mem z
          have hm1 : m < r.length := (List.getElem?_eq_some_iff.mp hm).1
          have hm2 : (r ++ e)[m]? = some p := by rw [List.getElem?_append_left hm1]; exact hm
          obtain ⟨g1, q1⟩ := List.getElem?_eq_some_iff.mp hm2
          obtain ⟨g2, q2⟩ := List.getElem?_eq_some_iff.mp hp
          have := (List.getElem_inj R.nd).mp (q1.trans q2.symm)
          omega
        · rw [← hd.length, Paired.length hs]; exact l
      | dK h' l hs => rw [e1] at q; cases q
      | dT h' l hs => rw [e1] at q; cases q
      | ins h' ho nb nr ci hs => rw [e1] at q; cases q
      | tup h' l hs =>
        rw [e1] at q
        simp only [Option.map_eq_some_iff] at q
        obtain ⟨ds, e2, rfl⟩ := q
        have hd := mapM_dr (fun x v d hv hd => frz_dr R n x v d hv hd) hs e2
        exact .tup h' (by rw [← hd.length, Paired.length hs]; exact l) hd
  | 0, x, .exc c, d, h, q => by simp [frz] at q
  | n + 1, x, .exc c, d, h, q => by simp [frz] at q
  | 0, x, .scr c, d, h, q => by simp [frz] at q
  | n + 1, x, .scr c, d, h, q => by simp [frz] at q
theorem Grow.trunc {H0 : Hp} (g : Grow r H0 (r ++ e) H) : Grow r H0 r H := ⟨⟨[], by simp⟩, g.keep, fun _ h => .inl h, g.some, g.tup⟩
end
section
variable {K : PySem.W.Frag} {cl : Nat → Addr} {B r r' : List Addr} {H H' : Hp} {M M' : Store} {W : WX} {σ : L2.St} {Q : VK} {E : XK}
theorem exit_ok {u : V} {v : Val} (R : Rel K cl B r M H) (o : Out K cl (VR K cl B) W σ B r H (exitV M.length v M') (KQ Q)) (g : Grow r H r' H') (R' : Rel K cl B r' M' H') (hv : VR K cl B r' H' u v) : Q u H' := by
  obtain ⟨e, rfl⟩ := id g.pre
  rw [← R.len] at o
  unfold exitV at o
  split at o
  · rename_i hc
    split at o
    · rename_i a
      split at o
      · rename_i ha
        exact o u H' r g.trunc (R'.trunc hc) (hv.trunc (decide_eq_true ha))
      · split at o
        · rename_i x ef
          exact o u H' r g.trunc (R'.trunc hc) (.d (frz_dr R' 8 u _ x hv ef))
        · exact o u H' _ g R' hv
    · rename_i hn
      refine o u H' r g.trunc (R'.trunc hc) (hv.trunc ?_)
      cases v with
      | ref a => exact absurd rfl (hn a)
      | _ => rfl
  · exact o u H' _ g R' hv
theorem exitX_ok {c : Nat} (R : Rel K cl B r M H) (o : Out K cl (VR K cl B) W σ B r H (exitX M.length c M') (KQ Q)) (g : Grow r H r' H') (R' : Rel K cl B r' M' H') : W (xv cl c) none σ H' := by
  obtain ⟨e, rfl⟩ := id g.pre
  rw [← R.len] at o
  unfold exitX at o
  split at o
  · rename_i hc
    exact o H' r g.trunc (R'.trunc hc)
  · exact o H' _ g R'
theorem fin_ok {x : SR} (R : Rel K cl B r M H) (o : Out K cl (VR K cl B) (fun c d _ H => E c d H) [] B r H (fin M.length x) (KQ Q)) : OutS K cl (fun c d _ H => E c d H) B r H x { nx := fun _ H' => Q .non H', rt := Q } := by
  cases x with
  | bad => exact o
  | next s M' => exact fun σ' H' r' g R' S' => exit_ok R o g R' (.d .non)
  | ret v M' => exact fun u H' r' g R' hv => exit_ok R o g R' hv
  | exc c s M' => exact fun σ' H' r' g R' S' => exitX_ok R o g R'
theorem finB_ok {kp : Bool} {x : SR} (R : Rel K cl B r M H) (o : Out K cl (VR K cl B) (fun c d _ H => E c d H) [] B r H (finB kp M.length x) (KQ Q)) : OutS K cl (fun c d _ H => E c d H) B r H x { nx := fun _ H' => Q .non H', rt := Q } := by
  cases kp with
  | false => exact fin_ok R o
  | true =>
    cases x with
    | bad => exact o
    | next s M' => exact fun σ' H' r' g R' S' => o .non H' r' g R' (.d .non)
    | ret v M' => exact fun u H' r' g R' hv => o u H' r' g R' hv
    | exc c s M' => exact fun σ' H' r' g R' S' => o H' r' g R'
theorem start_ok {us : List V} {vs : List Val} {N : List Str} (h : VRs K cl B r H us vs) : SRel K cl B r H (L2.start N us) (vs.map some ++ List.replicate (N.length - vs.length) none) := by
  have hl := Paired.length h
  refine ⟨by simp [L2.start, hl], fun i v e => ?_⟩
  by_cases hi : i < vs.length
  · rw [List.getElem?_append_left (by simpa using hi), List.getElem?_map, Option.map_eq_some_iff] at e
    obtain ⟨w, e1, e2⟩ := e
    cases e2
    obtain ⟨x, ex, hx⟩ := paired_get h e1
    refine ⟨x, ?_, hx⟩
    unfold L2.start
    rw [List.getElem?_append_left (by simp; omega), List.getElem?_map, ex]
    rfl
  · rw [List.getElem?_append_right (by simp; omega)] at e
    have := List.mem_of_getElem? e
    simp at this
end
/-- a def, by its body's evaluator -/
theorem fn_ok {P : Program} {w : World} {K : PySem.W.Frag} {mg : Str → Option Value} {base : Heap} {cl : Nat → Addr} {k : Nat} {f : Addr} {name qual : Str} {params : Arguments} {body : List Stmt} {scope : Scope} {dV kV doc pm cdv ct oc : Value} {an od : Option Addr}
    {osl : Array (Option Value)} {N ps : List Str} {gb : Slots → Store → SR} {g : List Val → Store → R Val} {kp : Bool}
    (lk : K.lookup f = some ⟨oc, od, .func (PySem.W.fnOf name qual params body scope dV kV doc pm an cdv ct), osl⟩) (hcd : PySem.W.codeIn K cdv qual = true) (S : FnScope N ps scope)
    (hg : ∀ vs M, vs.length = ps.length → g vs M = finB kp M.length (gb (vs.map some ++ List.replicate (N.length - vs.length) none) M))
    (hb : ∀ (A : Around) (outer : List Env) (s : Shared) (H : Hp) (E : XK), Room k (A.deeper (PyProof.Rows.envOfC qual scope s.heap.objs.size f cdv)) →
      SSs (cxOf (CXb P w) P w K mg base N qual scope f cdv A outer s H E) cl (fun c d _ H => E c d H) body gb) :
    FnOk P w K mg base (CXb P w) (k + 1) f (PySem.W.fnOf name qual params body scope dV kV doc pm an cdv ct) ps (spF K cl ps.length g) := by
  refine fn_of lk hcd S (fun vs H Q E h => h.1) fun A outer s H us Q E hr hsp => ?_
  obtain ⟨hl, B, r, M, vs, R, hv, o⟩ := hsp
  refine ⟨_, hb A outer s H E hr, B, r, M, _, R, start_ok (N := N) hv, ?_⟩
  rw [hg vs M (by rw [← Paired.length hv]; exact hl)] at o
  exact finB_ok R o
end Gv

namespace Gv
open PySem PySem.Spec PyProof.Rows L2
section
variable {prog : Program} {w : World} {A : Around} {E : Value → Shared → Prop} {s : Shared}
theorem rev_adjust (n : Nat) : Builtin.Slice.sliceAdjust none none (-1) (n : Int) = ((n : Int) - 1, -1) := by
  unfold Builtin.Slice.sliceAdjust
  simp only [show ((-1 : Int) < 0) from by decide, if_true]
theorem rev_places (n : Nat) : Builtin.Slice.slicePlaces ((n : Int) - 1) (-1) (-1) = n := by
  unfold Builtin.Slice.slicePlaces
  have h1 : ¬ ((-1 : Int) > 0) := by decide
  simp only [h1, if_false, Int.neg_neg, Int.ediv_one]
  split <;> omega
theorem rev_pick (its : List Value) : ((List.range its.length).filterMap fun (m : Nat) => its.toArray[(((its.length : Int) - 1) + (m : Int) * (-1)).toNat]?) = its.reverse := by
  have h : ∀ n, n ≤ its.length → ((List.range n).filterMap fun (m : Nat) => its.toArray[(((its.length : Int) - 1) + (m : Int) * (-1)).toNat]?) = its.reverse.take n := by
    intro n
    induction n with
    | zero => intro _; simp
    | succ n ih =>
      intro hn
      rw [List.range_succ, List.filterMap_append, ih (by omega)]
      have e : (((its.length : Int) - 1) + (n : Int) * (-1)).toNat = its.length - 1 - n := by omega
      have hlt : its.length - 1 - n < its.length := by omega
      have q : its.toArray[its.length - 1 - n]? = some its[its.length - 1 - n] := by simp [hlt]
      have q2 : its.reverse[n]? = some its[its.length - 1 - n] := by
        rw [List.getElem?_reverse (by omega)]; simp [hlt]
      simp only [List.filterMap_cons, List.filterMap_nil, e, q]
      rw [List.take_add_one, q2]
      rfl
  have := h its.length (Nat.le_refl _)
  rw [this, ← List.length_reverse, List.take_length]
theorem rev_applied {sl : Addr} {vl vu vs : Value} {n : Nat} {Q : Int × Int × Nat → Shared → Prop} (hs : s.heap.IsSliceOf sl vl vu vs) (pl : IsPart vl none) (pu : IsPart vu none) (ps : IsPart vs (some (-1)))
    (h : Q ((n : Int) - 1, -1, n) s) : wpAny (model prog w) A (Builtin.Slice.sliceApplied (.ref sl) (pure (n : Int))) Q E s := by
  obtain ⟨os, hos, hcs, hds⟩ := id hs
  unfold Builtin.Slice.sliceApplied Builtin.Slice.sliceFields
  refine wpAny_bind (wpAny_bind (wpAny_field hos hds (x := vl) rfl (wpAny_bind (wpAny_field hos hds (x := vu) rfl (wpAny_bind (wpAny_field hos hds (x := vs) rfl (wpAny_pure ?_)))))))
  refine wpAny_bind (HT.slicePart_ ps ?_)
  show wpAny _ _ (if ((-1 : Int) == 0) = true then _ else _) _ _ s
  rw [if_neg (by decide)]
  refine wpAny_bind (HT.slicePart_ pl (wpAny_bind (HT.slicePart_ pu (wpAny_bind (wpAny_pure ?_)))))
  show wpAny _ _ (match Builtin.Slice.sliceAdjust none none (-1) (n : Int) with | (lo, hi) => pure (lo, (-1 : Int), Builtin.Slice.slicePlaces lo hi (-1))) _ _ s
  rw [rev_adjust n]
  show wpAny _ _ (pure ((n : Int) - 1, (-1 : Int), Builtin.Slice.slicePlaces ((n : Int) - 1) (-1) (-1))) _ _ s
  rw [rev_places]
  exact wpAny_pure h
theorem getItem_tuple_rev {t sl : Addr} {its : List Value} {vl vu vs : Value} {Q : Value → Shared → Prop} (ht : IsTup s.heap t its.toArray) (hs : s.heap.IsSliceOf sl vl vu vs) (pl : IsPart vl none) (pu : IsPart vu none) (ps : IsPart vs (some (-1)))
    (h : Q (.ref s.heap.objs.size) { s with heap := s.heap.push { cls := .type "tuple", data := .seq its.reverse.toArray } }) (hsz : its.length ≤ sizeLine) :
    wpAny (model prog w) A (getItem (.ref t) (.ref sl)) Q E s := by
  have hok : sizeOk (.seq its.reverse.toArray) := by
    show its.reverse.toArray.size ≤ sizeLine
    simpa using hsz
  obtain ⟨os, hos, hcs, hds⟩ := id hs
  have hTs : s.TypeIs (.ref sl) "slice" := ⟨os, hos, hcs⟩
  unfold getItem
  try with_reducible refine wpAny_holding ?_
  first | refine wpAny_bind (wpAny_pure ?_) | skip
  refine wpAny_bind (wpAny_sequenceKey ht.typeIs (by decide) ?_)
  refine wpAny_bind (wpAny_callSpecial?_slot (name := Str.ofString "__getitem__") ht.typeIs PyProof.Rows.slot_tuple_getitem
    (wpAny_call_entry PyProof.Rows.slot_tuple_getitem ht.typeIs entry_tuple_getitem ?_ (args_tuple_getitem _ _)))
  show wpAny _ _ (Builtin.Tuple.tupleItemsOf (.ref t) >>= _) _ _ s
  refine wpAny_bind (tupleItemsOf_ ht ?_)
  refine wpAny_bind (wpAny_typeOf hTs ?_)
  rw [if_pos (by decide)]
  refine wpAny_bind (rev_applied (n := its.toArray.size) hs pl pu ps ?_)
  show wpAny _ _ (if ((((its.toArray.size : Nat) : Int) - 1) == 0 && (-1 : Int) == 1 && its.toArray.size == its.toArray.size) = true then _ else _) _ _ s
  rw [if_neg (by simp)]
  have e : ((List.range its.toArray.size).filterMap fun (m : Nat) => its.toArray[((((its.toArray.size : Nat) : Int) - 1) + (m : Int) * (-1)).toNat]?) = its.reverse := by
    rw [List.size_toArray]; exact rev_pick its
  rw [e]
  first
    | exact wpAny_bind (m := Builtin.Tuple.tupleExact _) (wpAny_newObj_type (wpAny_pure ⟨_, rfl, wpAny_pure h⟩) hok)
    | exact wpAny_bind (m := Builtin.Tuple.tupleExact _) (wpAny_newObj_type (wpAny_bind (wpAny_pure (wpAny_pure ⟨_, rfl, wpAny_pure h⟩))) hok)
    | exact wpAny_bind (wpAny_bind (m := Builtin.Tuple.tupleExact _) (wpAny_newObj_type (wpAny_pure (wpAny_pure ⟨_, rfl, wpAny_pure h⟩)) hok))
    | exact wpAny_bind (wpAny_bind (m := Builtin.Tuple.tupleExact _) (wpAny_newObj_type (wpAny_pure ⟨_, rfl, wpAny_pure h⟩) hok))
end
section
variable {X : Cx} {cl : Nat → Addr} {W : WX} {e : Expr} {ge : Slots → Store → R Val} {k : Nat} {p1 p2 p3 pos : Pos}
def tRevT (K : PySem.W.Frag) (te : TE) : TE := fun σ H Q => te σ H fun x H1 => ∃ a xs, x = .ref a ∧ SqT K H1 a xs ∧ ∀ p, H1 p = none → Q (.ref p) (upd H1 p (.tup xs.reverse))
theorem pe_revT {te : TE} (he : PE X e te) : PE X (.Subscript e (.Slice none none (some (.UnaryOp .USub (.Constant (.int 1) k p1) p2)) p3) pos) (tRevT X.K te) := by
  refine ⟨fun pins s σ H Q I h => Subscript_ (thn (he.run pins s σ H _ I h) fun v s1 ⟨x, H1, I1, r1, q1⟩ => ?_)⟩
  obtain ⟨a, xs, ex, hx, q⟩ := q1
  subst ex
  cases r1
  have hst : PO X (some (.UnaryOp .USub (.Constant (.int 1) k p1) p2)) (tPart (tUn (rU fun i => .int (-i)) (tC (.int 1)))) := po_some (pe_un un_neg pe_int)
  refine wpAny_Slice (thn (po_none.run pins s1 σ H1 (fun o H2 => o = none ∧ H2 = H1) I1 ⟨rfl, rfl⟩) fun vl s2 ⟨l, H2, I2, pl, el, e2⟩ => ?_)
  subst el e2
  refine thn (po_none.run pins s2 σ H2 (fun o H3 => o = none ∧ H3 = H2) I2 ⟨rfl, rfl⟩) fun vu s3 ⟨u, H3, I3, pu, eu, e3⟩ => ?_
  subst eu e3
  refine thn (hst.run pins s3 σ H3 (fun o H4 => o = some (-1) ∧ H4 = H3) I3 ⟨1, rfl, -1, rfl, rfl, rfl⟩) fun vs s4 ⟨o, H4, I4, ps, eo, e4⟩ => ?_
  subst eo e4
  have I5 : L2.Inv X pins σ H4 { s4 with heap := s4.heap.push { cls := .type "slice", data := .fields #[vl, vu, vs] } } := I4.kept (t' := s4.toks) fun b ob q => Heap.get?_push_of_some _ q
  obtain ⟨its, r, ht, hz⟩ := I5.tuple hx
  have hlen := r.length
  show wpAny (model X.prog X.w) X.A (subscriptTail e (.Slice none none (some (.UnaryOp .USub (.Constant (.int 1) k p1) p2)) p3) (.ref a) (.ref s4.heap.objs.size)) (EP X pins σ Q) X.xe { s4 with heap := s4.heap.push { cls := .type "slice", data := .fields #[vl, vu, vs] } }
  refine tail_any (ops := [.ref a, .ref s4.heap.objs.size]) ht.typeIs (PyProof.Rows.slot_tuple_getitem.lookup) ?_ (by with_unfolding_all rfl)
  refine getItem_tuple_rev ht (Heap.IsSliceOf.new _ vl vu vs) pl pu ps ?_ (by omega)
  refine ⟨.ref _, _, I5.laid (t' := s4.toks) (o := .tup xs.reverse) (fun b ob q => Heap.get?_push_of_some _ q) (Nat.le_refl _) ?_, rfl, q _ (I5.hok.fresh (Nat.le_refl _))⟩
  exact ⟨by rw [List.length_reverse]; exact hz, _, r.reverse, _, Heap.get?_push_size _ rfl, rfl, 0, rfl⟩
theorem Out.grow {K : PySem.W.Frag} {cl : Nat → Addr} {α β : Type} {P : List Addr → Hp → β → α → Prop} {W : WX} {σ : L2.St} {B r r' : List Addr} {H H' : Hp} {x : Gv.R α} {k : β → α → List Addr → Store → Hp → Prop} (o : Out K cl P W σ B r H x k) (g : Grow r H r' H') : Out K cl P W σ B r' H' x k := by
  cases x with
  | bad => exact o
  | exc c M2 => exact fun H2 r2 g2 R2 => o H2 r2 (g.trans g2) R2
  | ok w M2 => exact fun u2 H2 r2 g2 R2 p2 => o u2 H2 r2 (g.trans g2) R2 p2
theorem PE.two {e : Expr} {t t' : TE} (h : PE X e t) (h' : PE X e t') : PE X e (fun σ H Q => t σ H Q ∨ t' σ H Q) :=
  ⟨fun pins s σ H Q I w => w.elim (h.run pins s σ H Q I) (h'.run pins s σ H Q I)⟩
theorem se_rev {al : Bool} (he : SE X cl W e ge) : SE X cl W (.Subscript e (.Slice none none (some (.UnaryOp .USub (.Constant (.int 1) k p1) p2)) p3) pos) (fun s M => (ge s M).bind fun x M => revD al M x) :=
  PE.imp (PE.two (pe_revT he) (pe_revL he)) fun σ H Q ⟨B, r, M, s, R, S, o⟩ => by
    dsimp only at o
    cases qa : ge s M with
    | bad => rw [qa] at o; exact o.elim
    | exc c M1 =>
      refine .inl ⟨B, r, M, s, R, S, ?_⟩
      rw [qa] at o ⊢
      exact o
    | ok v M1 =>
      by_cases ht : ∃ xs, v = .d (.tuple xs)
      · obtain ⟨xs, rfl⟩ := ht
        refine .inl ⟨B, r, M, s, R, S, ?_⟩
        rw [qa] at o ⊢
        intro u H' r' g R' p
        have o1 := Out.grow o g
        obtain ⟨a, xs, rfl, h, l, hd⟩ := p.tuple
        refine ⟨a, xs, rfl, .inl (.inl h), fun p hp => ?_⟩
        obtain ⟨_, _, _, q⟩ := Out.newT o1 R' hd.rev (by simpa using l) hp
        exact q
      · refine .inr ⟨B, r, M, s, R, S, ?_⟩
        have er : (Gv.R.ok v M1).bind (fun x M => revD al M x) = (match lstD M1 v with | some xs => mkL al xs.reverse M1 | none => .bad) := by
          show revD al M1 v = _
          unfold revD
          split
          · exact absurd ⟨_, rfl⟩ ht
          · rfl
        rw [qa, er] at o
        rw [qa]
        intro u H' r' g R' p
        have o1 := Out.grow o g
        split at o1
        · rename_i ds ed
          obtain ⟨a, xs, rfl, h, hd, l⟩ := VR.lstD R' p ed
          refine ⟨a, xs, rfl, .inl (.inl h), fun p hp => ?_⟩
          obtain ⟨_, _, _, q⟩ := Out.newL o1 R' hd.rev (by simpa using l) hp
          exact q
        · exact o1.elim
/-- list(range(..)) -/
theorem PRg.imp {te te' : L2.St → Hp → (Int → Int → Hp → Prop) → Prop} (h : PRg X e te) (i : ∀ σ H Q, te' σ H Q → te σ H Q) : PRg X e te' := fun pins s σ H Q I w => h pins s σ H Q I (i σ H Q w)
def lrD (al : Bool) (vs : List Val) (M : Store) : R Val := (match (rngD vs).bind allD with | some ds => mkL al ds M | none => .bad)
theorem allD_upTo (i : Int) (n : Nat) : allD (upTo i n) = some ((List.range n).map fun (k : Nat) => PyData.int (i + (k : Int))) := by
  unfold upTo
  rw [show ((List.range n).map fun (k : Nat) => Val.d (PyData.int (i + (k : Int)))) = ((List.range n).map fun (k : Nat) => PyData.int (i + (k : Int))).map Val.d from by simp [List.map_map, Function.comp_def]]
  exact allD_map _
theorem rg_drs {K : PySem.W.Frag} {B r : List Addr} {H : Hp} (a b : Int) : DRs B r H (rgV a b) ((List.range (b - a).toNat).map fun (k : Nat) => PyData.int (a + (k : Int))) := by
  unfold rgV
  generalize List.range (b - a).toNat = l
  induction l with
  | nil => exact .nil
  | cons x xs ih => exact .cons (.int _) ih
variable {a b : Expr} {ga gb : Slots → Store → R Val} {p q : Pos}
def trD (vs : List Val) (M : Store) : R Val := (match (rngD vs).bind allD with | some ds => .ok (.d (.tuple ds)) M | none => .bad)
theorem se_trng1 (hc : X.calm = true) (hg : Gl X "tuple") (hm : X.mg "tuple" = none) (hg2 : Gl X "range") (hm2 : X.mg "range" = none) (ha : SE X cl W a ga) (hs : notStar a = true) :
    SE X cl W (.Call (.Name "tuple" p) [.Call (.Name "range" p1) [a] [] p2] [] pos) (fun s M => (eCons ga eNil s M).bind fun vs M => trD vs M) :=
  PE.imp (pe_tupRg hc hg hm (prg_1 hg2 hm2 ha (star_cons hs)) (star_cons rfl)) fun σ H Q ⟨B, r, M, s, R, S, o⟩ => by
    refine ⟨B, r, M, s, R, S, ?_⟩
    dsimp only [eCons] at o
    cases eq : ga s M with
    | bad => rw [eq] at o; exact o
    | exc k M' => rw [eq] at o; exact o
    | ok v M1 =>
      rw [eq] at o
      simp only [Gv.R.bind_ok, eNil] at o
      intro u H1 r1 g1 R1 v1
      have o1 : Out X.K cl (VR X.K cl B) W σ B r1 H1 (trD [v] M1) (KQ Q) := by
        generalize trD [v] M1 = y at o ⊢
        cases y with
        | bad => exact o
        | exc c M2 => exact fun H2 r2 g2 R2 => o H2 r2 (g1.trans g2) R2
        | ok w M2 => exact fun u2 H2 r2 g2 R2 p2 => o u2 H2 r2 (g1.trans g2) R2 p2
      unfold trD rngD at o1
      split at o1
      · rename_i ds eds
        split at eds
        · rename_i j hj
          cases hj
          split at eds
          · rename_i hc
            simp only [Bool.and_eq_true, decide_eq_true_eq] at hc
            simp only [Option.bind_some, allD_upTo, Option.some.injEq] at eds
            refine ⟨j, v1.int, ⟨by decide, by decide, hc.2, by have := hc.1; omega, by have := hc.1; omega⟩, fun l hl => ?_⟩
            have hd := rg_drs (K := X.K) (B := B) (r := r1) (H := H1) 0 j
            rw [Int.sub_zero, eds] at hd
            obtain ⟨_, _, _, qq⟩ := Out.newT o1 R1 hd (by rw [← hd.length]; unfold rgV; simp; have := hc.1; unfold lim; omega) hl
            exact qq
          · cases eds
        · rename_i hj; cases hj
        · rename_i hj; cases hj
        · cases eds
      · exact o1.elim
theorem se_lrng1 {al : Bool} (hc : X.calm = true) (hg : Gl X "list") (hm : X.mg "list" = none) (hg2 : Gl X "range") (hm2 : X.mg "range" = none) (ha : SE X cl W a ga) (hs : notStar a = true) :
    SE X cl W (.Call (.Name "list" p) [.Call (.Name "range" p1) [a] [] p2] [] pos) (fun s M => (eCons ga eNil s M).bind fun vs M => lrD al vs M) :=
  PE.imp (pe_listRg hc hg hm (prg_1 hg2 hm2 ha (star_cons hs)) (star_cons rfl)) fun σ H Q ⟨B, r, M, s, R, S, o⟩ => by
    refine ⟨B, r, M, s, R, S, ?_⟩
    dsimp only [eCons] at o
    cases eq : ga s M with
    | bad => rw [eq] at o; exact o
    | exc k M' => rw [eq] at o; exact o
    | ok v M1 =>
      rw [eq] at o
      simp only [Gv.R.bind_ok, eNil] at o
      intro u H1 r1 g1 R1 v1
      have o1 : Out X.K cl (VR X.K cl B) W σ B r1 H1 (lrD al [v] M1) (KQ Q) := by
        generalize lrD al [v] M1 = y at o ⊢
        cases y with
        | bad => exact o
        | exc c M2 => exact fun H2 r2 g2 R2 => o H2 r2 (g1.trans g2) R2
        | ok w M2 => exact fun u2 H2 r2 g2 R2 p2 => o u2 H2 r2 (g1.trans g2) R2 p2
      unfold lrD rngD at o1
      split at o1
      · rename_i ds eds
        split at eds
        · rename_i j hj
          cases hj
          split at eds
          · rename_i hc
            simp only [Bool.and_eq_true, decide_eq_true_eq] at hc
            simp only [Option.bind_some, allD_upTo, Option.some.injEq] at eds
            refine ⟨j, v1.int, ⟨by decide, by decide, hc.2, by have := hc.1; omega, by have := hc.1; omega⟩, fun l hl => ?_⟩
            have hd := rg_drs (K := X.K) (B := B) (r := r1) (H := H1) 0 j
            rw [Int.sub_zero, eds] at hd
            obtain ⟨_, _, _, qq⟩ := Out.newL o1 R1 hd (by rw [← hd.length]; unfold rgV; simp; have := hc.1; unfold lim; omega) hl
            exact qq
          · cases eds
        · rename_i hj; cases hj
        · rename_i hj; cases hj
        · cases eds
      · exact o1.elim
theorem se_lrng2 {al : Bool} (hc : X.calm = true) (hg : Gl X "list") (hm : X.mg "list" = none) (hg2 : Gl X "range") (hm2 : X.mg "range" = none) (ha : SE X cl W a ga) (hb : SE X cl W b gb) (hs : notStar a = true) (hs2 : notStar b = true) :
    SE X cl W (.Call (.Name "list" p) [.Call (.Name "range" p1) [a, b] [] p2] [] pos) (fun s M => (eCons ga (eCons gb eNil) s M).bind fun vs M => lrD al vs M) :=
  PE.imp (pe_listRg hc hg hm (prg_2 hg2 hm2 ha hb (star_cons hs) (star_cons hs2) (star_all (by simp [hs2]))) (star_cons rfl)) fun σ H Q ⟨B, r, M, s, R, S, o⟩ => by
    refine ⟨B, r, M, s, R, S, ?_⟩
    dsimp only [eCons] at o
    cases eq : ga s M with
    | bad => rw [eq] at o; exact o
    | exc k M' => rw [eq] at o; exact o
    | ok v M1 =>
      rw [eq] at o
      simp only [Gv.R.bind_ok, eNil] at o
      intro u H1 r1 g1 R1 v1
      refine ⟨B, r1, M1, s, R1, S.mono g1, ?_⟩
      cases eq2 : gb s M1 with
      | bad => rw [eq2] at o; exact o
      | exc k M' => rw [eq2] at o; exact fun H2 r2 g2 R2 => o H2 r2 (g1.trans g2) R2
      | ok v' M2 =>
      rw [eq2] at o
      simp only [Gv.R.bind_ok] at o
      intro u' H2 r2 g2 R2 v2
      have o1 : Out X.K cl (VR X.K cl B) W σ B r2 H2 (lrD al [v, v'] M2) (KQ Q) := by
        generalize lrD al [v, v'] M2 = y at o ⊢
        cases y with
        | bad => exact o
        | exc c M3 => exact fun H3 r3 g3 R3 => o H3 r3 ((g1.trans g2).trans g3) R3
        | ok w M3 => exact fun u3 H3 r3 g3 R3 p3 => o u3 H3 r3 ((g1.trans g2).trans g3) R3 p3
      unfold lrD rngD at o1
      split at o1
      · rename_i ds eds
        split at eds
        · rename_i hj; cases hj
        · rename_i i j hj
          cases hj
          split at eds
          · rename_i hc
            simp only [Bool.and_eq_true, decide_eq_true_eq] at hc
            obtain ⟨⟨⟨⟨h1, h2⟩, h3⟩, h4⟩, h5⟩ := hc
            simp only [Option.bind_some, allD_upTo, Option.some.injEq] at eds
            refine ⟨i, j, v1.int, v2.int, ⟨h1, h2, h3, h4, by omega⟩, fun l hl => ?_⟩
            have hd := rg_drs (K := X.K) (B := B) (r := r2) (H := H2) i j
            rw [eds] at hd
            obtain ⟨_, _, _, qq⟩ := Out.newL o1 R2 hd (by rw [← hd.length]; unfold rgV; simp; unfold lim; omega) hl
            exact qq
          · cases eds
        · rename_i hj; cases hj
        · cases eds
      · exact o1.elim
end
end Gv

namespace Gv
open PySem PySem.Spec PyProof.Rows L2
section
variable {X : Cx} {cl : Nat → Addr} {W : WX} {o e : Expr} {es : List Expr} {go : Slots → Store → R Val} {gs : Slots → Store → R (List Val)} {apos cpos : Pos}
def eMt (al : Bool) (m : Mt) (go : Slots → Store → R Val) (gs : Slots → Store → R (List Val)) : Slots → Store → R Val := fun s M => (go s M).bind fun x M => if rcv M m x then (gs s M).bind fun vs M => mtD al m x vs M else .bad
def mtT (m : Mt) : String := match mtK m with | .l => "list" | .s => "str" | .d => "dict"
theorem mtT_plain (m : Mt) : PlainAttrs (mtT m) := by
  unfold mtT
  cases mtK m with
  | l => exact PySem.F.plainAttrs_list
  | s => exact PySem.F.plainAttrs_str
  | d => exact PySem.F.plainAttrs_dict
theorem isLst_ty {K : PySem.W.Frag} {B r : List Addr} {H : Hp} {M : Store} {x : V} {v : Val} (R : Rel K cl B r M H) (hv : VR K cl B r H x v) (h : isLst M v = true) : tyV K "list" x H := by
  unfold isLst at h
  split at h
  · obtain ⟨a, xs, rfl, hx, _⟩ := hv.list
    exact .inl ⟨rfl, _, .inl (.inl hx)⟩
  · obtain ⟨p, rfl, hp⟩ := hv.atRef
    obtain ⟨c, e1, hc⟩ := R.mem hp
    rw [e1] at h
    cases hc with
    | lst h' l hs => exact .inl ⟨rfl, _, .inl (.inl h')⟩
    | dK h' l hs => cases h
    | dT h' l hs => cases h
    | ins h' ho nb nr ci hs => cases h
    | tup h' l hs => cases h
  · cases h
theorem rcv_ty {K : PySem.W.Frag} {B r : List Addr} {H : Hp} {M : Store} {x : V} {v : Val} {m : Mt} (R : Rel K cl B r M H) (hv : VR K cl B r H x v) (h : rcv M m v = true) : tyV K (mtT m) x H := by
  unfold rcv at h
  unfold mtT
  generalize mtK m = k at h ⊢
  cases k with
  | l => exact isLst_ty R hv h
  | s =>
    have h : isStr v = true := h
    unfold isStr at h
    split at h
    · have e := hv.str
      subst e
      exact rfl
    · cases h
  | d =>
    have h : (dctAt M v).isSome = true := h
    unfold dctAt at h
    split at h
    · obtain ⟨p, rfl, hp⟩ := hv.atRef
      obtain ⟨c, e1, hc⟩ := R.mem hp
      rw [e1] at h
      cases hc with
      | lst h' l hs => cases h
      | dK h' l hs => exact .inr (.inr (.inl ⟨rfl, .inl ⟨_, h'⟩⟩))
      | dT h' l hs => exact .inr (.inr (.inl ⟨rfl, .inr ⟨_, h'⟩⟩))
      | ins h' ho nb nr ci hs => cases h
      | tup h' l hs => cases h
    · cases h
/-- a method of a list, by its rule -/
theorem se_mtA {al : Bool} {m : Mt} {name : Str} {id : String} {rr : V → List V → Hp → VK → Prop} (slot : Slot (mtT m) name id) (hty : typeOf (.builtin id) = pure (.type "method_descriptor")) (hm : MtR X id rr) (ho : SE X cl W o go) (ha : SA X cl W (e :: es) gs)
    (hk : ∀ (σ : L2.St) (B r : List Addr) (H : Hp) (M : Store) (Q : VK) (x : V) (v : Val) (us : List V) (vs : List Val), Rel X.K cl B r M H → VR X.K cl B r H x v → VRs X.K cl B r H us vs → Out X.K cl (VR X.K cl B) W σ B r H (mtD al m v vs M) (KQ Q) → rr x us H Q)
    (hb : attributeBase o name X.env (eval o X.env) = eval o X.env) (hl : (apos.endLine == cpos.line) = true) (hs : (e :: es).all notStar = true) (hn : (e :: es).length < 20) :
    SE X cl W (.Call (.Attribute o name apos) (e :: es) [] cpos) (eMt al m go gs) := by
  have hs' := hs
  simp only [List.all_cons, Bool.and_eq_true] at hs'
  have hall : (backTo cpos (starEach (e :: es) X.env)).all (fun x => !x.1) = true := by
    have := star_all (env := X.env) (pos := cpos) hs
    rw [List.any_eq_false] at this
    rw [List.all_eq_true]
    intro x hx
    simpa using this x hx
  refine PE.imp (pe_bm (mtT_plain m) slot hty hm ho ha hb (by
      rw [hall]
      have : decide ((e :: es).length + ([] : List Keyword).length + (if ([] : List Keyword).isEmpty then 0 else 1) < 30) = true := by
        rw [decide_eq_true_eq]
        simp
        simp at hn
        omega
      rw [this]
      rfl) hl (star_cons hs'.1) (star_all hs'.2)) fun σ H Q ⟨B, r, M, s, R, S, o⟩ => ⟨B, r, M, s, R, S, o.step fun x v r1 M1 H1 g1 R1 v1 o1 => ?_⟩
  split at o1
  · rename_i hil
    exact ⟨rcv_ty R1 v1 hil, B, r1, M1, s, R1, S.mono g1, o1.step fun us vs r2 M2 H2 g2 R2 v2 o2 => hk σ B r2 H2 M2 Q x v us vs R2 (v1.mono g2) v2 o2⟩
  · exact o1.elim
theorem se_mt0 {al : Bool} {m : Mt} {name : Str} {id : String} {rr : V → List V → Hp → VK → Prop} (slot : Slot (mtT m) name id) (hty : typeOf (.builtin id) = pure (.type "method_descriptor")) (hm : MtR X id rr) (ho : SE X cl W o go)
    (hk : ∀ (σ : L2.St) (B r : List Addr) (H : Hp) (M : Store) (Q : VK) (x : V) (v : Val), Rel X.K cl B r M H → VR X.K cl B r H x v → Out X.K cl (VR X.K cl B) W σ B r H (mtD al m v [] M) (KQ Q) → rr x [] H Q)
    (hb : attributeBase o name X.env (eval o X.env) = eval o X.env) (hl : (apos.endLine == cpos.line) = true) :
    SE X cl W (.Call (.Attribute o name apos) [] [] cpos) (eMt al m go eNil) := by
  refine PE.imp (pe_bm0 (mtT_plain m) slot hty hm ho hb hl) fun σ H Q ⟨B, r, M, s, R, S, o⟩ => ⟨B, r, M, s, R, S, o.step fun x v r1 M1 H1 g1 R1 v1 o1 => ?_⟩
  split at o1
  · rename_i hil
    exact ⟨rcv_ty R1 v1 hil, hk σ B r1 H1 M1 Q x v R1 v1 o1⟩
  · exact o1.elim
section
variable {K : PySem.W.Frag} {σ : L2.St} {B r : List Addr} {H : Hp} {M : Store} {Q : VK} {x : V} {v : Val} {us : List V} {vs : List Val}
theorem mt_at {m : Mt} (hm : m ≠ .index) (hm2 : m ≠ .count) (R : Rel K cl B r M H) (hv : VR K cl B r H x v) (o : Out K cl (VR K cl B) W σ B r H (mtDL m v vs M) (KQ Q)) :
    ∃ n p xs ls, x = .ref p ∧ r[n]? = some p ∧ M[n]? = some (.lst ls) ∧ H p = some (.lst xs) ∧ ls.length ≤ lim ∧ VRs K cl B r H xs ls ∧ Out K cl (VR K cl B) W σ B r H (mtL m n ls vs M) (KQ Q) := by
  unfold mtDL at o
  split at o
  · exact absurd rfl hm2
  · exact absurd rfl hm
  · split at o
    · split at o
      · rename_i ls em
        obtain ⟨p, rfl, hp⟩ := hv.atRef
        obtain ⟨c, e1, hc⟩ := R.mem hp
        rw [em] at e1
        cases e1
        cases hc with
        | lst h' l hs => exact ⟨_, p, _, ls, rfl, hp, em, h', l, hs, o⟩
      · exact o.elim
    · exact o.elim
theorem mt_wr {n : Nat} {p : Addr} {xs' : List V} {ls' : List Val} {w : Val} {u : V} (R : Rel K cl B r M H) (hp : r[n]? = some p) (nt : ∀ xs, ¬ H p = some (.tup xs)) (hl : ls'.length ≤ lim) (hs : VRs K cl B r H xs' ls') (hw : VR K cl B r H u w)
    (o : Out K cl (VR K cl B) W σ B r H (.ok w (M.set n (.lst ls'))) (KQ Q)) : Q u (upd H p (.lst xs')) := by
  have gw : Grow r H r (upd H p (.lst xs')) := R.growW hp nt
  exact o u _ r gw (R.write hp (.lst upd_same hl (VRs.mono gw hs)) nt) (hw.mono gw)
theorem itemsV_ok (R : Rel K cl B r M H) {zs : List Val} (hv : VR K cl B r H x v) (e : itemsV M v = some zs) : ∃ p ys, x = .ref p ∧ H p = some (.lst ys) ∧ VRs K cl B r H ys zs := by
  unfold itemsV at e
  split at e
  · obtain ⟨a, xs, rfl, h, _, _, _, hs⟩ := hv.list
    cases e
    exact ⟨a, xs, rfl, h, hs.vrs⟩
  · split at e
    · rename_i ls em
      cases e
      obtain ⟨p, rfl, hp⟩ := hv.atRef
      obtain ⟨c, e1, hc⟩ := R.mem hp
      rw [em] at e1
      cases e1
      cases hc with
      | lst h' l hs => exact ⟨p, _, rfl, h', hs⟩
    · cases e
  · cases e
theorem vrs_app {xs ys : List V} {vs ws : List Val} (h1 : VRs K cl B r H xs vs) (h2 : VRs K cl B r H ys ws) : VRs K cl B r H (xs ++ ys) (vs ++ ws) := by
  induction h1 with
  | nil => exact h2
  | cons a t ih => exact .cons a ih
theorem vrs_take {xs : List V} {vs : List Val} (n : Nat) (h : VRs K cl B r H xs vs) : VRs K cl B r H (xs.take n) (vs.take n) := by
  induction h generalizing n with
  | nil => simp only [List.take_nil]; exact .nil
  | cons a t ih =>
    cases n with
    | zero => exact .nil
    | succ n => exact .cons a (ih n)
theorem vrs_drop {xs : List V} {vs : List Val} (n : Nat) (h : VRs K cl B r H xs vs) : VRs K cl B r H (xs.drop n) (vs.drop n) := by
  induction h generalizing n with
  | nil => simp only [List.drop_nil]; exact .nil
  | cons a t ih =>
    cases n with
    | zero => exact .cons a t
    | succ n => exact ih n
theorem vrs_erase {xs : List V} {vs : List Val} (n : Nat) (h : VRs K cl B r H xs vs) : VRs K cl B r H (xs.eraseIdx n) (vs.eraseIdx n) := by
  rw [List.eraseIdx_eq_take_drop_succ, List.eraseIdx_eq_take_drop_succ]
  exact vrs_app (vrs_take n h) (vrs_drop (n + 1) h)
theorem vrs_dropLast {xs : List V} {vs : List Val} (h : VRs K cl B r H xs vs) : VRs K cl B r H xs.dropLast vs.dropLast := by
  rw [List.dropLast_eq_take, List.dropLast_eq_take, Paired.length h]
  exact vrs_take _ h
theorem vrs_at {xs : List V} {vs : List Val} {j : Nat} {w : Val} (h : VRs K cl B r H xs vs) (e : vs[j]? = some w) : ∃ u, xs[j]? = some u ∧ VR K cl B r H u w := by
  induction h generalizing j with
  | nil => simp at e
  | cons a t ih =>
    cases j with
    | zero => simp at e; subst e; exact ⟨_, rfl, a⟩
    | succ j => simpa using ih (j := j) (by simpa using e)
theorem findE_ok {d : PyData} : ∀ {ds : List PyData} {j : Nat}, findE d ds = some j → ∃ z, ds[j]? = some z ∧ PyData.eqv z d = true ∧ ∀ (m : Nat) (z' : PyData), m < j → ds[m]? = some z' → PyData.eqv z' d = false
  | [], _, e => by cases e
  | x :: xs, j, e => by
    unfold findE at e
    split at e
    · rename_i h
      cases e
      exact ⟨x, rfl, h, fun m z' hm => absurd hm (Nat.not_lt_zero m)⟩
    · rename_i h
      simp only [Option.map_eq_some_iff] at e
      obtain ⟨i, e1, rfl⟩ := e
      obtain ⟨z, h1, h2, h3⟩ := findE_ok e1
      refine ⟨z, by simpa using h1, h2, fun m z' hm hz => ?_⟩
      cases m with
      | zero => simp at hz; subst hz; simpa using h
      | succ m => exact h3 m z' (by omega) (by simpa using hz)
end
def mtName : Mt → Str
  | .clear => "clear" | .extend => "extend" | .pop => "pop" | .popAt => "pop" | .insert => "insert" | .index => "index" | .count => "count" | .split => "split" | .join => "join" | .sindex => "index" | .setdefault => "setdefault" | .get2 => "get"
theorem six_eq {i : Int} {n k : Nat} (h : ixN n i = some k) : seqIndex? i n = some k := by
  unfold ixN at h
  unfold seqIndex?
  dsimp only
  split at h
  · rename_i h1
    split at h
    · rename_i h2
      cases h
      have e : (if i < 0 then i + (n : Int) else i) = i := if_neg (by omega)
      rw [e]
      simp [h1, h2]
    · cases h
  · rename_i h1
    split at h
    · rename_i h2
      cases h
      have e : (if i < 0 then i + (n : Int) else i) = i + n := if_pos (by omega)
      rw [e]
      have h3 : 0 ≤ i + (n : Int) := by omega
      have h4 : i + (n : Int) < n := by omega
      simp [h3]
      omega
    · cases h
theorem dctAt_ok {M : Store} {v : Val} {n : Nat} {t : Bool} {kvs : List (KK × Val)} (h : dctAt M v = some (n, t, kvs)) : v = .ref n ∧ M[n]? = some (.dct t kvs) := by
  unfold dctAt at h
  split at h
  · split at h
    · rename_i e
      cases h
      exact ⟨rfl, e⟩
    · cases h
  · cases h
theorem drs_strs {B r : List Addr} {H : Hp} : ∀ zs : List Str, DRs B r H (zs.map V.str) (zs.map PyData.str)
  | [] => .nil
  | z :: zs => .cons (.str z) (drs_strs zs)
theorem drs_allT {B r : List Addr} {H : Hp} : ∀ {xs : List V} {ds : List PyData} {zs : List Str}, DRs B r H xs ds → allT ds = some zs → xs = zs.map V.str
  | _, _, _, .nil, e => by simp [allT] at e; subst e; rfl
  | _, _, _, .cons (d := d) a t, e => by
    cases a with
    | str b =>
      simp only [allT, Option.map_eq_some_iff] at e
      obtain ⟨bs', e1, rfl⟩ := e
      rw [drs_allT t e1]; rfl
    | _ => simp [allT] at e
/-- l.count(x) -/
def rCountD (K : PySem.W.Frag) : V → List V → Hp → VK → Prop := fun x xs H Q => ∃ (a : Addr) (y : V) (d : PyData) (ds : List PyData), x = V.ref a ∧ xs = [y] ∧ Dp K H (V.ref a) (.list ds) ∧ Dp K H y d ∧
  SeqAt.shaped (.list ds) = true ∧ SeqAt.shaped d = true ∧ Q (.int ((ds.countP fun z => PyData.eqv z d : Nat) : Int)) H
theorem mt_countD (hu : X.A.units + 65 < cLine) : MtR X "list.count" (rCountD X.K) := by
  intro pins s σ H x xs v us Q I rx rxs h
  obtain ⟨a, y, d, ds, rfl, rfl, hl, hy, sl, sd, q⟩ := h
  cases rx
  cases rxs with
  | cons ry rt =>
    rename_i uy ut
    cases rt
    obtain ⟨bs, r1⟩ := Dp.reads I d y uy hy ry
    have hxs : PyData.canLayAll0 ds = true := SeqAt.canLay_of_shaped sl
    have hroom : X.A.units + 1 + min (PyData.depthAll ds) d.depth < cLine := room_in_shaped sd hu
    cases hl with
    | lst hs ha =>
      obtain ⟨its, rv, ⟨⟨cls, dd, data, sls⟩, n, ho, hc, hdn, hdt⟩, hlen⟩ := I.list hs
      simp only at hc hdt
      subst hc hdt
      obtain ⟨as, h4⟩ := Dp.readsAll I ds _ its ha rv
      have hmap := SeqAt.readsAll_map ds its as hxs h4
      have hcnt : its.toArray.toList.countP (fun u => PyData.eqv (SeqAt.readOf s.heap u) d) = ds.countP fun z => PyData.eqv z d := by
        rw [← hmap, List.countP_map]
        rfl
      refine call_meets PySem.F.slot_list_count ⟨_, ho, rfl⟩ PySem.F.entry_list_count (PySem.F.args_list_count_2 _ _)
        (SeqAt.list_countAt a its.toArray n dd sls uy fun u => PyData.eqv (SeqAt.readOf s.heap u) d) ⟨ho, SeqAt.items_eqAt (vs := its.toArray) h4 r1 hxs (SeqAt.canLay_of_shaped sd) hroom, ?_⟩
      exact ⟨.int ((ds.countP fun z => PyData.eqv z d : Nat) : Int), H, I.tok _, ⟨_, by rw [hcnt]⟩, q⟩
/-- d.setdefault(y, z) -/
def rSetdA : V → List V → Hp → VK → Prop := fun x us H Q => ∃ (a : Addr) (y z : V) (o : Option V), x = .ref a ∧ us = [y, z] ∧ DGet H a y o ∧ (∀ v, o = some v → Q v H) ∧ (o = none → ∃ H', DPut H a y z H' ∧ Q z H')
theorem mt_setd (hu : X.A.units + 1 < cLine) : MtR X "dict.setdefault" rSetdA := by
  intro pins s σ H x xs v us Q I rx rxs h
  obtain ⟨a, y, z, o, rfl, rfl, g, h1, h2⟩ := h
  cases rx
  cases rxs with
  | cons ry rt =>
    cases rt with
    | cons rz rt =>
      cases rt
      rename_i uy uz
      rcases g with ⟨kvs, k, e, ey, l⟩ | ⟨kvs, k, b, e, ey, eb, l⟩
      · subst ey
        obtain ⟨zz, hd, vs, rel, dd⟩ := dk_rd I.hok e
        have hz : vs.length ≤ sizeLine := by rw [← rel.length]; exact zz
        have q := rel.val k
        rw [← l] at q
        refine call_meetsIn PySem.F.slot_dict_setdefault dd.typeIs PySem.F.entry_dict_setdefault (PySem.F.args_dict_setdefault_3 _ _ _) (kt_meets_setdefault (mixKind X.prog X.w) a (kV_is ry) hd uz) ⟨vs, dd, hz, fun u hu' => ?_, fun hn h' dd' hs => ?_⟩
        · rw [hu'] at q
          cases o with
          | none => exact (show False from q).elim
          | some v0 => exact ⟨v0, H, I.tok _, q, h1 v0 rfl⟩
        · rw [hn] at q
          cases o with
          | some v0 => exact (show False from q).elim
          | none =>
            obtain ⟨H', dp, q'⟩ := h2 rfl
            rcases dp with ⟨kvs', k', e', ey', l', eH⟩ | ⟨kvs', k', b', e', ey', eb', l', eH⟩
            · have ek := kV_inj ey'
              subst ek eH
              obtain ⟨zz2, hd2, vs2, rel2, dd2⟩ := dk_of I.hok e'
              have ekv : kvs' = kvs := by
                rcases e with e | ⟨ob, e⟩
                · rw [e'] at e; cases e; rfl
                · rw [e'] at e; cases e
              subst ekv
              have hl : (putK kvs' k z).length ≤ sizeLine := by have := length_putK kvs' k z; omega
              have he : ∃ q, h'.get? a = some q := let ⟨q, _, _, hq, _⟩ := dd'; ⟨q, hq⟩
              exact ⟨z, _, d_write (t' := s.toks + 1) I (by rw [e']; exact True.intro) hs he (dk_new hl hd (rel.put k rz) dd'), rz, q'⟩
            · exfalso
              rcases e with e | ⟨ob, e⟩ <;> (rw [e'] at e; cases e)
      · subst ey
        cases (show uy = Value.ref b from ry)
        obtain ⟨zz, hd, xs, rel, dd⟩ := dt_rd I.hok e
        have hz : xs.length ≤ sizeLine := by rw [← Paired.length rel]; exact zz
        have q := rel.val k
        rw [← l] at q
        refine call_setdefault_heap (hsz := hz) (tupleKind_room_in1 hu) (key_of I.hok eb) hd dd (fun p hp => ?_) fun hn h' dd' hs => ?_
        · rw [hp] at q
          cases o with
          | none => exact (show False from q).elim
          | some v0 => exact ⟨v0, H, I.tok _, q, h1 v0 rfl⟩
        · rw [hn] at q
          cases o with
          | some v0 => exact (show False from q).elim
          | none =>
            obtain ⟨H', dp, q'⟩ := h2 rfl
            rcases dp with ⟨kvs', k', e', ey', l', eH⟩ | ⟨kvs', k', b', e', ey', eb', l', eH⟩
            · exfalso
              rcases e with e | ⟨ob, e⟩ <;> (rw [e'] at e; cases e)
            · cases ey'
              rw [eb] at eb'
              injection eb' with eb'
              injection eb' with eb'
              have ek := kVs_inj eb'
              subst ek eH
              have ekv : kvs' = kvs := by
                rcases e with e | ⟨ob, e⟩
                · rw [e'] at e; cases e; rfl
                · rw [e'] at e; cases e
              subst ekv
              have hl : (putK kvs' k z).length ≤ sizeLine := by have := length_putK kvs' k z; omega
              obtain ⟨qo, es, ep, hq, g2, g3, g4, _, g5⟩ := dd'
              refine ⟨z, upd H a (.dT (putK kvs' k z)), d_write (t' := _) I (by rw [e']; exact True.intro) hs ⟨qo, hq⟩ ⟨hl, hd, _, (rel.put k eb rz).keeps fun c ys ec => ?_, qo, es, ep, hq, g2, g3, g4, g5⟩, rz, q'⟩
              rw [upd_ne (ne_of ec e' (fun z => nomatch z))]
              exact ec
/-- d.get(y, z) -/
def rGet2 : V → List V → Hp → VK → Prop := fun x us H Q => ∃ (a : Addr) (y z : V) (o : Option V), x = .ref a ∧ us = [y, z] ∧ DGet H a y o ∧ Q (o.getD z) H
theorem mt_get2 (hu : X.A.units + 1 < cLine) : MtR X "dict.get" rGet2 := by
  intro pins s σ H x xs v us Q I rx rxs h
  obtain ⟨a, y, z, o, rfl, rfl, g, q⟩ := h
  cases rx
  cases rxs with
  | cons ry rt =>
    cases rt with
    | cons rz rt =>
      cases rt
      exact d_get2 hu I g ry rz fun w' s' I' rw' => ⟨_, H, I', rw', q⟩
theorem mt_cases {al : Bool} (m : Mt) (hcalm : X.calm = true) (hu : X.A.units + 65 < cLine) : ∃ id rr, Slot (mtT m) (mtName m) id ∧ typeOf (.builtin id) = pure (.type "method_descriptor") ∧ MtR X id rr ∧
    ∀ (σ : L2.St) (B r : List Addr) (H : Hp) (M : Store) (Q : VK) (x : V) (v : Val) (us : List V) (vs : List Val), Rel X.K cl B r M H → VR X.K cl B r H x v → VRs X.K cl B r H us vs → Out X.K cl (VR X.K cl B) W σ B r H (mtD al m v vs M) (KQ Q) → rr x us H Q := by
  cases m with
  | clear =>
    refine ⟨_, _, PySem.F.slot_list_clear, PySem.F.type_list_clear, mt_clear, fun σ B r H M Q x v us vs R hv hvs o => ?_⟩
    obtain ⟨n, p, xs, ls, rfl, hp, em, hH, hl, hs, o⟩ := mt_at (m := .clear) (by simp) (by simp) R hv o
    cases hvs with
    | nil => exact ⟨p, xs, rfl, rfl, hH, mt_wr R hp (by intro _ q; rw [hH] at q; cases q) (by simp) .nil (.d .non) o⟩
    | cons a t => cases t <;> exact o.elim
  | extend =>
    refine ⟨_, _, PySem.F.slot_list_extend, PySem.F.type_list_extend, mt_extend, fun σ B r H M Q x v us vs R hv hvs o => ?_⟩
    obtain ⟨n, p, xs, ls, rfl, hp, em, hH, hl, hs, o⟩ := mt_at (m := .extend) (by simp) (by simp) R hv o
    cases hvs with
    | nil => exact o.elim
    | cons a t =>
      cases t with
      | cons _ _ => exact o.elim
      | nil =>
        dsimp only [mtL] at o
        split at o
        · rename_i zs ez
          split at o
          · rename_i hle
            obtain ⟨q, ys, rfl, hq, hz⟩ := itemsV_ok R a ez
            exact ⟨p, q, xs, ys, rfl, rfl, hH, hq, by rw [Paired.length hs, Paired.length hz, ← lim_eq]; exact hle, mt_wr R hp (by intro _ q; rw [hH] at q; cases q) (by simpa using hle) (vrs_app hs hz) (.d .non) o⟩
          · exact o.elim
        · exact o.elim
  | pop =>
    refine ⟨_, _, PySem.F.slot_list_pop, PySem.F.type_list_pop, mt_pop, fun σ B r H M Q x v us vs R hv hvs o => ?_⟩
    obtain ⟨n, p, xs, ls, rfl, hp, em, hH, hl, hs, o⟩ := mt_at (m := .pop) (by simp) (by simp) R hv o
    cases hvs with
    | cons a t => cases t <;> exact o.elim
    | nil =>
      dsimp only [mtL] at o
      split at o
      · rename_i w ew
        obtain ⟨u, eu, hu⟩ := vrs_at hs ew
        exact ⟨p, xs, u, rfl, rfl, hH, by rw [Paired.length hs]; exact eu, mt_wr R hp (by intro _ q; rw [hH] at q; cases q) (by simp; omega) (vrs_dropLast hs) hu o⟩
      · exact o.elim
  | popAt =>
    refine ⟨_, _, PySem.F.slot_list_pop, PySem.F.type_list_pop, mt_popAt, fun σ B r H M Q x v us vs R hv hvs o => ?_⟩
    obtain ⟨n, p, xs, ls, rfl, hp, em, hH, hl, hs, o⟩ := mt_at (m := .popAt) (by simp) (by simp) R hv o
    unfold mtL at o
    split at o
    · contradiction
    · contradiction
    · contradiction
    · rename_i i _ _
      obtain ⟨y, rfl, hy⟩ := VRs.one hvs
      obtain rfl := hy.int
      split at o
      · rename_i hb
        simp only [Bool.and_eq_true, decide_eq_true_eq] at hb
        split at o
        · rename_i k ek
          split at o
          · rename_i w ew
            obtain ⟨u, eu, hu⟩ := vrs_at hs ew
            refine ⟨p, xs, i, k, u, rfl, rfl, hH, by omega, by omega, by rw [Paired.length hs]; exact six_eq ek, eu, mt_wr R hp (by intro _ q; rw [hH] at q; cases q) ?_ (vrs_erase k hs) hu o⟩
            have := List.length_eraseIdx_le ls k
            omega
          · exact o.elim
        · exact o.elim
      · exact o.elim
    · contradiction
    · exact o.elim
  | insert =>
    refine ⟨_, _, PySem.F.slot_list_insert, PySem.F.type_list_insert, mt_insert, fun σ B r H M Q x v us vs R hv hvs o => ?_⟩
    obtain ⟨n, p, xs, ls, rfl, hp, em, hH, hl, hs, o⟩ := mt_at (m := .insert) (by simp) (by simp) R hv o
    unfold mtL at o
    split at o
    · contradiction
    · contradiction
    · contradiction
    · contradiction
    · rename_i i w _ _
      obtain ⟨y, z, rfl, hy, hz⟩ := VRs.two hvs
      obtain rfl := hy.int
      split at o
      · rename_i hb
        simp only [Bool.and_eq_true, decide_eq_true_eq] at hb
        refine ⟨p, xs, i, z, rfl, rfl, hH, by rw [Paired.length hs, ← lim_eq]; exact hb.2, hb.1.1, by omega, mt_wr R hp (by intro _ q; rw [hH] at q; cases q) ?_ (vrs_app (vrs_app (vrs_take _ hs) (.cons hz .nil)) (vrs_drop _ hs)) (.d .non) o⟩
        simp
        omega
      · exact o.elim
    · exact o.elim
  | index =>
    refine ⟨_, _, PySem.F.slot_list_index, PySem.F.type_list_index, mt_indexD hu, fun σ B r H M Q x v us vs R hv hvs o => ?_⟩
    have o : Out X.K cl (VR X.K cl B) W σ B r H (mtDL .index v vs M) (KQ Q) := o
    unfold mtDL at o
    split at o
    · contradiction
    · obtain ⟨y, rfl, hy⟩ := VRs.one hvs
      split at o
      · rename_i ds d e1 e2
        split at o
        · rename_i ho
          simp only [Bool.and_eq_true] at ho
          split at o
          · rename_i j ej
            obtain ⟨z, h1, h2, h3⟩ := findE_ok ej
            obtain ⟨pa, ys, rfl, ha, da, la⟩ := VR.lstD R hv e1
            exact ⟨pa, y, d, ds, j, z, rfl, rfl, .lst (.inl (.inl ha)) da.dp, hy.view R e2, okD_shaped (n := 31) (by simpa [okD] using ho.2) (by decide), okD_shaped ho.1 (by decide), h1, h2, h3, Out.here (u := .int _) o R (.d (.int _))⟩
          · exact o.elim
        · exact o.elim
      · exact o.elim
    · rename_i h1 h2
      split at o
      · split at o
        · unfold mtL at o
          split at o <;> first | contradiction | exact o.elim
        · exact o.elim
      · exact o.elim
  | count =>
    refine ⟨_, _, PySem.F.slot_list_count, PySem.F.type_list_count, mt_countD hu, fun σ B r H M Q x v us vs R hv hvs o => ?_⟩
    have o : Out X.K cl (VR X.K cl B) W σ B r H (mtDL .count v vs M) (KQ Q) := o
    unfold mtDL at o
    split at o
    · obtain ⟨y, rfl, hy⟩ := VRs.one hvs
      split at o
      · rename_i ds d e1 e2
        split at o
        · rename_i ho
          simp only [Bool.and_eq_true] at ho
          obtain ⟨pa, ys, rfl, ha, da, la⟩ := VR.lstD R hv e1
          exact ⟨pa, y, d, ds, rfl, rfl, .lst (.inl (.inl ha)) da.dp, hy.view R e2, okD_shaped (n := 31) (by simpa [okD] using ho.2) (by decide), okD_shaped ho.1 (by decide), Out.here (u := .int _) o R (.d (.int _))⟩
        · exact o.elim
      · exact o.elim
    · contradiction
    · rename_i h1 h2
      split at o
      · split at o
        · unfold mtL at o
          split at o <;> first | contradiction | exact o.elim
        · exact o.elim
      · exact o.elim
  | split =>
    refine ⟨_, _, PySem.F.slot_str_split, PySem.F.type_str_split, mt_split, fun σ B r H M Q x v us vs R hv hvs o => ?_⟩
    unfold mtD at o
    dsimp only [mtK] at o
    split at o
    · rename_i z
      unfold mtStr at o
      split at o
      · rename_i b _
        split at o
        · rename_i hz
          obtain ⟨y, rfl, hy⟩ := VRs.one hvs
          refine ⟨z, b, hv.str, by rw [hy.str], by simpa using hz.1, by rw [← lim_eq]; exact hz.2, fun p hp => ?_⟩
          have hd : DRs B r H ((Txt.split z b).map V.str) ((Txt.split z b).map PyData.str) := drs_strs _
          obtain ⟨_, _, _, q⟩ := Out.newL o R hd (by rw [List.length_map]; exact Nat.le_trans (PyProof.Rows.split_le z b) hz.2) hp
          exact q
        · exact o.elim
      · contradiction
      · contradiction
      · exact o.elim
    · exact o.elim
  | join =>
    refine ⟨_, _, PySem.F.slot_str_join, PySem.F.type_str_join, mt_join, fun σ B r H M Q x v us vs R hv hvs o => ?_⟩
    unfold mtD at o
    dsimp only [mtK] at o
    split at o
    · rename_i z
      unfold mtStr at o
      split at o
      · contradiction
      · split at o
        · rename_i ys ey
          split at o
          · rename_i hz
            obtain ⟨y, rfl, hy⟩ := VRs.one hvs
            simp only [Option.bind_eq_some_iff] at ey
            obtain ⟨ds, e1, e2⟩ := ey
            obtain ⟨pa, xs, rfl, ha, da, la⟩ := VR.lstD R hy e1
            have := drs_allT da e2
            subst this
            exact ⟨z, pa, ys, hv.str, rfl, .inl (.inl (.inl ha)), by have : (ys.map Str.length).sum + ys.length * z.length ≤ 1000000 := hz; exact Nat.le_trans this (by decide), Out.here (u := .str _) o R (.d (.str _))⟩
          · exact o.elim
        · exact o.elim
      · contradiction
      · exact o.elim
    · exact o.elim
  | sindex =>
    refine ⟨_, _, PySem.F.slot_str_index, PySem.F.type_str_index, mt_sindex, fun σ B r H M Q x v us vs R hv hvs o => ?_⟩
    unfold mtD at o
    dsimp only [mtK] at o
    split at o
    · rename_i z
      unfold mtStr at o
      split at o
      · contradiction
      · contradiction
      · rename_i b _
        split at o
        · rename_i j js ej
          obtain ⟨y, rfl, hy⟩ := VRs.one hvs
          exact ⟨z, b, j, js, hv.str, by rw [hy.str], ej, Out.here (u := .int _) o R (.d (.int _))⟩
        · exact o.elim
      · exact o.elim
    · exact o.elim
  | setdefault =>
    refine ⟨_, _, PySem.F.slot_dict_setdefault, PySem.F.type_dict_setdefault, mt_setd (by omega), fun σ B r H M Q x v us vs R hv hvs o => ?_⟩
    unfold mtD at o
    dsimp only [mtK] at o
    split at o
    · rename_i n t kvs ed
      obtain ⟨rfl, em⟩ := dctAt_ok ed
      unfold mtDct at o
      split at o
      · rename_i d w _
        obtain ⟨y, z, rfl, hy, hz⟩ := VRs.two hvs
        split at o
        · rename_i k ek
          obtain ⟨p, ov, rfl, g, h1, h2⟩ := dct_get R hv em hy.inv ek
          split at o
          · rename_i u eu
            obtain ⟨u', rfl, hu'⟩ := h1 u eu
            exact ⟨p, y, z, _, rfl, rfl, g, fun v' e => by cases e; exact o.here R hu', fun e => by cases e⟩
          · rename_i eu
            split at o
            · rename_i hl
              obtain ⟨p', H', ep, dp, gw, R'⟩ := dct_put R hv em hy.inv ek hz hl
              cases ep
              exact ⟨p, y, z, ov, rfl, rfl, g, (fun v' e => by rw [h2 eu] at e; cases e), fun _ => ⟨H', dp, o z H' r gw R' (hz.mono gw)⟩⟩
            · exact o.elim
        · exact o.elim
      · contradiction
      · exact o.elim
    · exact o.elim
  | get2 =>
    refine ⟨_, _, PySem.F.slot_dict_get, PySem.F.type_dict_get, mt_get2 (by omega), fun σ B r H M Q x v us vs R hv hvs o => ?_⟩
    unfold mtD at o
    dsimp only [mtK] at o
    split at o
    · rename_i n t kvs ed
      obtain ⟨rfl, em⟩ := dctAt_ok ed
      unfold mtDct at o
      split at o
      · contradiction
      · rename_i d w _
        obtain ⟨y, z, rfl, hy, hz⟩ := VRs.two hvs
        split at o
        · rename_i k ek
          obtain ⟨p, ov, rfl, g, h1, h2⟩ := dct_get R hv em hy.inv ek
          refine ⟨p, y, z, ov, rfl, rfl, g, o.here R ?_⟩
          cases q : dGet kvs k with
          | some u => obtain ⟨u', rfl, hu'⟩ := h1 u q; exact hu'
          | none => rw [h2 q]; exact hz
        · exact o.elim
      · exact o.elim
    · exact o.elim
theorem se_mt {al : Bool} (m : Mt) {name : Str} (hname : name = mtName m) (hcalm : X.calm = true) (hu : X.A.units + 65 < cLine) (ho : SE X cl W o go) (ha : SA X cl W (e :: es) gs) (hb : attributeBase o name X.env (eval o X.env) = eval o X.env) (hl : (apos.endLine == cpos.line) = true) (hs : (e :: es).all notStar = true) (hn : (e :: es).length < 20) :
    SE X cl W (.Call (.Attribute o name apos) (e :: es) [] cpos) (eMt al m go gs) := by
  subst hname
  obtain ⟨id, rr, h1, h2, h3, h4⟩ := mt_cases (cl := cl) (W := W) m hcalm hu
  exact se_mtA h1 h2 h3 ho ha h4 hb hl hs hn
theorem se_mtN {al : Bool} (m : Mt) {name : Str} (hname : name = mtName m) (hcalm : X.calm = true) (hu : X.A.units + 65 < cLine) (ho : SE X cl W o go) (hb : attributeBase o name X.env (eval o X.env) = eval o X.env) (hl : (apos.endLine == cpos.line) = true) :
    SE X cl W (.Call (.Attribute o name apos) [] [] cpos) (eMt al m go eNil) := by
  subst hname
  obtain ⟨id, rr, h1, h2, h3, h4⟩ := mt_cases (cl := cl) (W := W) m hcalm hu
  exact se_mt0 h1 h2 h3 ho (fun σ B r H M Q x v R hv o => h4 σ B r H M Q x v [] [] R hv .nil o) hb hl
end
end Gv

namespace Gv
open PySem PySem.Spec PyProof.Rows L2

/-! ### x[y] = v -/
section
variable {X : Cx} {cl : Nat → Addr} {W : WX} {a b c e o i : Expr} {es : List Expr} {ga gb gc ge go gi : Slots → Store → R Val} {gs : Slots → Store → R (List Val)} {pos p : Pos} {x : Str}
def sSetix2 (go gi ge : Slots → Store → R Val) : Slots → Store → SR := fun s M => (ge s M).toS s fun v M => (go s M).toS s fun x M => (gi s M).toS s fun y M => (setD M x y v).toS s fun _ M => .next s M
theorem set_both (hu : X.A.units + 1 < cLine) : PSet X (fun o i v H Q => rSetL o i v H Q ∨ rSetD o i v H Q) := fun pins s σ H o i v ov iv u Q I ro ri rv h =>
  h.elim (fun h => set_list pins s σ H o i v ov iv u Q I ro ri rv h) fun h => set_dict hu pins s σ H o i v ov iv u Q I ro ri rv h
theorem setD_ok {K : PySem.W.Frag} {B r : List Addr} {H : Hp} {M : Store} {xo xi xv : V} {vo vi v : Val} {D : Ends} {σ : L2.St} {s : Slots} (R : Rel K cl B r M H) (S : SRel K cl B r H σ s) (ho : VR K cl B r H xo vo) (hi : VR K cl B r H xi vi) (hv : VR K cl B r H xv v)
    (oo : OutS K cl W B r H ((setD M vo vi v).toS s fun _ M => .next s M) D) : rSetL xo xi xv H (fun H' => D.nx σ H') ∨ rSetD xo xi xv H (fun H' => D.nx σ H') := by
  unfold setD at oo
  split at oo
  · rename_i n d
    split at oo
    · rename_i vs em
      split at oo
      · rename_i k
        split at oo
        · rename_i j ej
          obtain ⟨pa, rfl, hp⟩ := ho.atRef
          obtain rfl := hi.int
          obtain ⟨c', e1, hc⟩ := R.mem hp
          rw [em] at e1
          cases e1
          cases hc with
          | lst h' l hs =>
            rename_i xs
            refine .inl ⟨pa, xs, k, j, rfl, rfl, h', by rw [Paired.length hs]; exact ej, ?_⟩
            have gw : Grow r H r (upd H pa (.lst (xs.set j xv))) := R.growW hp
            exact OutS.next (M := M.set n (.lst (vs.set j v))) oo gw (R.write hp (.lst upd_same (by simpa using l) (vrs_set (hv.mono gw) j (VRs.mono gw hs)))) (S.mono gw)
        · exact oo.elim
      · exact oo.elim
    · rename_i t kvs em
      split at oo
      · rename_i k ek
        split at oo
        · rename_i hl
          obtain ⟨pa, H', rfl, dp, gw, R'⟩ := dct_put R ho em hi.inv ek hv hl
          exact .inr ⟨pa, H', rfl, dp, OutS.next (M := M.set n (.dct t (dPut kvs k v))) oo gw R' (S.mono gw)⟩
        · exact oo.elim
      · exact oo.elim
    · exact oo.elim
  · exact oo.elim
theorem ss_setix2 (hu : X.A.units + 1 < cLine) (he : SE X cl W e ge) (ho : SE X cl W o go) (hi : SE X cl W i gi) (h0 : ∀ v, assign (.Subscript o i p) X.env v = (do
      let ov ← holding [v] (eval o X.env)
      let iv ← holding [v, ov] (eval i X.env)
      standAt p
      holding [v, ov, iv] (setItem ov iv v)
      release [v, ov, iv] [])) (h1 : swapsWithSole [.Subscript o i p] e pos.line X.env = pure false) (h2 : swappedStores [.Subscript o i p] e X.env = pure none)
    (h3 : (assignEach [.Subscript o i p] X.env).map (·.2) = [assign (.Subscript o i p) X.env]) : SS X cl W (.Assign [.Subscript o i p] e pos) (sSetix2 go gi ge) :=
  PS.imp (ps_asg he (pg_sub ho hi (set_both hu) h0) h1 h2 h3) fun D σ H ⟨B, r, M, s, R, S, oo⟩ => ⟨B, r, M, s, R, S, OutS.step S oo fun u v r1 M1 H1 g1 R1 v1 o1 =>
    ⟨B, r1, M1, s, R1, S.mono g1, OutS.step (S.mono g1) o1 fun w x r2 M2 H2 g2 R2 v2 o2 =>
      ⟨B, r2, M2, s, R2, (S.mono g1).mono g2, OutS.step ((S.mono g1).mono g2) o2 fun z y r3 M3 H3 g3 R3 v3 o3 =>
        setD_ok R3 (((S.mono g1).mono g2).mono g3) (v2.mono g3) v3 ((v1.mono g2).mono g3) o3⟩⟩⟩

/-! ### x += e -/
def rAugA : TIp := fun x y H Q => (∃ i j, x = .int i ∧ y = .int j ∧ Q (.int (i + j)) H) ∨ (∃ i j, x = .str i ∧ y = .str j ∧ i.length + j.length ≤ sizeLine ∧ Q (.str (i ++ j)) H)
theorem ip_aug {op : Operator} (ho : op = .Add) : PIp X op rAugA := fun pins s σ H x y v u Q I rx ry h => by
  subst ho
  rcases h with h | h
  · exact ip_add pins s σ H x y v u Q I rx ry h
  · exact iop_add_str pins s σ H x y v u Q I rx ry h
theorem in_aug {op : Operator} (ho : op = .Add) : InOp X op rAugA := fun pins s σ H x y u v Q I rx ry h => ip_aug ho pins s σ H x y u v Q I rx ry h
theorem aug_ok {K : PySem.W.Frag} {B r : List Addr} {H : Hp} {M : Store} {op : Operator} {x y : V} {v w : Val} {σ : L2.St} {s : Slots} {D : Ends} {f : Val → Store → SR} {Q : VK} (R : Rel K cl B r M H) (hx : VR K cl B r H x v) (hy : VR K cl B r H y w)
    (o : OutS K cl W B r H ((augD M op v w).toS s f) D) (h : ∀ z u, VR K cl B r H z u → OutS K cl W B r H (f u M) D → Q z H) : rAugA x y H Q := by
  unfold augD at o
  split at o
  · obtain rfl := hx.int
    obtain rfl := hy.int
    exact .inl ⟨_, _, rfl, rfl, h _ _ (.d (.int _)) o⟩
  · split at o
    · rename_i hl
      obtain rfl := hx.str
      obtain rfl := hy.str
      exact .inr ⟨_, _, rfl, rfl, by rw [← lim_eq]; exact hl, h _ _ (.d (.str _)) o⟩
    · exact o.elim
  · exact o.elim
theorem augD_op {M : Store} {op : Operator} {x y : Val} (h : op ≠ .Add) : augD M op x y = .bad := by
  unfold augD
  split
  · exact absurd rfl h
  · exact absurd rfl h
  · rfl
def sAug (i : Nat) (op : Operator) (ge : Slots → Store → R Val) : Slots → Store → SR := fun s M => (match s[i]? with
      | some (some x) => (ge s M).toS s fun y M => (augD M op x y).toS s fun z M => .next (s.set i (some z)) M
      | _ => .bad)
theorem ss_aug {i : Nat} {op : Operator} {pos' : Pos} (hop : op = .Add) (hN : X.N.Nodup) (hi : X.N[i]? = some x) (hx : Loc X.env.scope x) (he : SE X cl W e ge) (hf : X.fn x = true ∨ X.env.scope.names.lookup x = some .local) :
    SS X cl W (.AugAssign (.Name x pos') op e pos) (sAug i op ge) :=
  PS.imp (ps_aug hN hi hx he (ip_aug hop) hf) fun D σ H ⟨B, r, M, s, R, S, oo⟩ => by
    unfold sAug at oo
    split at oo
    · rename_i v ev
      obtain ⟨y, hy, hv⟩ := S.get i v ev
      refine ⟨y, hy, B, r, M, s, R, S, OutS.step S oo fun u w r1 M1 H1 g1 R1 v1 o1 => ?_⟩
      exact aug_ok (σ := σ) R1 (hv.mono g1) v1 o1 fun z u' hz o2 => o2.next .refl R1 ((S.mono g1).set hz i)
    · exact oo.elim

/-! ### fields -/
theorem fldN_inj {i j : Nat} (hi : i < 10) (hj : j < 10) (h : fldN i = fldN j) : i = j := by
  have key : ∀ i, i < 10 → ∀ j, j < 10 → fldN i = fldN j → i = j := by decide +kernel
  exact key i hi j hj h
theorem fld_get {P : V → Val → Prop} {j : Nat} (hj : j < 10) : ∀ {xs : List (Str × V)} {fs : List (Nat × Val)} {v : Val}, Paired (fun (p : Str × V) (q : Nat × Val) => FldIs p.1 q.1 ∧ P p.2 q.2) xs fs → fs.lookup j = some v → ∃ u, xs.lookup (fldN j) = some u ∧ P u v
  | _, _, v, .nil, e => by simp at e
  | _, _, v, .cons (a := p) (b := q) h t, e => by
    obtain ⟨f, u⟩ := p
    obtain ⟨k, w⟩ := q
    rw [List.lookup_cons] at e ⊢
    obtain ⟨⟨hk, hf⟩, hP⟩ := h
    dsimp only at hk hf hP e ⊢
    by_cases q : j = k
    · subst q
      rw [hf]
      simp at e ⊢
      subst e
      exact hP
    · have hne : ¬ fldN j = f := fun z => q (fldN_inj hj hk (by rw [z, hf]))
      have e1 : (j == k) = false := by simpa using q
      have e2 : (fldN j == f) = false := beq_eq_false_iff_ne.mpr hne
      rw [e1] at e
      rw [e2]
      exact fld_get hj t e
theorem fld_none {P : V → Val → Prop} {m : Str} (hm : ∀ j, j < 10 → m ≠ fldN j) : ∀ {xs : List (Str × V)} {fs : List (Nat × Val)}, Paired (fun (p : Str × V) (q : Nat × Val) => FldIs p.1 q.1 ∧ P p.2 q.2) xs fs → xs.lookup m = none
  | _, _, .nil => rfl
  | _, _, .cons (a := p) (b := q) h t => by
    obtain ⟨f, u⟩ := p
    obtain ⟨⟨hk, hf⟩, hP⟩ := h
    rw [List.lookup_cons]
    have e2 : (m == f) = false := beq_eq_false_iff_ne.mpr (by rw [show f = fldN q.1 from hf]; exact hm _ hk)
    rw [e2]
    exact fld_none hm t
theorem fld_put {P : V → Val → Prop} {j : Nat} (hj : j < 10) {u : V} {v : Val} (hv : P u v) : ∀ {xs : List (Str × V)} {fs : List (Nat × Val)}, Paired (fun (p : Str × V) (q : Nat × Val) => FldIs p.1 q.1 ∧ P p.2 q.2) xs fs →
    Paired (fun (p : Str × V) (q : Nat × Val) => FldIs p.1 q.1 ∧ P p.2 q.2) (putF (fldN j) u xs) (putV j v fs)
  | _, _, .nil => .cons ⟨⟨hj, rfl⟩, hv⟩ .nil
  | _, _, .cons (a := p) (b := q) h t => by
    obtain ⟨f, u'⟩ := p
    obtain ⟨k, w⟩ := q
    obtain ⟨⟨hk, hf⟩, hP⟩ := h
    dsimp only at hk hf hP
    unfold putF putV
    by_cases e : k = j
    · subst e
      rw [if_pos hf, if_pos rfl]
      exact .cons ⟨⟨hk, hf⟩, hv⟩ t
    · rw [if_neg (fun z => e (fldN_inj hk hj (by rw [← hf, z]))), if_neg e]
      exact .cons ⟨⟨hk, hf⟩, hP⟩ (fld_put hj hv t)
theorem insAt_ok {M : Store} {v : Val} {n c : Nat} {fs : List (Nat × Val)} (h : insAt M v = some (n, c, fs)) : v = .ref n ∧ M[n]? = some (.ins c fs) := by
  unfold insAt at h
  split at h
  · split at h
    · rename_i e
      cases h
      exact ⟨rfl, e⟩
    · cases h
  · cases h
/-- an instance -/
theorem ins_at {K : PySem.W.Frag} {B r : List Addr} {H : Hp} {M : Store} {x : V} {v : Val} {n c : Nat} {fs : List (Nat × Val)} (R : Rel K cl B r M H) (hx : VR K cl B r H x v) (h : insAt M v = some (n, c, fs)) :
    ∃ p dx xs, x = .ref p ∧ v = .ref n ∧ r[n]? = some p ∧ H p = some (.ins (cl c) dx xs) ∧ H dx = some (.own p) ∧ dx ∉ B ∧ dx ∉ r ∧ InsC K (cl c) ∧ Paired (fun (p : Str × V) (q : Nat × Val) => FldIs p.1 q.1 ∧ VR K cl B r H p.2 q.2) xs fs := by
  obtain ⟨rfl, em⟩ := insAt_ok h
  obtain ⟨p, rfl, hp⟩ := hx.atRef
  obtain ⟨c', e1, hc⟩ := R.mem hp
  rw [em] at e1
  cases e1
  cases hc with
  | ins h' ho nb nr ci hs => exact ⟨p, _, _, rfl, rfl, hp, h', ho, nb, nr, ci, hs⟩
def eAttr (f : Nat) (go : Slots → Store → R Val) : Slots → Store → R Val := fun s M => (go s M).bind fun x M => (match insAt M x with
      | some (_, _, fs) => (match fs.lookup f with | some v => .ok v M | none => .bad)
      | none => .bad)
theorem se_attr {f : Nat} {name : Str} (hf : f < 10) (hn : name = fldN f) (ho : SE X cl W o go) (hb : attributeBase o name X.env (eval o X.env) = eval o X.env) : SE X cl W (.Attribute o name pos) (eAttr f go) := by
  subst hn
  refine PE.imp (pe_fld ho hb) fun σ H Q ⟨B, r, M, s, R, S, oo⟩ => ⟨B, r, M, s, R, S, oo.step fun x v r1 M1 H1 g1 R1 v1 o1 => ?_⟩
  split at o1
  · rename_i n c fs ei
    split at o1
    · rename_i w ew
      obtain ⟨pa, dx, xs, rfl, _, hp, h', _, _, _, ci, hs⟩ := ins_at R1 v1 ei
      obtain ⟨u, eu, hu⟩ := fld_get hf hs ew
      exact ⟨pa, cl c, dx, xs, u, rfl, h', ci.cls, ci.noat f hf, eu, o1.here R1 hu⟩
    · exact o1.elim
  · exact o1.elim
/-- x.f = v -/
theorem putAt_ok {K : PySem.W.Frag} {B r : List Addr} {H : Hp} {M : Store} {x u : V} {v w : Val} {f : Nat} {σ : L2.St} {s : Slots} {D : Ends} {g : Store → SR} {P : Hp → Prop} (hf : f < 10) (R : Rel K cl B r M H) (hx : VR K cl B r H x v) (hu : VR K cl B r H u w)
    (o : OutS K cl W B r H ((putAt M v f w).toS s fun _ M => g M) D)
    (k : ∀ M' H', Grow r H r H' → Rel K cl B r M' H' → OutS K cl W B r H' (g M') D → P H') :
    ∃ a C dx fs, x = .ref a ∧ H a = some (.ins C dx fs) ∧ Cls K C ∧ NoAttr K C (fldN f) ∧ fs.length < 1000 ∧ P (upd H a (.ins C dx (putF (fldN f) u fs))) := by
  unfold putAt at o
  split at o
  · rename_i n c fs ei
    split at o
    · rename_i hl
      obtain ⟨pa, dx, xs, rfl, _, hp, h', ho, nb, nr, ci, hs⟩ := ins_at R hx ei
      refine ⟨pa, cl c, dx, xs, rfl, h', ci.cls, ci.noat f hf, by rw [Paired.length hs]; exact hl, ?_⟩
      have gw : Grow r H r (upd H pa (.ins (cl c) dx (putF (fldN f) u xs))) := R.growW hp
      have hdx : dx ≠ pa := fun z => by rw [z, h'] at ho; cases ho
      refine k _ _ gw (R.write hp (.ins upd_same (by rw [upd_ne hdx]; exact ho) nb nr ci ?_)) (OutS.grow (x := g (M.set n (.ins c (putV f w fs)))) o gw)
      exact fld_put hf (hu.mono gw) (Paired.mapP hs fun _ _ z => ⟨z.1, z.2.mono gw⟩)
    · exact o.elim
  · exact o.elim
def sSetat (f : Nat) (go ge : Slots → Store → R Val) : Slots → Store → SR := fun s M => (ge s M).toS s fun v M => (go s M).toS s fun x M => (putAt M x f v).toS s fun _ M => .next s M
theorem ss_setat {f : Nat} {name : Str} {pos' : Pos} (hf : f < 10) (hn : name = fldN f) (ho : SE X cl W o go) (he : SE X cl W e ge) (hs : swapsWith e (some (.Attribute o name pos')) pos.line X.env = pure false) : SS X cl W (.Assign [.Attribute o name pos'] e pos) (sSetat f go ge) := by
  subst hn
  refine PS.imp (ps_fld ho he hs) fun D σ H ⟨B, r, M, s, R, S, oo⟩ => ⟨B, r, M, s, R, S, OutS.step S oo fun u v r1 M1 H1 g1 R1 v1 o1 =>
    ⟨B, r1, M1, s, R1, S.mono g1, OutS.step (S.mono g1) o1 fun w x r2 M2 H2 g2 R2 v2 o2 => ?_⟩⟩
  exact putAt_ok (σ := σ) hf R2 v2 (v1.mono g2) o2 fun M' H' gw R' o3 => o3.next .refl R' (((S.mono g1).mono g2).mono gw)
/-- o.f as a target -/
def gFld (K : PySem.W.Frag) (to : TE) (f : Str) : TG := fun v σ H Q => to σ H fun x H1 => ∃ a C dx fs, x = .ref a ∧ H1 a = some (.ins C dx fs) ∧ Cls K C ∧ NoAttr K C f ∧ fs.length < 1000 ∧ Q σ (upd H1 a (.ins C dx (putF f v fs)))
theorem pg_fld {f : Str} {to : TE} {pos' : Pos} (ho : PE X o to) : PG X (.Attribute o f pos') (gFld X.K to f) := by
  refine ⟨fun pins s σ H v u Q I r h => ?_⟩
  rw [show assign (.Attribute o f pos') X.env u = (do
      let ov ← holding [u] (eval o X.env)
      standAt pos'.atName
      holding [u, ov] (setAttr ov f u)
      release [u, ov] []) from rfl]
  refine wpAny_bind (wpAny_holding (thn (ho.run pins s σ H _ I h) fun ov s1 ⟨x, H1, I1, rx, a, C, dx, fs, ex, ea, c, n, l, q⟩ => ?_))
  subst ex
  obtain rfl : ov = Value.ref a := rx
  refine wpAny_bind (wpAny_standAt (wpAny_bind (wpAny_holding (setattr_ok I1 ea c n l r fun s3 I3 => ?_))))
  exact wpAny_release ⟨σ, _, I3, q⟩
def sUnpat (f g : Nat) (go gq ge : Slots → Store → R Val) : Slots → Store → SR := fun s M => (ge s M).toS s fun v M => (match v with
      | .d (.tuple [u, w]) => (go s M).toS s fun x M => (putAt M x f (.d u)).toS s fun _ M => (gq s M).toS s fun y M => (putAt M y g (.d w)).toS s fun _ M => .next s M
      | _ => .bad)
theorem ss_unpat {f g : Nat} {n1 n2 : Str} {p1 p2 pt : Pos} {kt : Nat} {q : Expr} {gq : Slots → Store → R Val} (hc : X.calm = true) (hf : f < 10) (hg : g < 10) (hn1 : n1 = fldN f) (hn2 : n2 = fldN g) (ho : SE X cl W o go) (hq : SE X cl W q gq) (he : SE X cl W e ge)
    (hs : swapsWithSole [.Tuple [.Attribute o n1 p1, .Attribute q n2 p2] kt pt] e pos.line X.env = pure false) (hw : swappedStores [.Tuple [.Attribute o n1 p1, .Attribute q n2 p2] kt pt] e X.env = pure none) :
    SS X cl W (.Assign [.Tuple [.Attribute o n1 p1, .Attribute q n2 p2] kt pt] e pos) (sUnpat f g go gq ge) := by
  subst hn1
  subst hn2
  refine PS.imp (ps_asg he (pg_tup hc (pgs_cons (pg_fld ho) (pgs_cons (pg_fld hq) pgs_nil rfl) rfl) rfl rfl) hs hw rfl) fun D σ H ⟨B, r, M, s, R, S, oo⟩ => ⟨B, r, M, s, R, S, OutS.step S oo fun uV v r1 M1 H1 g1 R1 v1 o1 => ?_⟩
  split at o1
  · rename_i u w
    obtain ⟨a, xs, rfl, ht, l, hd⟩ := v1.tuple
    obtain ⟨x1, x2, rfl, hd1, hd2⟩ : ∃ x1 x2, xs = [x1, x2] ∧ DR B r1 H1 x1 u ∧ DR B r1 H1 x2 w := by
      cases hd with
      | cons a t => cases t with
        | cons b t => cases t; exact ⟨_, _, rfl, a, b⟩
    refine ⟨a, [x1, x2], rfl, .inl (.inl ht), rfl, x1, [x2], rfl, ?_⟩
    refine ⟨B, r1, M1, s, R1, S.mono g1, OutS.step (S.mono g1) o1 fun y x r2 M2 H2 g2 R2 v2 o2 => ?_⟩
    refine putAt_ok (σ := σ) (P := fun H' => gCons (gFld X.K (rdE X.K cl W gq) (fldN g)) gNil [x2] σ H' D.nx) hf R2 v2 ((VR.d hd1).mono g2) o2 fun M3 H3 g3 R3 o3 => ?_
    refine ⟨x2, [], rfl, B, r2, M3, s, R3, ((S.mono g1).mono g2).mono g3, OutS.step (((S.mono g1).mono g2).mono g3) o3 fun y x r4 M4 H4 g4 R4 v4 o4 => ?_⟩
    exact putAt_ok (σ := σ) (P := fun H' => gNil [] σ H' D.nx) hg R4 v4 ((((VR.d hd2).mono g2).mono g3).mono g4) o4 fun M5 H5 g5 R5 o5 => ⟨rfl, o5.next .refl R5 (((((S.mono g1).mono g2).mono g3).mono g4).mono g5)⟩
  · exact o1.elim
def sAugat (f : Nat) (op : Operator) (go ge : Slots → Store → R Val) : Slots → Store → SR := fun s M => (go s M).toS s fun x M => (match insAt M x with
      | some (_, c, fs) => (match fs.lookup f with
        | some v => (ge s M).toS s fun y M => (augD M op v y).toS s fun z M => (putAtC M x c f z).toS s fun _ M => .next s M
        | none => .bad)
      | none => .bad)
theorem ss_augat {f : Nat} {op : Operator} {name : Str} {pos' : Pos} (hop : op = .Add) (hf : f < 10) (hn : name = fldN f) (ho : SE X cl W o go) (he : SE X cl W e ge) : SS X cl W (.AugAssign (.Attribute o name pos') op e pos) (sAugat f op go ge) := by
  subst hn
  refine PS.imp (ps_fldaug ho he (in_aug hop)) fun D σ H ⟨B, r, M, s, R, S, oo⟩ => ⟨B, r, M, s, R, S, OutS.step S oo fun w x r1 M1 H1 g1 R1 v1 o1 => ?_⟩
  split at o1
  · rename_i n c fs ei
    split at o1
    · rename_i v ev
      obtain ⟨pa, dx, xs, rfl, rfl, hp, h', ho, nb, nr, ci, hs⟩ := ins_at R1 v1 ei
      obtain ⟨u, eu, hu⟩ := fld_get hf hs ev
      refine ⟨pa, cl c, dx, xs, u, rfl, h', ci.cls, ci.noat f hf, eu, B, r1, M1, s, R1, S.mono g1, OutS.step (S.mono g1) o1 fun y y' r2 M2 H2 g2 R2 v2 o2 => ?_⟩
      refine aug_ok (σ := σ) R2 (hu.mono g2) v2 o2 fun z z' hz o3 => ?_
      unfold putAtC at o3
      split at o3
      · rename_i n2 c2 fs2 ei2
        split at o3
        · rename_i hcc
          subst hcc
          obtain ⟨a', C', dx', fs', ea, h1, h2, h3, h4, h5⟩ := putAt_ok (σ := σ) (P := fun H' => D.nx σ H') hf R2 (v1.mono g2) hz o3 fun M' H' gw R' o4 => o4.next .refl R' (((S.mono g1).mono g2).mono gw)
          cases ea
          obtain ⟨pa2, dx2, xs2, e2, e3, hp2, h'2, _⟩ := ins_at R2 (v1.mono g2) ei2
          cases e2
          rw [h1] at h'2
          cases h'2
          exact ⟨dx', fs', h1, h4, h5⟩
        · exact o3.elim
      · exact o3.elim
    · exact o1.elim
  · exact o1.elim
end
end Gv

namespace Gv
open PySem PySem.Spec PyProof.Rows L2

/-! ### o.m(..) -/
section
variable {X : Cx} {W : WX} {k : Nat} {m : Str} {o e : Expr} {es : List Expr} {ta : TE} {t : TA} {apos pos : Pos}
theorem few_args {args : List Expr} {env : Env} (hs : args.all notStar = true) (hn : args.length < 20) : methodCallForm (args.length + ([] : List Keyword).length) (backTo pos (starEach args env)) (backToKw pos (keywordEach [] env)) = true := by
  have h1 := star_all (env := env) (pos := pos) hs
  rw [List.any_eq_false] at h1
  have h2 : (backTo pos (starEach args env)).all (fun x => !x.1) = true := by
    rw [List.all_eq_true]
    intro x hx
    simpa using h1 x hx
  unfold methodCallForm
  rw [h2]
  have h3 : (backToKw pos (keywordEach [] env)) = [] := rfl
  rw [h3]
  simp
  omega
theorem mtree {args : List Expr} {env : Env} (hb : attributeBase o m env (eval o env) = eval o env) (hs : args.all notStar = true) (hn : args.length < 20) (hl : (apos.endLine == pos.line) = true) :
    eval (.Call (.Attribute o m apos) args [] pos) env = (do
      let ov ← eval o env
      standAt apos.atName
      let (f, first) ← holding [ov] (getMethod ov m (do return (← importBound o env).getD true))
      callWith pos f first (backTo pos (starEach args env)) (backToKw pos (keywordEach [] env))) := by
  refine (mcall_of hb fun ov => ?_)
  unfold methodCall
  rw [few_args hs hn]
  have hp : methodCallPos true o env apos pos = pure pos := by
    unfold methodCallPos
    simp [hl]
  rw [hp]
  simp only [calleeOf, if_true, pure_bind]
/-- .. of an instance, its class as it comes -/
def tMethD (X : Cx) (W : WX) (k : Nat) (m : Str) (ta : TE) (t : TA) : TE := fun σ H Q => ta σ H fun x H1 => ∃ a C dx fs f fd ps sp, x = .ref a ∧ H1 a = some (.ins C dx fs) ∧ Cls X.K C ∧ Meth X.K C m f ∧ fs.lookup m = none ∧
  FnOk X.prog X.w X.K X.mg X.base (CXb X.prog X.w) k f fd ps sp ∧ Binds X.K fd ps [] ∧ t σ H1 fun vs H2 => sp (x :: vs) H2 Q (WE W σ)
theorem pe_methD (hr : Room k X.A) (tk : Tk X W) (he : PE X o ta) (ha : PA X (e :: es) t) (hb : attributeBase o m X.env (eval o X.env) = eval o X.env) (hs : (e :: es).all notStar = true) (hn : (e :: es).length < 20) (hl : (apos.endLine == pos.line) = true) :
    PE X (.Call (.Attribute o m apos) (e :: es) [] pos) (tMethD X W k m ta t) := by
  have hs' := hs
  simp only [List.all_cons, Bool.and_eq_true] at hs'
  refine ⟨fun pins s σ H Q I h => ?_⟩
  refine PySem.W.methodCall_KW (thn (he.run pins s σ H _ I h) fun u s1 hu => ?_) (mtree hb hs hn hl)
  obtain ⟨x, H1, I1, rx, a, C, dx, fs, f, fd, ps, sp, ex, ea, c, hm, l, F, hbd, q⟩ := hu
  subst ex
  obtain rfl : u = Value.ref a := rx
  refine getmeth_ok I1 ea c hm l (PySem.W.callWith_K (first := [.ref a]) (h₀ := X.base) I.ok.mod.kin hm.kp (thn (ha.run pos pins s1 σ H1 _ I1 q) fun us s2 hw => ?_) (star_cons hs'.1) (star_all hs'.2))
  obtain ⟨vs, H2, I2, r, q2⟩ := hw
  exact ⟨I2.kIn, run_fnS (us := .ref a :: us) (vs := .ref a :: vs) (E := WE W) F hr hbd (tk.pass σ) I2 (.cons rfl r) q2⟩
theorem pe_methD0 (hr : Room k X.A) (tk : Tk X W) (he : PE X o ta) (hb : attributeBase o m X.env (eval o X.env) = eval o X.env) (hl : (apos.endLine == pos.line) = true) :
    PE X (.Call (.Attribute o m apos) [] [] pos) (tMethD X W k m ta tNil) := by
  refine ⟨fun pins s σ H Q I h => ?_⟩
  refine PySem.W.methodCall_KW (thn (he.run pins s σ H _ I h) fun u s1 hu => ?_) (mtree hb rfl (by decide) hl)
  obtain ⟨x, H1, I1, rx, a, C, dx, fs, f, fd, ps, sp, ex, ea, c, hm, l, F, hbd, q⟩ := hu
  subst ex
  obtain rfl : u = Value.ref a := rx
  refine getmeth_ok I1 ea c hm l ?_
  exact PySem.W.callWith_K0 (first := [.ref a]) I1.kIn hm.kp (run_fnS (us := [.ref a]) (vs := [.ref a]) (E := WE W) F hr hbd (tk.pass σ) I1 (.cons rfl .nil) q)
end
section
variable {X : Cx} {cl : Nat → Addr} {W : WX} {F : FEnv} {k : Nat} {o e : Expr} {es : List Expr} {go : Slots → Store → R Val} {gs : Slots → Store → R (List Val)} {apos pos p : Pos}
/-- a call that is handed the store -/
theorem sp_of {K : PySem.W.Frag} {σ : L2.St} {B r : List Addr} {H : Hp} {M : Store} {Q : VK} {us : List V} {vs : List Val} {n : Nat} {g : List Val → Store → R Val} (R : Rel K cl B r M H) (hv : VRs K cl B r H us vs) (hn : us.length = n)
    (o : Out K cl (VR K cl B) W σ B r H (g vs M) (KQ Q)) : spF K cl n g us H Q (WE W σ) := by
  refine ⟨hn, B, r, M, vs, R, hv, ?_⟩
  cases q : g vs M with
  | bad => rw [q] at o; exact o
  | exc c M' => rw [q] at o; exact o
  | ok v M' => rw [q] at o; exact o
/-- what the classes' methods promise -/
def MethsOk (X : Cx) (cl : Nat → Addr) (F : FEnv) (k : Nat) : Prop := ∀ (c m f : Nat), F.meth c m = some f → ∃ fa fd ps, Meth X.K (cl c) (methN m) fa ∧ Binds X.K fd ps [] ∧ FnOk X.prog X.w X.K X.mg X.base (CXb X.prog X.w) k fa fd ps (spF X.K cl ps.length (F.call f)) ∧ ∀ vs M, vs.length ≠ ps.length → F.call f vs M = .bad
def eMeth (F : FEnv) (m : Nat) (go : Slots → Store → R Val) (gs : Slots → Store → R (List Val)) : Slots → Store → R Val := fun s M => (go s M).bind fun x M => (match insAt M x with
      | some (a, c, _) => (match F.meth c m with
          | some f => (gs s M).bind fun vs M => F.call f (.ref a :: vs) M
          | none => .bad)
      | none => .bad)
theorem methN_ok {m : Nat} (hm : m < 19) : ∀ j, j < 10 → methN m ≠ fldN j := by
  have key : ∀ m, m < 19 → ∀ j, j < 10 → methN m ≠ fldN j := by decide +kernel
  exact key m hm
theorem se_meth {m : Nat} {name : Str} (hm : m < 19) (hn : name = methN m) (MO : MethsOk X cl F k) (hr : Room k X.A) (tk : Tk X W) (ho : SE X cl W o go) (ha : SA X cl W (e :: es) gs)
    (hb : attributeBase o name X.env (eval o X.env) = eval o X.env) (hs : (e :: es).all notStar = true) (hl20 : (e :: es).length < 20) (hl : (apos.endLine == pos.line) = true) :
    SE X cl W (.Call (.Attribute o name apos) (e :: es) [] pos) (eMeth F m go gs) := by
  subst hn
  refine PE.imp (pe_methD hr tk ho ha hb hs hl20 hl) fun σ H Q ⟨B, r, M, s, R, S, oo⟩ => ⟨B, r, M, s, R, S, oo.step fun x v r1 M1 H1 g1 R1 v1 o1 => ?_⟩
  split at o1
  · rename_i n c fs ei
    split at o1
    · rename_i f ef
      obtain ⟨pa, dx, xs, rfl, rfl, hp, h', ho', nb, nr, ci, hs'⟩ := ins_at R1 v1 ei
      obtain ⟨fa, fd, ps, hM, hB, hF, hL⟩ := MO c m f ef
      refine ⟨pa, cl c, dx, xs, fa, fd, ps, _, rfl, h', ci.cls, hM, fld_none (methN_ok hm) hs', hF, hB, B, r1, M1, s, R1, S.mono g1, o1.step fun us vs r2 M2 H2 g2 R2 v2 o2 => ?_⟩
      have hv : VRs X.K cl B r2 H2 (.ref pa :: us) (.ref n :: vs) := .cons (v1.mono g2) v2
      refine sp_of R2 hv ?_ o2
      rw [Paired.length hv]
      exact Decidable.byContradiction fun z => by rw [hL _ _ z] at o2; exact o2
    · exact o1.elim
  · exact o1.elim
theorem se_meth0 {m : Nat} {name : Str} (hm : m < 19) (hn : name = methN m) (MO : MethsOk X cl F k) (hr : Room k X.A) (tk : Tk X W) (ho : SE X cl W o go)
    (hb : attributeBase o name X.env (eval o X.env) = eval o X.env) (hl : (apos.endLine == pos.line) = true) :
    SE X cl W (.Call (.Attribute o name apos) [] [] pos) (eMeth F m go eNil) := by
  subst hn
  refine PE.imp (pe_methD0 hr tk ho hb hl) fun σ H Q ⟨B, r, M, s, R, S, oo⟩ => ⟨B, r, M, s, R, S, oo.step fun x v r1 M1 H1 g1 R1 v1 o1 => ?_⟩
  split at o1
  · rename_i n c fs ei
    split at o1
    · rename_i f ef
      obtain ⟨pa, dx, xs, rfl, rfl, hp, h', ho', nb, nr, ci, hs'⟩ := ins_at R1 v1 ei
      obtain ⟨fa, fd, ps, hM, hB, hF, hL⟩ := MO c m f ef
      have hv : VRs X.K cl B r1 H1 [.ref pa] [.ref n] := .cons v1 .nil
      have o2 : Out X.K cl (VR X.K cl B) W σ B r1 H1 (F.call f [.ref n] M1) (KQ Q) := o1
      refine ⟨pa, cl c, dx, xs, fa, fd, ps, _, rfl, h', ci.cls, hM, fld_none (methN_ok hm) hs', hF, hB, sp_of R1 hv ?_ o2⟩
      rw [Paired.length hv]
      exact Decidable.byContradiction fun z => by rw [hL _ _ z] at o2; exact o2
    · exact o1.elim
  · exact o1.elim
end

/-! ### C(..) -/
section
variable {X : Cx} {W : WX} {k : Nat} {x : Str} {C f : Addr} {fd : FuncData} {ps : List Str} {sp : Sp} {e : Expr} {es : List Expr} {t : TA} {p pos : Pos}
def tMakeS (W : WX) (C : Addr) (sp : Sp) (t : TA) : TE := fun σ H Q => t σ H fun vs H1 => ∀ x dx, H1 x = none → H1 dx = none → dx ≠ x →
  sp (.ref x :: vs) (upd (upd H1 dx (.own x)) x (.ins C dx [])) (fun v H2 => v = .non ∧ Q (.ref x) H2) (WE W σ)
theorem run_makeS {pins : List (Addr × Obj)} {σ : L2.St} {H : Hp} {s : Shared} {Q : VK} {us : List Value} {vs : List V} (MK : L2.Mk X.K C f) (F : FnOk X.prog X.w X.K X.mg X.base (CXb X.prog X.w) k f fd ps sp) (hr : Room (k + 1) X.A) (hb : Binds X.K fd ps []) (tk : Tk X W)
    (I : Inv X pins σ H s) (r : Vals vs us)
    (h : ∀ x dx, H x = none → H dx = none → dx ≠ x → sp (.ref x :: vs) (upd (upd H dx (.own x)) x (.ins C dx [])) (fun v H2 => v = .non ∧ Q (.ref x) H2) (WE W σ)) :
    wpAny (model X.prog X.w) X.A (call (.ref C) us) (EP X pins σ Q) X.xe s := by
  have q1 := h (s.heap.objs.size + 1) s.heap.objs.size (I.hok.fresh (Nat.le_succ _)) (I.hok.fresh (Nat.le_refl _)) (Nat.ne_of_lt (Nat.lt_succ_self _))
  have J := Inv.made (C := C) I
  have rr : Vals (V.ref (s.heap.objs.size + 1) :: vs) (Value.ref (s.heap.objs.size + 1) :: us) := .cons rfl r
  have len : (Value.ref (s.heap.objs.size + 1) :: us).length = ps.length := by rw [← rr.length, F.len _ _ _ _ q1]
  have bb := hb _ (Value.ref (s.heap.objs.size + 1) :: us) J.kIn (by rw [List.append_nil]; exact len)
  rw [List.append_nil] at bb
  have run := F.run _ X.stack _ _ ⟨Value.ref (s.heap.objs.size + 1) :: us, []⟩ (Value.ref (s.heap.objs.size + 1) :: us) _ _ (WE W σ) (hr.make C us []) (J.env0.make C us []) bb rr q1
  refine wpAny_call (make_map (f := f) I.kIn MK.makes MK.init (beq_iff_eq.mp MK.fn) (codeAny_mono run fun res s2 z => ?_))
  cases res with
  | error er => exact tk.pass σ pins _ _ er s2 J z
  | ok fl =>
    cases fl with
    | ret u =>
      obtain ⟨v, H2, J2, rv, rfl, q2⟩ := J.after z
      exact ⟨rv, ⟨V.ref (s.heap.objs.size + 1), H2, J2, rfl, q2⟩⟩
    | next => exact z.elim
    | brk => exact z.elim
    | cont => exact z.elim
theorem pe_makeS (MK : L2.Mk X.K C f) (F : FnOk X.prog X.w X.K X.mg X.base (CXb X.prog X.w) k f fd ps sp) (hr : Room (k + 1) X.A) (hg : Gl X x) (hm : X.mg x = some (.ref C)) (hb : Binds X.K fd ps []) (tk : Tk X W) (ha : PA X (e :: es) t)
    (hdb : (x == ("__debug__" : Str)) = false) (hs : (e :: es).all notStar = true) : PE X (.Call (.Name x p) (e :: es) [] pos) (tMakeS W C sp t) := by
  have hs' := hs
  simp only [List.all_cons, Bool.and_eq_true] at hs'
  refine ⟨fun pins s σ H Q I h => wpAny_Call_Name_kw (ld_glob I hg hm ?_ hdb)⟩
  refine PySem.W.callWith_K (h₀ := X.base) I.ok.mod.kin MK.kp (thn (ha.run pos pins s σ H _ I h) fun us s1 hu => ?_) (star_cons hs'.1) (star_all hs'.2)
  obtain ⟨vs, H1, I1, r, q⟩ := hu
  exact ⟨I1.kIn, run_makeS MK F hr hb tk I1 r q⟩
theorem pe_makeS0 (MK : L2.Mk X.K C f) (F : FnOk X.prog X.w X.K X.mg X.base (CXb X.prog X.w) k f fd ps sp) (hr : Room (k + 1) X.A) (hg : Gl X x) (hm : X.mg x = some (.ref C)) (hb : Binds X.K fd ps []) (tk : Tk X W)
    (hdb : (x == ("__debug__" : Str)) = false) : PE X (.Call (.Name x p) [] [] pos) (tMakeS W C sp tNil) :=
  ⟨fun pins s σ H Q I h => wpAny_Call_Name_kw (ld_glob I hg hm (PySem.W.callWith_K0 I.kIn MK.kp (run_makeS (us := []) MK F hr hb tk I .nil h)) hdb)⟩
end
section
variable {X : Cx} {cl : Nat → Addr} {W : WX} {F : FEnv} {k : Nat} {x : Str} {e : Expr} {es : List Expr} {gs : Slots → Store → R (List Val)} {pos p : Pos}
def eMake (F : FEnv) (c : Nat) (gs : Slots → Store → R (List Val)) : Slots → Store → R Val := fun s M => (gs s M).bind fun vs M => (match F.meth c 0 with
      | some f => (F.call0 f (.ref M.length :: vs) (M ++ [.ins c []])).bind fun v M' => (match v with | .d .none => .ok (.ref M.length) M' | _ => .bad)
      | none => .bad)
/-- a class of the text that is made -/
structure MakeOk (X : Cx) (cl : Nat → Addr) (F : FEnv) (k : Nat) (x : Str) (c : Nat) : Prop where
  g : X.mg x = some (.ref (cl c))
  ci : InsC X.K (cl c)
  ini : ∃ f fa fd ps, F.meth c 0 = some f ∧ L2.Mk X.K (cl c) fa ∧ Binds X.K fd ps [] ∧ FnOk X.prog X.w X.K X.mg X.base (CXb X.prog X.w) k fa fd ps (spF X.K cl ps.length (F.call0 f)) ∧ ∀ vs M, vs.length ≠ ps.length → F.call0 f vs M = .bad
theorem make_sp {K : PySem.W.Frag} {σ : L2.St} {B r : List Addr} {H : Hp} {M : Store} {Q : VK} {us : List V} {vs : List Val} {n c f : Nat} (ci : InsC K (cl c)) (R : Rel K cl B r M H) (hv : VRs K cl B r H us vs) (hL : ∀ vs M, vs.length ≠ n → F.call0 f vs M = .bad)
    (o : Out K cl (VR K cl B) W σ B r H ((F.call0 f (.ref M.length :: vs) (M ++ [.ins c []])).bind fun v M' => (match v with | .d .none => .ok (.ref M.length) M' | _ => .bad)) (KQ Q)) {a dx : Addr} (ha : H a = none) (hd : H dx = none) (hne : dx ≠ a) :
    spF K cl n (F.call0 f) (.ref a :: us) (upd (upd H dx (.own a)) a (.ins (cl c) dx [])) (fun v H2 => v = .non ∧ Q (.ref a) H2) (WE W σ) := by
  have g1 : Grow r H r (upd H dx (.own a)) := Grow.laid hd
  have ha1 : upd H dx (.own a) a = none := by rw [upd_ne (Ne.symm hne)]; exact ha
  have g2 : Grow r (upd H dx (.own a)) (r ++ [a]) (upd (upd H dx (.own a)) a (.ins (cl c) dx [])) := Grow.cell ha1
  have hdr : dx ∉ r := fun z => by obtain ⟨_, q, _⟩ := R.isSome z; rw [hd] at q; cases q
  have R1 : Rel K cl B r M (upd H dx (.own a)) := R.laid hd
  have R2 : Rel K cl B (r ++ [a]) (M ++ [.ins c []]) (upd (upd H dx (.own a)) a (.ins (cl c) dx [])) := by
    refine R1.newcell ha1 (.ins upd_same (by rw [upd_ne hne, upd_same]) (fun z => R.bs dx z hd) (fun z => ?_) ci .nil)
    rcases List.mem_append.mp z with q | q
    · exact hdr q
    · simp at q; exact hne q
  have g := g1.trans g2
  have hself : VR K cl B (r ++ [a]) (upd (upd H dx (.own a)) a (.ins (cl c) dx [])) (.ref a) (.ref M.length) := .ref (by rw [← R.len]; simp)
  have hall : VRs K cl B (r ++ [a]) (upd (upd H dx (.own a)) a (.ins (cl c) dx [])) (.ref a :: us) (.ref M.length :: vs) := .cons hself (VRs.mono g hv)
  refine ⟨?_, B, r ++ [a], M ++ [.ins c []], .ref M.length :: vs, R2, hall, ?_⟩
  · rw [Paired.length hall]
    exact Decidable.byContradiction fun z => by rw [hL _ _ z] at o; exact o
  · cases q : F.call0 f (.ref M.length :: vs) (M ++ [.ins c []]) with
    | bad => rw [q] at o; exact o
    | exc k' M' =>
      rw [q] at o
      exact fun H' r' g' R' => o H' r' (g.trans g') R'
    | ok v M' =>
      rw [q] at o
      simp only [Gv.R.bind_ok] at o
      intro u H' r' g' R' hu
      split at o
      · exact ⟨hu.none, o (.ref a) H' r' (g.trans g') R' (hself.mono g')⟩
      · exact o.elim
theorem se_make {c : Nat} (MK : MakeOk X cl F k x c) (hr : Room (k + 1) X.A) (tk : Tk X W) (hg : Gl X x) (ha : SA X cl W (e :: es) gs) (hdb : (x == ("__debug__" : Str)) = false) (hs : (e :: es).all notStar = true) :
    SE X cl W (.Call (.Name x p) (e :: es) [] pos) (eMake F c gs) := by
  obtain ⟨f, fa, fd, ps, ef, hM, hB, hF, hL⟩ := MK.ini
  refine PE.imp (pe_makeS hM hF hr hg MK.g hB tk ha hdb hs) fun σ H Q ⟨B, r, M, s, R, S, oo⟩ => ⟨B, r, M, s, R, S, oo.step fun us vs r1 M1 H1 g1 R1 v1 o1 => ?_⟩
  intro a dx na nd ne
  simp only [ef] at o1
  exact make_sp MK.ci R1 v1 hL o1 na nd ne
theorem se_make0 {c : Nat} (MK : MakeOk X cl F k x c) (hr : Room (k + 1) X.A) (tk : Tk X W) (hg : Gl X x) (hdb : (x == ("__debug__" : Str)) = false) : SE X cl W (.Call (.Name x p) [] [] pos) (eMake F c eNil) := by
  obtain ⟨f, fa, fd, ps, ef, hM, hB, hF, hL⟩ := MK.ini
  refine PE.imp (pe_makeS0 hM hF hr hg MK.g hB tk hdb) fun σ H Q ⟨B, r, M, s, R, S, oo⟩ => ?_
  intro a dx na nd ne
  unfold eMake eNil at oo
  simp only [ef, Gv.R.bind_ok] at oo
  exact make_sp MK.ci R .nil hL oo na nd ne
end
end Gv

namespace Gv
open PySem PySem.Spec PyProof.Rows L2

/-! ### raise -/
/-- an own class of exceptions, without an own __init__ -/
structure ExcOk (X : Cx) (cl : Nat → Addr) (x : Str) (c : Nat) : Prop where
  g : X.mg x = some (.ref (cl c))
  ex : PySem.W.excIn X.K (cl c) He.veBase "ValueError.__new__" = true
  kp : PySem.W.keepIn X.K (.ref (cl c)) = true
  su : PySem.W.subIn X.K (.ref (cl c)) (.type "BaseException") = some true
  ty : PySem.W.typeIn X.K (.ref (cl c)) = some (.type "type")
section
variable {X : Cx} {cl : Nat → Addr} {W : WX} {x : Str} {pos p p2 p3 : Pos}
theorem ss_raise {c j : Nat} {m : Str} (E : ExcOk X cl x c) (hlow : c < 100) (hc : X.calm = true) (tk : Takes X W) (hg : Gl X x) (hd : (x == ("__debug__" : Str)) = false) :
    SS X cl W (.Raise (some (.Call (.Name x p) [.Constant (.str m) j p2] [] p3)) none pos) (fun s M => .exc c s M) :=
  PS.imp (L2N.ps_raise hc tk.n (L2N.pmk_own PySem.F.excBase_ValueError E.ex E.g E.kp (raises_own E.su E.ty) hg hd)) fun D σ H ⟨B, r, M, s, R, S, o⟩ => ⟨cl c, rfl, by
    have q := o σ H r .refl R S
    rwa [xv_low hlow] at q⟩
end

/-! ### try: .., except x as n: y = n -/
section
variable {X : Cx} {pins : List (Addr × Obj)} {σ : L2.St} {H : Hp} {s : Shared}
/-- an object that came later is tracked from now on -/
theorem Inv.track (I : Inv X pins σ H s) {a : Addr} {o : HO} (na : H a = none) (n0 : X.s_0.heap.get? a = none) (nL : a ≠ X.env.locals) (nc : ∀ x c, X.env.cells.lookup x = some c → c ≠ a) (np : ∀ p ∈ X.pn ++ pins, p.1 ≠ a)
    (new : ObjOk X.prog X.w (upd H a o) s.heap a o) : Inv X pins σ (upd H a o) s := by
  have up : ∀ {b u}, H b = some u → upd H a o b = some u := fun {b u} e => by rw [upd_ne (fun z => by rw [z, na] at e; cases e)]; exact e
  have un : ∀ {b}, b ≠ a → H b = none → upd H a o b = none := fun {b} hb e => by rw [upd_ne hb]; exact e
  refine ⟨I.ok, I.os, I.bare, ⟨I.base.keep, I.base.slot, fun b u e n hx => ?_, I.base.there, fun b xs e => up (I.base.tups b xs e), fun b u v e => up (I.base.frzs b u v e), fun b ps e => ?_⟩, I.loc, I.cell, un (Ne.symm nL) I.free, fun y c e => un (nc y c e) (I.freeC y c e), fun q hq => ?_, fun b u e => ?_, I.len⟩
  · exact un (fun z => by rw [z, n0] at e; cases e) (I.base.free b u e n hx)
  · obtain ⟨more, q⟩ := I.base.tbls b ps e
    exact ⟨more, up q⟩
  · obtain ⟨h1, h2, h3⟩ := I.pin q hq
    exact ⟨h1, un (np q hq) h2, h3⟩
  · by_cases hb : b = a
    · subst hb
      rw [upd_same] at e
      cases e
      exact new
    · rw [upd_ne hb] at e
      exact (I.hok b u e).stay (fun _ _ _ q => q) (fun _ q => up q) fun _ _ q => up q
end
/-- what the clause wishes of an exception: an own one is held by y -/
def wHeld (K : PySem.W.Frag) (c : Value) (i j : Nat) (Wout : WX) (D : Ends) : WX := fun cls d σ H =>
  ∃ b, PySem.W.exmOne K cls c = some b ∧ (b = true → ∃ C, cls = .ref C ∧ d = none ∧ ∀ a, H a = none → D.nx (((σ.set i (some (.ref a))).set j (some (.ref a))).set i none) (upd H a (ExV C a))) ∧ (b = false → Wout cls d σ H)
section
variable {X : Cx} {x n y : Str} {c : Value} {i j : Nat} {body : List Stmt} {np pos pos' py pn2 pa : Pos} {tb : WX → TS} {Wout : WX}
theorem ps_try_held (hex : X.ex = []) (hs : X.stack = X.env :: X.outer) (hf : X.env.frame = some X.env.locals) (hN : X.N.Nodup) (hi : X.N[i]? = some n) (hj : X.N[j]? = some y) (hij : i ≠ j) (hln : X.env.kindOf n = some .local) (hly : X.env.kindOf y = some .local)
    (hc : Names X x c) (tk : L2.Takes X Wout) (hdn : (n == ("__debug__" : Str)) = false) (hdn2 : (n == ("__classdict__" : Str)) = false)
    (hb : ∀ (W : WX) (pn : List (Addr × Obj)) (xe : Value → Shared → Prop), L2.Takes (X.tr pn xe) W → PassesOwn (model X.prog X.w) X.A X.env xe → PSs (X.tr pn xe) body (tb W)) :
    PS X (.Try body [.ExceptHandler (some (.Name x np)) (some n) [.Assign [.Name y py] (.Name n pn2) pa] pos'] [] [] pos) (fun D σ H => tb (wHeld X.K c i j Wout D) D σ H) := by
  refine ⟨fun pins s σ H D I h => wpAny_Try_except ?_⟩
  have ok := I.ok
  have frm : X.A.frames = some (X.env :: X.outer) := ok.frames.trans (congrArg some hs)
  have run := (hb (wHeld X.K c i j Wout D) (X.pn ++ pins) (fun ev t1 => wpAny (model X.prog X.w) X.A (noteFrame ev X.env) (fun _ t2 => wpAny (model X.prog X.w) X.A (setFlight ev none)
    (fun _ t3 => wpAny (model X.prog X.w) X.A (handleBy ev X.env [.ExceptHandler (some (.Name x np)) (some n) [.Assign [.Name y py] (.Name n pn2) pa] pos']) (SP X pins D) X.xe t3) X.xe t2) X.xe t1) (fun u t xx => ?_) PassesOwn.looking).run [] s σ H D (I.toTry _) h
  · refine wpAny_mono run (fun fl t1 sp => ?_) (fun _ _ z => z)
    cases fl with
    | next => obtain ⟨σ1, H1, J1, q1⟩ := sp; exact wpAny_execs_nil ⟨σ1, H1, J1.ofTry ok, q1⟩
    | brk => obtain ⟨σ1, H1, J1, q1⟩ := sp; exact ⟨σ1, H1, J1.ofTry ok, q1⟩
    | cont => obtain ⟨σ1, H1, J1, q1⟩ := sp; exact ⟨σ1, H1, J1.ofTry ok, q1⟩
    | ret u => obtain ⟨w, σ1, H1, J1, r1, q1⟩ := sp; exact ⟨w, σ1, H1, J1.ofTry ok, r1, q1⟩
  · obtain ⟨a, G, t0, pins0, σ1, H1, cls, d, rfl, J0, nb, up, sky, na, os, ag, b, hbm, yes, no⟩ := xx
    have J : Inv X pins σ1 H1 t0 := J0.ofTry ok
    rw [show X.stack = X.env :: X.outer from hs] at sky
    show wpAny (model X.prog X.w) X.A (noteFrame (.ref a) X.env) _ _ _
    refine Sky.land Zc.steady frm hf sky fun h3 fl3 up3 => ?_
    have gone : G.get? a = none := fl3.2.1
    have J3 : Inv X pins σ1 H1 { t with heap := h3 } := J.landed nb fl3.1 (up.trans up3) os ag
    obtain ⟨oe3, vs3, he3, hz3, hd3⟩ := fl3.there
    have out : a ∉ frs (X.env :: X.outer) := fun z => by
      obtain ⟨_, o', e', hn⟩ := fl3.2.2.1.mem z
      rw [he3] at e'
      cases e'
      exact hn _ hd3
    have nL : a ≠ X.env.locals := fun z => out (List.mem_filterMap.mpr ⟨X.env, by simp, by rw [hf, z]⟩)
    have nF : a ∉ X.fs := fun z => by
      obtain ⟨ev, hev, q⟩ := List.mem_filterMap.mp z
      exact out (List.mem_filterMap.mpr ⟨ev, by simp [hev], q⟩)
    have S3 := J3.suite he3 hd3 na nL nF
    refine wpAny_handleBy_cons (codeAny_handlers_test ?_) (fun q => nomatch q)
    have look : PySem.W.Looks (model X.prog X.w) h3 (typeOf (.ref a)) cls := fun _ _ _ _ kk q => wpAny_typeOf_ref (kk _ _ he3) (hz3.1.symm ▸ q)
    have mt := PySem.W.exm_one (M := model X.prog X.w) J3.kIn look hbm
    have test : ∀ {Q E : Value → Shared → Prop}, Q c { t with heap := h3 } → wpAny (model X.prog X.w) (X.A.mark (some (.ref a))) (eval (.Name x np) X.env) Q E { t with heap := h3 } := fun {Q E} q => by
      rcases hc with ⟨hg, hdb, hm | ⟨hm, hv, hnn⟩⟩
      · exact ld_glob (X := X.suite a ((a, oe3) :: (X.pn ++ pins))) S3 hg hm q hdb
      · exact ld_blt (X := X.suite a ((a, oe3) :: (X.pn ++ pins))) S3 hg hm hv q hnn hdb
    refine test (mt.here ?_)
    cases b with
    | true =>
      obtain ⟨C, rfl, rfl, go⟩ := yes rfl
      refine codeAny_handlers_suite_as (HandSPX.lands_againZ fl3 fun h4 fl4 up4 => ?_)
      have J4 : Inv X pins σ1 H1 { t with heap := h4 } := J.landed nb fl4.1 ((up.trans up3).trans up4) os ag
      obtain ⟨oe, vs, he, hz, hd⟩ := fl4.there
      have S4 := J4.suite he hd na nL nF
      refine store_ok (X := X.suite a ((a, oe) :: (X.pn ++ pins))) (v := .ref a) S4 hN hi (.inl hln) rfl (fun t5 S5 => ?_) (.inr hln)
      have asg : PSs (X.suite a ((a, oe) :: (X.pn ++ pins))) [.Assign [.Name y py] (.Name n pn2) pa] (tAsg (tVar i) (gName j)) :=
        pss_one (ps_asg (pe_var hi (.inl hln) hdn hdn2) (pg_name hN hj (.inl hly) (.inr hly)) rfl rfl rfl)
      have hlen : i < σ1.length := by
        rw [J.len]
        exact (List.getElem?_eq_some_iff.mp hi).1
      have wish : tAsg (tVar i) (gName j) { nx := fun σ' H' => σ' = (σ1.set i (some (.ref a))).set j (some (.ref a)) ∧ H' = H1, rt := fun _ _ => False, bk := fun _ _ => False, ct := fun _ _ => False } (σ1.set i (some (.ref a))) H1 :=
        ⟨.ref a, List.getElem?_set_self hlen, rfl, rfl⟩
      refine wpAny_mono (asg.run [] t5 _ H1 _ S5 wish) (fun fl t6 sp => ?_) (fun _ _ z => z.elim)
      cases fl with
      | brk => obtain ⟨_, _, _, q⟩ := sp; exact q.elim
      | cont => obtain ⟨_, _, _, q⟩ := sp; exact q.elim
      | ret u => obtain ⟨_, _, _, _, _, q⟩ := sp; exact q.elim
      | next =>
        obtain ⟨σ6, H6, S6, eσ, eH⟩ := sp
        rw [eσ, eH] at S6
        have J6 : Inv X ((a, oe) :: pins) ((σ1.set i (some (.ref a))).set j (some (.ref a))) H1 t6 := ⟨ok, S6.os, S6.bare, S6.base, S6.loc, S6.cell, S6.free, S6.freeC, (fun q hq => S6.pin q (by
          simp only [List.append_nil, List.mem_append, List.mem_cons] at hq ⊢
          rcases hq with hq | hq | hq
          · exact .inr (.inl hq)
          · exact .inl hq
          · exact .inr (.inr hq))), S6.hok, S6.len⟩
        refine gone_ok J6 hN hi hln fun t7 J7 => ⟨_, _, ?_, go a na⟩
        have pa7 := J7.pin (a, oe) (by simp)
        have there : t7.heap.get? a = some oe := pa7.1
        have J7' : Inv X pins (((σ1.set i (some (.ref a))).set j (some (.ref a))).set i none) H1 t7 := ⟨J7.ok, J7.os, J7.bare, J7.base, J7.loc, J7.cell, J7.free, J7.freeC, (fun q hq => J7.pin q (by
          simp only [List.mem_append, List.mem_cons] at hq ⊢
          rcases hq with hq | hq
          · exact .inl hq
          · exact .inr (.inr hq))), J7.hok, J7.len⟩
        have apart : ∀ {b o}, t0.heap.get? b = some o → b ∉ frs X.stack → b ≠ a := fun {b o} e nf z => by
          have q := nb b o e nf
          rw [z, gone] at q
          cases q
        refine Inv.track J7' na ?_ nL (fun z c' ec q => ?_) (fun q hq z => ?_) ⟨⟨oe, vs, there, hz, hd⟩, ⟨oe, there⟩, fun g1 g2 hg kk => ?_⟩
        · cases e0 : X.s_0.heap.get? a with
          | none => rfl
          | some o0 =>
            obtain ⟨o1, e1⟩ := J.base.there a o0 e0 (by rw [hex]; simp)
            exact absurd rfl (apart e1 (by rw [hs]; exact out))
        · obtain ⟨w, hw⟩ := J7.cell z c' ec
          obtain ⟨oc, e1, e3⟩ := hw
          rw [q, there] at e1
          cases e1
          rw [hd] at e3
          cases e3
        · obtain ⟨e1, _, e3, e4, _⟩ := J.pin q hq
          refine apart e1 (fun hm => ?_) z
          rw [hs] at hm
          obtain ⟨ev, hev, e5⟩ := List.mem_filterMap.mp hm
          rcases List.mem_cons.mp hev with rfl | hev
          · rw [hf] at e5
            exact e3 (Option.some.inj e5).symm
          · exact e4 (List.mem_filterMap.mpr ⟨ev, hev, e5⟩)
        · obtain ⟨oe', vs', e1, e2, e3⟩ := hg
          exact ⟨oe', vs', kk _ e1, e2, e3⟩
    | false =>
      refine wpAny_handleBy_nil ?_
      have fl3' := fl3
      obtain ⟨k1, k2, k3, oe, vs, T, oT, ts, he, hz, hd, h1, hr⟩ := fl3'
      unfold PySem.passOn
      refine wpAny_bind (wpAny_field he hd h1 ?_)
      rw [if_neg (show ¬ ((Value.ref T == Value.none) = true) by simp)]
      have last : wpAny (model X.prog X.w) X.A (setFlight (.ref a) X.env.frame) (fun _ t4 => wpAny (model X.prog X.w) X.A (throw (.ref a) : Sem Flow) (SP X pins D) X.xe t4) X.xe { t with heap := h3 } := by
        rw [hf]
        refine HandSPX.setFlight_upZ fl3 fun h4 held up4 => wpAny_throw (tk _ _ ⟨a, G, t0, pins, σ1, H1, cls, d, rfl, J, nb, (up.trans up3).trans up4, ?_, na, os, ag, no rfl⟩)
        rw [hs]
        exact .inr (.inr held)
      first
        | exact wpAny_bind (wpAny_pure (wpAny_bind last))
        | exact wpAny_bind last
end
section
variable {X : Cx} {cl : Nat → Addr} {W : WX} {F : FEnv} {wf : Nat} {x n y : Str} {i j c : Nat} {body : List Stmt} {np pos pos' py pn2 pa : Pos}
/-- the classes' order, as except and isinstance ask -/
structure SubOk (K : PySem.W.Frag) (cl : Nat → Addr) (sub : Nat → Nat → Option Bool) : Prop where
  em : ∀ k c b, sub k c = some b → PySem.W.exmOne K (.ref (cl k)) (.ref (cl c)) = some b
  ki : ∀ k c b, sub k c = some b → PySem.W.kitOne K (.ref (cl k)) (.ref (cl c)) = some b
  ve : ∀ k c b, sub k c = some b → PySem.W.kitOne K (.ref (cl k)) (.type "ValueError") = some true
  ec : ∀ k c b, sub k c = some b → ExcC K (cl k)
/-- the class, the mark taken away -/
def unl : Value → Value
  | .int i _ => .ref i.toNat
  | v => v
theorem unl_xv {cl : Nat → Addr} {c : Nat} : unl (xv cl c) = .ref (cl (bsc c)) := by
  unfold xv bsc
  split <;> rfl
abbrev lift (W0 : WX) : WX := fun c d σ H => W0 (unl c) d σ H
abbrev lateW (W : WX) : WX := fun c d σ H => ∃ a : Addr, c = .ref a ∧ W (.int ((a : Nat) : Int) 0) d σ H
theorem Takes.lift {X : Cx} {W0 : WX} (tk : L2.Takes X W0) : Takes X (lift W0) := by
  refine ⟨fun u s' x => tk u s' ?_, fun u s' x => tk u s' ?_⟩
  · obtain ⟨a, B, sI, pins, σ, H, cls, d, e, I, nb, up, sky, na, os, ag, C, ec, w⟩ := x
    subst ec
    exact ⟨a, B, sI, pins, σ, H, .ref C, d, e, I, nb, up, sky_imp (fun o z => z.zc) sky, na, os, ag, w⟩
  · obtain ⟨a, B, sI, pins, σ, H, cls, d, e, I, nb, up, sky, na, os, ag, i, tt, ec, w⟩ := x
    subst ec
    exact ⟨a, B, sI, pins, σ, H, .ref i.toNat, d, e, I, nb, up, sky, na, os, ag, w⟩
theorem Takes.late {X : Cx} {W : WX} (tk : Takes X W) : L2.Takes X (lateW W) :=
  tk.z.imp fun c d σ H ⟨a, e, w⟩ => ⟨((a : Nat) : Int), 0, by rw [e, Int.toNat_natCast], w⟩
def sTryas (sub : Nat → Nat → Option Bool) (c i j : Nat) (gb : Slots → Store → SR) : Slots → Store → SR := fun s M => (match gb s M with
      | .exc k s1 M1 => (match sub (bsc k) c with
        | some true => .next ((s1.set j (some (.exc (bsc k)))).set i none) M1
        | some false => .exc (bsc k + 100) s1 M1
        | none => .bad)
      | r => r)
theorem ss_tryas {gb : Slots → Store → SR} (SO : SubOk X.K cl F.sub) (hg : X.mg x = some (.ref (cl c))) (hgl : Gl X x) (hdx : (x == ("__debug__" : Str)) = false)
    (hex : X.ex = []) (hs : X.stack = X.env :: X.outer) (hf : X.env.frame = some X.env.locals) (hN : X.N.Nodup) (hi : X.N[i]? = some n) (hj : X.N[j]? = some y) (hij : i ≠ j) (hln : X.env.kindOf n = some .local) (hly : X.env.kindOf y = some .local)
    (tk : Takes X W) (hdn : (n == ("__debug__" : Str)) = false) (hdn2 : (n == ("__classdict__" : Str)) = false)
    (hb : ∀ (W : WX) (pn : List (Addr × Obj)) (xe : Value → Shared → Prop), Takes (X.tr pn xe) W → PassesOwn (model X.prog X.w) X.A X.env xe → SSs (X.tr pn xe) cl W body gb) :
    SS X cl W (.Try body [.ExceptHandler (some (.Name x np)) (some n) [.Assign [.Name y py] (.Name n pn2) pa] pos'] [] [] pos) (sTryas F.sub c i j gb) :=
  PS.imp (ps_try_held (tb := fun W0 => rdS X.K cl (lift W0) gb) hex hs hf hN hi hj hij hln hly ⟨hgl, hdx, .inl hg⟩ tk.late hdn hdn2 fun W0 pn xe t0 po => hb (lift W0) pn xe (Takes.lift t0) po) fun D σ H ⟨B, r, M, s, R, S, o⟩ => by
    refine ⟨B, r, M, s, R, S, ?_⟩
    unfold sTryas at o
    cases q : gb s M with
    | bad => rw [q] at o; exact o
    | next s1 M1 => rw [q] at o; exact o
    | ret v M1 => rw [q] at o; exact o
    | exc k0 s1 M1 =>
      rw [q] at o
      dsimp only at o
      intro σ1 H1 r1 g1 R1 S1
      show wHeld X.K (.ref (cl c)) i j (lateW W) D (unl (xv cl k0)) none σ1 H1
      rw [unl_xv]
      obtain ⟨k, hk⟩ : ∃ k, bsc k0 = k := ⟨_, rfl⟩
      rw [hk] at o ⊢
      cases hsub : F.sub k c with
      | none => simp only [hsub] at o; exact o.elim
      | some b =>
        simp only [hsub] at o
        refine ⟨b, SO.em k c b hsub, fun hT => ⟨cl k, rfl, rfl, fun a na => ?_⟩, fun hF => ?_⟩
        · subst hT
          have ga : Grow r1 H1 r1 (upd H1 a (ExV (cl k) a)) := Grow.laid na
          have nr : a ∉ r1 := fun z => by obtain ⟨_, q, _⟩ := R1.isSome z; rw [na] at q; cases q
          have nB : a ∉ B := fun z => R1.bs a z na
          have ve : VR X.K cl B r1 (upd H1 a (ExV (cl k) a)) (.ref a) (.exc k) := .exc upd_same nB nr
          have S2 : SRel X.K cl B r1 (upd H1 a (ExV (cl k) a)) (((σ1.set i (some (.ref a))).set j (some (.ref a))).set i none) ((s1.set j (some (.exc k))).set i none) := by
            have T1 := (S1.mono ga).none i (some (.ref a))
            have T2 : SRel X.K cl B r1 (upd H1 a (ExV (cl k) a)) ((σ1.set i (some (.ref a))).set j (some (.ref a))) ((s1.set i none).set j (some (.exc k))) := T1.set ve j
            have T3 := T2.none i none
            have e : ((s1.set i none).set j (some (.exc k))).set i none = (s1.set j (some (.exc k))).set i none := by
              rw [List.set_comm _ _ hij, List.set_set]
            rw [← e]
            exact T3
          exact o _ _ r1 (g1.trans ga) (R1.laid na) S2
        · subst hF
          have q := o σ1 H1 r1 g1 R1 S1
          rw [xv_late] at q
          exact ⟨cl k, rfl, q⟩
end

/-! ### try: .., except x: raise y(..) from None -/
section
variable {X : Cx} {cl : Nat → Addr} {W : WX} {F : FEnv} {x y : Str} {c d j j2 : Nat} {m : Str} {body : List Stmt} {np p1 p2 p3 p4 p5 p6 pos : Pos}
/-- y('..') of an own class, with what a raise in a suite asks -/
theorem pmk5_own {C : Addr} {y : Str} {j : Nat} {m : Str} {p1 p2 p3 : Pos} (hE : PySem.W.excIn X.K C He.veBase "ValueError.__new__" = true) (hG : X.mg y = some (.ref C)) (hK : PySem.W.keepIn X.K (.ref C) = true) (hR : Raises X (.ref C)) (hg : Gl X y)
    (hd : (y == ("__debug__" : Str)) = false) : L2H.PMk5 X (.Call (.Name y p1) [.Constant (.str m) j p2] [] p3) (fun _ H Q => Q (.ref C) none H) :=
  fun pins s σ H Q I h => wpAny_Call_Name_kw (ld_glob I hg hG (PySem.W.callWith_K (h₀ := X.base) I.ok.mod.kin hK (thn ((pa_cons pe_str pa_nil : PA X [.Constant (.str m) j p2] (tCons (tC (.str m)) tNil)).run p3 pins s σ H (fun vs H1 => vs = [V.str m] ∧ H = H1) I ⟨rfl, rfl⟩)
    fun us s1 ⟨vs, H1, I1, r1, ev, eH⟩ => by
      subst ev; subst eH
      refine ⟨I1.kIn, ?_⟩
      cases r1 with
      | cons ru rn => cases rn; obtain ⟨_, _, _, _, _, _, _, _, _, _, _, _, _, _, _, _, _, q1, q2, q3, q4⟩ := exc_obj I1.kIn hE; exact wpAny_call_exc_subT PySem.F.excBase_ValueError q4 q1 q2 q3 (fun h' e hm => L2H.mk_of5 I1 hm hR h (I1.hok.gone hm.new)) (by show 1 ≤ sizeLine; rw [sizeLine_eq]; omega))) hd)
def sTryr (sub : Nat → Nat → Option Bool) (c d : Nat) (gb : Slots → Store → SR) : Slots → Store → SR := fun s M => (match gb s M with
      | .exc k s1 M1 => if k < 100 then (match sub k c with
        | some true => .exc (d + 100) s1 M1
        | _ => .bad) else .bad
      | r => r)
/-- early ones by the one wish, late ones by the other -/
def combW (W W' : WX) : WX := fun c d σ H => match c with
  | .ref C => W (.ref C) d σ H
  | .int i _ => W' (.ref i.toNat) d σ H
  | _ => False
theorem Takes.comb {X : Cx} {W W' : WX} (t1 : L2N.Takes X W) (t2 : L2.Takes X W') : Takes X (combW W W') :=
  ⟨t1.imp fun c d σ H ⟨C, e, w⟩ => by rw [e]; exact w, t2.imp fun c d σ H ⟨i, t, e, w⟩ => by rw [e]; exact w⟩
theorem ss_tryr {gb : Slots → Store → SR} (SO : SubOk X.K cl F.sub) (hgx : X.mg x = some (.ref (cl c))) (hglx : Gl X x) (hdx : (x == ("__debug__" : Str)) = false) (E : ExcOk X cl y d) (hgly : Gl X y) (hdy : (y == ("__debug__" : Str)) = false)
    (hs : X.stack = X.env :: X.outer) (hf : X.env.frame = some X.env.locals) (hpa : ∀ hd : Option Value, PassesOwnAt (model X.prog X.w) (X.A.mark hd) X.A X.env X.xe) (tk : Takes X W)
    (hb : ∀ (W : WX) (pn : List (Addr × Obj)) (xe : Value → Shared → Prop), Takes (X.tr pn xe) W → PassesOwn (model X.prog X.w) X.A X.env xe → SSs (X.tr pn xe) cl W body gb) :
    SS X cl W (.Try body [.ExceptHandler (some (.Name x np)) none [.Raise (some (.Call (.Name y p1) [.Constant (.str m) j p2] [] p3)) (some (.Constant .none j2 p4)) p5] p6] [] [] pos) (sTryr F.sub c d gb) :=
  PS.imp (L2H.ps_try_onlyX (tb := fun W0 => rdS X.K cl (combW W0 (L2H.wPass X.K (.ref (cl c)) (lateW W))) gb) (ts := fun _ _ _ => fun _ σ H => lateW W (.ref (cl d)) none σ H) hs hf ⟨hglx, hdx, .inl hgx⟩ hpa tk.late
    (fun W0 pn xe t1 t2 po => hb _ pn xe (Takes.comb t1 t2) po)
    fun a oe cls dd pn _ _ tkS hot => pss_one (L2H.ps_raiseHN hot tkS (pmk5_own (X := L2H.suiteX X a ((a, oe) :: pn)) E.ex E.g E.kp (raises_own E.su E.ty) hgly hdy))) fun D σ H ⟨B, r, M, s, R, S, o⟩ => by
    refine ⟨B, r, M, s, R, S, ?_⟩
    unfold sTryr at o
    cases q : gb s M with
    | bad => rw [q] at o; exact o
    | next s1 M1 => rw [q] at o; exact o
    | ret v M1 => rw [q] at o; exact o
    | exc k s1 M1 =>
      rw [q] at o
      dsimp only at o
      by_cases hk : k < 100
      · rw [if_pos hk] at o
        cases hsub : F.sub k c with
        | none => simp only [hsub] at o; exact o.elim
        | some b =>
          cases b with
          | false => simp only [hsub] at o; exact o.elim
          | true =>
            simp only [hsub] at o
            intro σ1 H1 r1 g1 R1 S1
            have w := o σ1 H1 r1 g1 R1 S1
            rw [xv_late] at w
            rw [xv_low hk]
            exact ⟨true, SO.em k c true hsub, fun _ a na => ⟨cl d, rfl, w⟩, fun z => nomatch z⟩
      · rw [if_neg hk] at o
        exact o.elim
end

/-! ### isinstance of a held exception -/
section
variable {X : Cx} {cl : Nat → Addr} {W : WX} {F : FEnv} {a : Expr} {ga : Slots → Store → R Val} {pos p p2 : Pos}
def rIsH (K : PySem.W.Frag) : List V → Hp → VK → Prop := fun xs H Q => ∃ (c : V) (cv : Value) (b : Bool) (e D : Addr), xs = [.ref e, c] ∧ H e = some (ExV D e) ∧ ExcC K D ∧ (∀ u, RelV c u → u = cv) ∧ PySem.W.kitOne K (.ref D) cv = some b ∧ Q (.bl b) H
theorem call_isH : CallR X (.builtin "isinstance") (rIsH X.K) := by
  intro pins s σ H xs us Q I r h
  obtain ⟨c, cv, b, ea, D, rfl, he, C, hcv, e, q⟩ := h
  cases r with
  | cons rx rr =>
    cases rr with
    | cons rt rr =>
      cases rr
      cases rx
      have ec := hcv _ rt
      subst ec
      obtain ⟨⟨oe, vs, hget, hz, hv⟩, _⟩ := I.hok ea _ he
      have J : PySem.W.InstAt s.heap ea oe D none := by
        obtain ⟨oc, od, oda, osl⟩ := oe
        obtain ⟨h1, h2⟩ := hz
        dsimp only at h1 h2 hv
        subst h1 h2 hv
        exact ⟨hget, rfl, rfl, trivial⟩
      exact PySem.W.kia_one (PySem.W.handS_kitx_exc C.hg C.hk C.hs C.hd C.ha C.hn C.ht C.hm) I.kIn J e (fun z => nomatch z) fun tk => ⟨.bl b, H, I.kept (t' := tk) fun _ _ z => z, rfl, q⟩
theorem isiE_ok {K : PySem.W.Frag} {σ : L2.St} {B r : List Addr} {H : Hp} {M : Store} {Q : VK} {x : V} {v : Val} {k : Nat} (SO : SubOk K cl F.sub) (R : Rel K cl B r M H) (hx : VR K cl B r H x v)
    (o : Out K cl (VR K cl B) W σ B r H (match isiD F.sub M v (.cls k) with | some b => bl b M | none => .bad) (KQ Q)) : ∃ (e D : Addr) (b : Bool), x = .ref e ∧ H e = some (ExV D e) ∧ ExcC K D ∧ PySem.W.kitOne K (.ref D) (.ref (cl k)) = some b ∧ Q (.bl b) H := by
  split at o
  · rename_i b eb
    unfold isiD at eb
    split at eb
    · rename_i c k' e1
      cases e1
      cases hx with
      | exc h n1 n2 => exact ⟨_, _, b, rfl, h, SO.ec c k b eb, SO.ki c k b eb, bl_ok R o⟩
    · rename_i e1; cases e1
    · simp [plainTy] at eb
  · exact o.elim
theorem isiV_ok {K : PySem.W.Frag} {σ : L2.St} {B r : List Addr} {H : Hp} {M : Store} {Q : VK} {x : V} {v : Val} (SO : SubOk K cl F.sub) (R : Rel K cl B r M H) (hx : VR K cl B r H x v)
    (o : Out K cl (VR K cl B) W σ B r H (match isiD F.sub M v .verr with | some b => bl b M | none => .bad) (KQ Q)) : ∃ (e D : Addr) (b : Bool), x = .ref e ∧ H e = some (ExV D e) ∧ ExcC K D ∧ PySem.W.kitOne K (.ref D) (.type "ValueError") = some b ∧ Q (.bl b) H := by
  split at o
  · rename_i b eb
    unfold isiD at eb
    split at eb
    · rename_i e1; cases e1
    · rename_i c e1
      simp only [Option.bind_eq_some_iff] at eb
      obtain ⟨b', eb', e2⟩ := eb
      cases e2
      cases hx with
      | exc h n1 n2 => exact ⟨_, _, true, rfl, h, SO.ec c c b' eb', SO.ve c c b' eb', bl_ok R o⟩
    · simp [plainTy] at eb
  · exact o.elim
/-- isinstance(a, Y), Y an own class of exceptions -/
theorem se_isiE {y : Str} {k : Nat} (SO : SubOk X.K cl F.sub) (hg : Gl X "isinstance") (hm : X.mg "isinstance" = none) (hgy : Gl X y) (hmy : X.mg y = some (.ref (cl k))) (hdy : (y == ("__debug__" : Str)) = false) (ha : SE X cl W a ga) (hs : notStar a = true) :
    SE X cl W (.Call (.Name "isinstance" p) [a, .Name y p2] [] pos) (eIsi F.sub (.cls k) ga) := by
  have hp : PE X (.Name y p2) (tC (.ref (cl k))) := pe_glob hgy hmy rfl hdy
  refine PE.imp (pe_callB call_isH hg hm (by decide +kernel) (pa_cons ha (pa_cons hp pa_nil (star_cons rfl)) (star_cons hs)) (by decide) (by decide) (star_cons hs) (star_all (by rfl))) fun σ H Q ⟨B, r, M, s, R, S, o⟩ => ⟨B, r, M, s, R, S, o.step fun x v r1 M1 H1 g1 R1 v1 o1 => ?_⟩
  obtain ⟨e, D, b, rfl, he, C, kk, q⟩ := isiE_ok SO R1 v1 o1
  exact ⟨.ref (cl k), .ref (cl k), b, e, D, rfl, he, C, fun u ru => ru, kk, q⟩
theorem se_isiV (SO : SubOk X.K cl F.sub) (hg : Gl X "isinstance") (hm : X.mg "isinstance" = none) (hgy : Gl X "ValueError") (hmy : X.mg "ValueError" = none) (ha : SE X cl W a ga) (hs : notStar a = true) :
    SE X cl W (.Call (.Name "isinstance" p) [a, .Name "ValueError" p2] [] pos) (eIsi F.sub .verr ga) := by
  have hp : PE X (.Name "ValueError" p2) (tC (.ty "ValueError")) := pe_bltn hgy hmy (by decide +kernel) rfl (by decide) (by decide)
  refine PE.imp (pe_callB call_isH hg hm (by decide +kernel) (pa_cons ha (pa_cons hp pa_nil (star_cons rfl)) (star_cons hs)) (by decide) (by decide) (star_cons hs) (star_all (by rfl))) fun σ H Q ⟨B, r, M, s, R, S, o⟩ => ⟨B, r, M, s, R, S, o.step fun x v r1 M1 H1 g1 R1 v1 o1 => ?_⟩
  obtain ⟨e, D, b, rfl, he, C, kk, q⟩ := isiV_ok SO R1 v1 o1
  exact ⟨.ty "ValueError", .type "ValueError", b, e, D, rfl, he, C, fun u ru => ru, kk, q⟩
end
end Gv

namespace Gv
open PySem PySem.Spec PyProof.Rows L2

theorem bind_assoc {α β γ : Type} (x : R α) (f : α → Store → R β) (g : β → Store → R γ) : (x.bind f).bind g = x.bind fun a M => (f a M).bind g := by
  cases x <;> rfl
/-! ### {k: v, ..} -/
section
variable {X : Cx} {cl : Nat → Addr} {W : WX} {pos : Pos}
inductive SPs (X : Cx) (cl : Nat → Addr) (W : WX) : List (Option Expr) → List Expr → (Slots → Store → R (List Val)) → List (TE × TE) → Prop
  | nil : SPs X cl W [] [] eNil []
  | cons {k v : Expr} {ks : List (Option Expr)} {vs : List Expr} {gk gv : Slots → Store → R Val} {g : Slots → Store → R (List Val)} {trs : List (TE × TE)} : SE X cl W k gk → SE X cl W v gv → SPs X cl W ks vs g trs → SPs X cl W (some k :: ks) (v :: vs) (eCons gk (eCons gv g)) ((rdE X.K cl W gk, rdE X.K cl W gv) :: trs)
theorem SPs.pps {ks : List (Option Expr)} {vs : List Expr} {g : Slots → Store → R (List Val)} {trs : List (TE × TE)} (h : SPs X cl W ks vs g trs) : PPs X pos ks vs trs := by
  induction h with
  | nil => exact pps_nil
  | cons hk hv _ ih => exact pps_cons hk hv ih
theorem SPs.all {ks : List (Option Expr)} {vs : List Expr} {g : Slots → Store → R (List Val)} {trs : List (TE × TE)} (h : SPs X cl W ks vs g trs) : ks.all (·.isSome) = true ∧ ks.length = vs.length := by
  induction h with
  | nil => exact ⟨rfl, rfl⟩
  | cons hk hv _ ih => exact ⟨by simpa using ih.1, by simpa using ih.2⟩
def flatP : List (V × V) → List V
  | [] => []
  | p :: r => p.1 :: p.2 :: flatP r
theorem SPs.read {ks : List (Option Expr)} {vs : List Expr} {g : Slots → Store → R (List Val)} {trs : List (TE × TE)} (h : SPs X cl W ks vs g trs) : ∀ {σ : L2.St} {B r : List Addr} {H : Hp} {M : Store} {s : Slots} {Q : List (V × V) → Hp → Prop}, Rel X.K cl B r M H → SRel X.K cl B r H σ s →
    Out X.K cl (VRs X.K cl B) W σ B r H (g s M) (fun us _ _ _ H' => ∀ ps, us = flatP ps → Q ps H') → tPairs trs σ H Q := by
  induction h with
  | nil => exact fun R S o => Out.here (u := ([] : List V)) o R .nil [] rfl
  | cons hk hv _ ih =>
    intro σ B r H M s Q R S o
    refine ⟨B, r, M, s, R, S, Out.step o fun x v r1 M1 H1 g1 R1 v1 o1 => ?_⟩
    unfold eCons at o1
    rw [bind_assoc] at o1
    refine ⟨B, r1, M1, s, R1, S.mono g1, Out.step o1 fun y w r2 M2 H2 g2 R2 v2 o2 => ?_⟩
    rw [bind_assoc] at o2
    refine ih R2 ((S.mono g1).mono g2) (Out.step o2 fun us ws r3 M3 H3 g3 R3 v3 o3 => ?_)
    intro ps e
    subst e
    exact Out.here (u := x :: y :: flatP ps) o3 R3 (.cons ((v1.mono g2).mono g3) (.cons (v2.mono g3) v3)) ((x, y) :: ps) rfl
section
variable {K : PySem.W.Frag} {B r : List Addr} {H : Hp}
theorem pair_up : ∀ {ps : List (V × V)} {vs : List Val} {kvs : List (KK × Val)}, VRs K cl B r H (flatP ps) vs → pairUp vs = some kvs →
    ∃ xs : List (Key × V), ps = xs.map (fun kv => (kV kv.1, kv.2)) ∧ Paired (fun (p : Key × V) (q : KK × Val) => q.1 = .inl p.1 ∧ VR K cl B r H p.2 q.2) xs kvs
  | [], _, kvs, h, e => by
    cases h
    simp only [pairUp, Option.some.injEq] at e
    subst e
    exact ⟨[], rfl, .nil⟩
  | p :: ps, _, kvs, h, e => by
    cases h with
    | cons hk t =>
      cases t with
      | cons hv t =>
        rename_i k w ws
        cases k with
        | d kd =>
          simp only [pairUp, Option.bind_eq_some_iff, Option.map_eq_some_iff] at e
          obtain ⟨k', e1, kvs', e2, rfl⟩ := e
          obtain ⟨xs, rfl, hp⟩ := pair_up t e2
          obtain ⟨kd1, kt⟩ := keyK_ok e1
          rcases hk.inv.key kd1 with ⟨q, rfl, hx⟩ | ⟨qs, b, rfl, _, _⟩
          · refine ⟨(q, p.2) :: xs, ?_, .cons ⟨rfl, hv⟩ hp⟩
            simp [← hx]
          · cases kt
        | _ => simp [pairUp] at e
theorem merge_rel {xs : List (Key × V)} {kvs : List (KK × Val)} {P : V → Val → Prop} : ∀ {acc : List (Key × V)} {acc' : List (KK × Val)}, Paired (fun (p : Key × V) (q : KK × Val) => q.1 = .inl p.1 ∧ P p.2 q.2) xs kvs → Paired (fun (p : Key × V) (q : KK × Val) => q.1 = .inl p.1 ∧ P p.2 q.2) acc acc' →
    Paired (fun (p : Key × V) (q : KK × Val) => q.1 = .inl p.1 ∧ P p.2 q.2) (mergeK acc xs) (kvs.foldl (fun acc kv => dPut acc kv.1 kv.2) acc') := by
  intro acc acc' h
  induction h generalizing acc acc' with
  | nil => exact fun h => h
  | cons a t ih =>
    rename_i p q _ _
    intro ha
    show Paired _ (mergeK (putK acc p.1 p.2) _) _
    rw [List.foldl_cons]
    refine ih ?_
    rw [a.1]
    exact dput_rel (inj := fun k : Key => (Sum.inl k : KK)) inl_inj p.1 a.2 ha
theorem mergeD_len (kvs : List (KK × Val)) : (mergeD kvs).length ≤ kvs.length := by
  have key : ∀ (l acc : List (KK × Val)), (l.foldl (fun acc kv => dPut acc kv.1 kv.2) acc).length ≤ acc.length + l.length := by
    intro l
    induction l with
    | nil => intro acc; simp
    | cons x l ih =>
      intro acc
      rw [List.foldl_cons]
      have h1 := ih (dPut acc x.1 x.2)
      have h2 := dPut_len acc x.1 x.2
      simp only [List.length_cons]
      omega
  have := key kvs []
  simpa [mergeD] using this
end
def eDct (tk : Bool) (gs : Slots → Store → R (List Val)) : Slots → Store → R Val := fun s M => (gs s (M ++ [.dct tk []])).bind fun vs M' => dctFin M.length tk vs M'
theorem fin_empty {M : Store} {tk : Bool} : dctFin M.length tk [] (M ++ [.dct tk []]) = .ok (.ref M.length) (M ++ [.dct tk []]) := by
  unfold dctFin
  rw [show (M ++ [Cell.dct tk []])[M.length]? = some (.dct tk []) by simp]
  simp [pairUp, mergeD]
theorem se_dct0 {tk : Bool} : SE X cl W (.Dict [] [] pos) (eDct tk eNil) := by
  cases tk with
  | false =>
    refine PE.imp pe_dnewK fun σ H Q ⟨B, r, M, s, R, S, o⟩ p hp => ?_
    have o : Out X.K cl (VR X.K cl B) W σ B r H (dctFin M.length false [] (M ++ [Cell.dct false []])) (KQ Q) := o
    rw [fin_empty] at o
    have g : Grow r H (r ++ [p]) (upd H p (.dK [])) := Grow.cell hp
    exact o (.ref p) _ _ g (R.newcell hp (.dK upd_same (by simp) .nil)) (.ref (by rw [← R.len]; simp))
  | true =>
    refine PE.imp pe_dnewT fun σ H Q ⟨B, r, M, s, R, S, o⟩ p hp => ?_
    have o : Out X.K cl (VR X.K cl B) W σ B r H (dctFin M.length true [] (M ++ [Cell.dct true []])) (KQ Q) := o
    rw [fin_empty] at o
    have g : Grow r H (r ++ [p]) (upd H p (.dT [])) := Grow.cell hp
    exact o (.ref p) _ _ g (R.newcell hp (.dT upd_same (by simp) .nil)) (.ref (by rw [← R.len]; simp))
theorem Out.from {K : PySem.W.Frag} {σ : L2.St} {B r r1 : List Addr} {H H1 : Hp} {α β : Type} {P : List Addr → Hp → β → α → Prop} {x : R α} {k : β → α → List Addr → Store → Hp → Prop} (o : Out K cl P W σ B r H x k) (g : Grow r H r1 H1) : Out K cl P W σ B r1 H1 x k := by
  cases x with
  | bad => exact o
  | exc c M2 => exact fun H2 r2 g2 R2 => o H2 r2 (g.trans g2) R2
  | ok w M2 => exact fun u2 H2 r2 g2 R2 p2 => o u2 H2 r2 (g.trans g2) R2 p2
theorem se_dct {ks : List (Option Expr)} {vs : List Expr} {gs : Slots → Store → R (List Val)} {trs : List (TE × TE)} (h : SPs X cl W ks vs gs trs) (h0 : ks ≠ []) (h15 : ks.length ≤ 15) : SE X cl W (.Dict ks vs pos) (eDct false gs) := by
  refine PE.imp (pe_disp h.pps h.all.1 h.all.2 h0 h15) fun σ H Q ⟨B, r, M, s, R, S, o⟩ p hp => ?_
  have g0 : Grow r H (r ++ [p]) (upd H p (.dK [])) := Grow.cell hp
  have R0 : Rel X.K cl B (r ++ [p]) (M ++ [.dct false []]) (upd H p (.dK [])) := R.newcell hp (.dK upd_same (by simp) .nil)
  have hp0 : (r ++ [p])[M.length]? = some p := by rw [← R.len]; simp
  refine h.read R0 (S.mono g0) (Out.step (Out.from o g0) fun us ws r1 M1 H1 g1 R1 v1 o1 => ?_)
  intro ps e
  subst e
  unfold dctFin at o1
  split at o1
  · rename_i t kvs em ek
    split at o1
    · rename_i hc
      simp only [Bool.and_eq_true, decide_eq_true_eq] at hc
      obtain ⟨⟨rfl, h15'⟩, _⟩ := hc
      obtain ⟨xs, rfl, hx⟩ := pair_up v1 ek
      have hpr : r1[M.length]? = some p := by
        obtain ⟨e, he⟩ := g1.pre
        rw [he, List.getElem?_append_left (List.getElem?_eq_some_iff.mp hp0).1]
        exact hp0
      obtain ⟨c, e1, hcr⟩ := R1.mem hpr
      rw [em] at e1
      cases e1
      cases hcr with
      | dK h' l hs =>
        cases hs
        refine ⟨h', xs, rfl, by rw [Paired.length hx]; exact h15', ?_⟩
        have gw : Grow r1 H1 r1 (upd H1 p (.dK (mergeK [] xs))) := R1.growW hpr
        refine o1 (.ref p) _ r1 gw (R1.write hpr (.dK upd_same ?_ ?_)) ((VR.ref hpr : VR X.K cl B r1 H1 (.ref p) (.ref M.length)).mono gw)
        · have := mergeD_len kvs
          unfold lim
          omega
        · exact Paired.mapP (merge_rel (P := VR X.K cl B r1 H1) hx .nil) fun _ _ w => ⟨w.1, w.2.mono gw⟩
    · exact o1.elim
  · exact o1.elim
end

/-! ### x or y, by truth -/
section
variable {X : Cx} {cl : Nat → Addr} {W : WX} {a b : Expr} {rest : List Expr} {ga gb : Slots → Store → R Val} {pos p p2 : Pos}
theorem truV_ok {K : PySem.W.Frag} {B r : List Addr} {H : Hp} {M : Store} {x : V} {v : Val} {k : Bool} (R : Rel K cl B r M H) (hx : VR K cl B r H x v) (e : truV M v = some k) : TruV K x H k := by
  unfold truV at e
  split at e
  · cases e; rw [hx.none]; exact rfl
  · cases e; rw [hx.bool]; exact rfl
  · rename_i z
    split at e
    · rename_i hz
      cases e
      rw [hx.str]
      refine ⟨by rw [← lim_eq]; exact hz, ?_⟩
      cases q : z.length with
      | zero => rfl
      | succ n => simp; omega
    · cases e
  · obtain ⟨a, xs, rfl, ht, _, hs⟩ := hx.tuple
    cases e
    refine .inr (.inl ⟨xs, .inl (.inl ht), ?_⟩)
    cases hs <;> rfl
  · obtain ⟨a, xs, rfl, ht, _, _, _, hs⟩ := hx.list
    cases e
    refine .inl ⟨xs, .inl (.inl ht), ?_⟩
    cases hs <;> rfl
  · split at e
    · rename_i vs em
      obtain ⟨p, rfl, hp⟩ := hx.atRef
      obtain ⟨c, e1, hc⟩ := R.mem hp
      rw [em] at e1
      cases e1
      cases e
      cases hc with
      | lst h' l hs =>
        refine .inl ⟨_, .inl (.inl h'), ?_⟩
        cases hs <;> rfl
    · cases e
  · cases e
def eOrT (ga gb : Slots → Store → R Val) : Slots → Store → R Val := fun s M => (ga s M).bind fun x M => (match truV M x with
      | some true => .ok x M
      | some false => gb s M
      | none => .bad)
theorem se_orT (ha : SE X cl W a ga) (hb : SE X cl W (.BoolOp .Or (b :: rest) pos) gb) : SE X cl W (.BoolOp .Or (a :: b :: rest) pos) (eOrT ga gb) :=
  PE.imp (pe_orT ha hb) fun σ H Q ⟨B, r, M, s, R, S, o⟩ => ⟨B, r, M, s, R, S, o.step fun x v r1 M1 H1 g1 R1 v1 o1 => by
    split at o1
    · rename_i e
      exact ⟨true, truV_ok R1 v1 e, by rw [if_pos rfl]; exact o1.here R1 v1⟩
    · rename_i e
      exact ⟨false, truV_ok R1 v1 e, by rw [if_neg Bool.false_ne_true]; exact ⟨B, r1, M1, s, R1, S.mono g1, o1⟩⟩
    · exact o1.elim⟩

/-! ### a written dict with text keys -/
/-- at a: a written dict of these keys and values -/
structure KTab (K : PySem.W.Frag) (w : World) (a : Addr) (kvs : List (Str × PyData)) : Prop where
  d : ∃ es n, KDict K w a es n
  at_ : ∀ z, ∃ rv, PySem.W.nsIn K a z = some rv ∧ rv.isSome = hasK (kvs.map (·.1)) z ∧ ∀ d, kvs.lookup z = some d → ∃ u v, rv = some u ∧ RelV v u ∧ ∀ B r H, DR B r H v d
/-- a written tuple of texts: its entries told with [] -/
def sqB (kvs : List (Str × PyData)) : Bool := kvs.any fun p => match p.2 with | .list _ => true | _ => false
def KSq (K : PySem.W.Frag) (a : Addr) (ks : List Str) : Prop := ∃ (o : Obj) (its : Array Value) (n : Nat), K.lookup a = some o ∧ o.cls = .type "tuple" ∧ o.data = .seq its n ∧ its.size ≤ sizeLine ∧ Vals (ks.map V.str) its.toList
theorem inV_has (z : Str) : ∀ ks : List Str, inV (.str z) (ks.map V.str) = hasK ks z
  | [] => rfl
  | k :: ks => by
    have ih := inV_has z ks
    unfold inV hasK at ih ⊢
    rw [List.map_cons, List.any_cons, List.any_cons, ih]
    congr 1
theorem flat_strs (ks : List Str) : (ks.map V.str).all flatV = true := by
  rw [List.all_eq_true]
  intro v hv
  obtain ⟨z, _, rfl⟩ := List.mem_map.mp hv
  rfl
def KT (K : PySem.W.Frag) (w : World) (a : Addr) (kvs : List (Str × PyData)) : Prop := if sqB kvs = true then KSq K a (kvs.map (·.1)) else KTab K w a kvs
theorem KT.dict {K : PySem.W.Frag} {w : World} {a : Addr} {kvs : List (Str × PyData)} (h : KT K w a kvs) (e : sqB kvs = false) : KTab K w a kvs := by
  unfold KT at h
  rwa [if_neg (by rw [e]; simp)] at h
theorem KT.seq {K : PySem.W.Frag} {w : World} {a : Addr} {kvs : List (Str × PyData)} (h : KT K w a kvs) (e : sqB kvs = true) : KSq K a (kvs.map (·.1)) := by
  unfold KT at h
  rwa [if_pos e] at h
def eGin (neg : Bool) (ks : List Str) (ga : Slots → Store → R Val) : Slots → Store → R Val := fun s M => (ga s M).bind fun x M => (match x with | .d (.str z) => bl (if neg then !hasK ks z else hasK ks z) M | _ => .bad)
theorem se_ginD {x : Str} {ad : Addr} {kvs : List (Str × PyData)} (T : KTab X.K X.w ad kvs) (hg : Gl X x) (hm : X.mg x = some (.ref ad)) (hd : (x == ("__debug__" : Str)) = false) (ha : SE X cl W a ga) :
    SE X cl W (.Compare a [.In] [.Name x p] pos) (eGin false (kvs.map (·.1)) ga) := by
  obtain ⟨es, n, D⟩ := T.d
  refine PE.imp (pe_cmpR (op_in_kd D) ha (pe_glob hg hm (show RelV (.ref ad) _ from rfl) hd) rfl) fun σ H Q ⟨B, r, M, s, R, S, o⟩ => ⟨B, r, M, s, R, S, o.step fun y v r1 M1 H1 g1 R1 v1 o1 => ?_⟩
  split at o1
  · rename_i z
    obtain ⟨rv, e1, e2, _⟩ := T.at_ z
    exact ⟨z, rv, v1.str, rfl, e1, by rw [e2]; exact bl_ok R1 o1⟩
  · exact o1.elim
theorem se_gninD {x : Str} {ad : Addr} {kvs : List (Str × PyData)} (T : KTab X.K X.w ad kvs) (hg : Gl X x) (hm : X.mg x = some (.ref ad)) (hd : (x == ("__debug__" : Str)) = false) (ha : SE X cl W a ga) :
    SE X cl W (.Compare a [.NotIn] [.Name x p] pos) (eGin true (kvs.map (·.1)) ga) := by
  obtain ⟨es, n, D⟩ := T.d
  refine PE.imp (pe_cmpR (op_notIn_kd D) ha (pe_glob hg hm (show RelV (.ref ad) _ from rfl) hd) rfl) fun σ H Q ⟨B, r, M, s, R, S, o⟩ => ⟨B, r, M, s, R, S, o.step fun y v r1 M1 H1 g1 R1 v1 o1 => ?_⟩
  split at o1
  · rename_i z
    obtain ⟨rv, e1, e2, _⟩ := T.at_ z
    exact ⟨z, rv, v1.str, rfl, e1, by rw [e2]; exact bl_ok R1 o1⟩
  · exact o1.elim
theorem st_ginD {x : Str} {ad : Addr} {kvs : List (Str × PyData)} (T : KTab X.K X.w ad kvs) (hg : Gl X x) (hm : X.mg x = some (.ref ad)) (hd : (x == ("__debug__" : Str)) = false) (ha : SE X cl W a ga) :
    ST X cl W (.Compare a [.In] [.Name x p] pos) (eGin false (kvs.map (·.1)) ga) := by
  obtain ⟨es, n, D⟩ := T.d
  refine PT.imp (pt_cmpR (op_in_kd D) ha (pe_glob hg hm (show RelV (.ref ad) _ from rfl) hd) rfl) fun σ H Q h => ?_
  obtain ⟨B, r, M, s, R, S, o⟩ := tT h
  refine ⟨B, r, M, s, R, S, o.step fun y v r1 M1 H1 g1 R1 v1 o1 => ?_⟩
  split at o1
  · rename_i z
    obtain ⟨rv, e1, e2, _⟩ := T.at_ z
    exact ⟨z, rv, v1.str, rfl, e1, by rw [e2]; exact bl_ok (Q := fun x H' => ∃ k, x = .bl k ∧ Q k H') R1 o1⟩
  · exact o1.elim
theorem st_gninD {x : Str} {ad : Addr} {kvs : List (Str × PyData)} (T : KTab X.K X.w ad kvs) (hg : Gl X x) (hm : X.mg x = some (.ref ad)) (hd : (x == ("__debug__" : Str)) = false) (ha : SE X cl W a ga) :
    ST X cl W (.Compare a [.NotIn] [.Name x p] pos) (eGin true (kvs.map (·.1)) ga) := by
  obtain ⟨es, n, D⟩ := T.d
  refine PT.imp (pt_cmpR (op_notIn_kd D) ha (pe_glob hg hm (show RelV (.ref ad) _ from rfl) hd) rfl) fun σ H Q h => ?_
  obtain ⟨B, r, M, s, R, S, o⟩ := tT h
  refine ⟨B, r, M, s, R, S, o.step fun y v r1 M1 H1 g1 R1 v1 o1 => ?_⟩
  split at o1
  · rename_i z
    obtain ⟨rv, e1, e2, _⟩ := T.at_ z
    exact ⟨z, rv, v1.str, rfl, e1, by rw [e2]; exact bl_ok (Q := fun x H' => ∃ k, x = .bl k ∧ Q k H') R1 o1⟩
  · exact o1.elim
theorem se_gin {x : Str} {ad : Addr} {kvs : List (Str × PyData)} (T : KT X.K X.w ad kvs) (hg : Gl X x) (hm : X.mg x = some (.ref ad)) (hd : (x == ("__debug__" : Str)) = false) (ha : SE X cl W a ga) :
    SE X cl W (.Compare a [.In] [.Name x p] pos) (eGin false (kvs.map (·.1)) ga) := by
  cases q : sqB kvs with
  | false => exact se_ginD (T.dict q) hg hm hd ha
  | true =>
    have D := T.seq q
    refine PE.imp (pe_cmpR op_in_seq ha (pe_glob hg hm (show RelV (.ref ad) _ from rfl) hd) rfl) fun σ H Q ⟨B, r, M, s, R, S, o⟩ => ⟨B, r, M, s, R, S, o.step fun y v r1 M1 H1 g1 R1 v1 o1 => ?_⟩
    split at o1
    · rename_i z
      rw [v1.str]
      refine ⟨ad, _, rfl, .inr (.inr D), rfl, flat_strs _, ?_⟩
      rw [inV_has]
      exact bl_ok R1 o1
    · exact o1.elim
theorem se_gnin {x : Str} {ad : Addr} {kvs : List (Str × PyData)} (T : KT X.K X.w ad kvs) (hg : Gl X x) (hm : X.mg x = some (.ref ad)) (hd : (x == ("__debug__" : Str)) = false) (ha : SE X cl W a ga) :
    SE X cl W (.Compare a [.NotIn] [.Name x p] pos) (eGin true (kvs.map (·.1)) ga) := by
  cases q : sqB kvs with
  | false => exact se_gninD (T.dict q) hg hm hd ha
  | true =>
    have D := T.seq q
    refine PE.imp (pe_cmpR op_notIn_seq ha (pe_glob hg hm (show RelV (.ref ad) _ from rfl) hd) rfl) fun σ H Q ⟨B, r, M, s, R, S, o⟩ => ⟨B, r, M, s, R, S, o.step fun y v r1 M1 H1 g1 R1 v1 o1 => ?_⟩
    split at o1
    · rename_i z
      rw [v1.str]
      refine ⟨ad, _, rfl, .inr (.inr D), rfl, flat_strs _, ?_⟩
      rw [inV_has]
      exact bl_ok R1 o1
    · exact o1.elim
theorem st_gin {x : Str} {ad : Addr} {kvs : List (Str × PyData)} (T : KT X.K X.w ad kvs) (hg : Gl X x) (hm : X.mg x = some (.ref ad)) (hd : (x == ("__debug__" : Str)) = false) (ha : SE X cl W a ga) :
    ST X cl W (.Compare a [.In] [.Name x p] pos) (eGin false (kvs.map (·.1)) ga) := by
  cases q : sqB kvs with
  | false => exact st_ginD (T.dict q) hg hm hd ha
  | true =>
    have D := T.seq q
    refine PT.imp (pt_cmpR op_in_seq ha (pe_glob hg hm (show RelV (.ref ad) _ from rfl) hd) rfl) fun σ H Q h => ?_
    obtain ⟨B, r, M, s, R, S, o⟩ := tT h
    refine ⟨B, r, M, s, R, S, o.step fun y v r1 M1 H1 g1 R1 v1 o1 => ?_⟩
    split at o1
    · rename_i z
      rw [v1.str]
      refine ⟨ad, _, rfl, .inr (.inr D), rfl, flat_strs _, ?_⟩
      rw [inV_has]
      exact bl_ok (Q := fun x H' => ∃ k, x = .bl k ∧ Q k H') R1 o1
    · exact o1.elim
theorem st_gnin {x : Str} {ad : Addr} {kvs : List (Str × PyData)} (T : KT X.K X.w ad kvs) (hg : Gl X x) (hm : X.mg x = some (.ref ad)) (hd : (x == ("__debug__" : Str)) = false) (ha : SE X cl W a ga) :
    ST X cl W (.Compare a [.NotIn] [.Name x p] pos) (eGin true (kvs.map (·.1)) ga) := by
  cases q : sqB kvs with
  | false => exact st_gninD (T.dict q) hg hm hd ha
  | true =>
    have D := T.seq q
    refine PT.imp (pt_cmpR op_notIn_seq ha (pe_glob hg hm (show RelV (.ref ad) _ from rfl) hd) rfl) fun σ H Q h => ?_
    obtain ⟨B, r, M, s, R, S, o⟩ := tT h
    refine ⟨B, r, M, s, R, S, o.step fun y v r1 M1 H1 g1 R1 v1 o1 => ?_⟩
    split at o1
    · rename_i z
      rw [v1.str]
      refine ⟨ad, _, rfl, .inr (.inr D), rfl, flat_strs _, ?_⟩
      rw [inV_has]
      exact bl_ok (Q := fun x H' => ∃ k, x = .bl k ∧ Q k H') R1 o1
    · exact o1.elim
def eGget (kvs : List (Str × PyData)) (ga : Slots → Store → R Val) : Slots → Store → R Val := fun s M => (ga s M).bind fun x M => (match x with | .d (.str z) => (match kvs.lookup z with | some d => .ok (.d d) M | none => .bad) | _ => .bad)
theorem se_gget {x : Str} {ad : Addr} {kvs : List (Str × PyData)} (T : KTab X.K X.w ad kvs) (hg : Gl X x) (hm : X.mg x = some (.ref ad)) (hd : (x == ("__debug__" : Str)) = false) (ha : SE X cl W a ga) (hs : PlainIx a) :
    SE X cl W (.Subscript (.Name x p) a pos) (eGget kvs ga) := by
  obtain ⟨es, n, D⟩ := T.d
  have ix : IxR X (fun x y H Q => ∃ (z : Str) (u0 : Value) (v0 : V), x = .ref ad ∧ y = .str z ∧ PySem.W.nsIn X.K ad z = some (some u0) ∧ RelV v0 u0 ∧ Q v0 H) := by
    intro value slice pins s σ H x y v u Q I rx ry h hs
    have h0 := h
    obtain ⟨z, u0, v0, rfl, rfl, e, rv, q⟩ := h0
    cases (show v = Value.ref ad from rx)
    have hT := kd_type D I
    unfold subscriptTail
    refine wpAny_bind ?_
    rw [getitemInPython_of_ne hT.not_modules]
    refine wpAny_bind (wpAny_specialOf hT PySem.F.slot_dict_getitem.lookup ?_)
    have last : wpAny (model X.prog X.w) X.A (subscripted slice false (.ref ad) u) (fun r s3 => wpAny (model X.prog X.w) X.A (letTemporaryGo value (.ref ad) r >>= fun _ => pure r) (EP X pins σ Q) X.xe s3) X.xe s := by
      rw [hs]
      exact wpAny_operating (wpAny_mono (op_item_kd D pins s σ H _ _ _ _ Q I rx ry h) (fun r s3 h3 => wpAny_bind (wpAny_letTemporaryGo (wpAny_pure h3))) fun _ _ z => z)
    first
      | exact wpAny_pure (wpAny_bind last)
      | exact wpAny_bind (wpAny_pure (wpAny_bind last))
      | exact wpAny_bind last
  refine PE.imp (pe_ix ix (pe_glob hg hm (show RelV (.ref ad) _ from rfl) hd) ha hs) fun σ H Q ⟨B, r, M, s, R, S, o⟩ => ⟨B, r, M, s, R, S, o.step fun y v r1 M1 H1 g1 R1 v1 o1 => ?_⟩
  split at o1
  · rename_i z
    split at o1
    · rename_i d ed
      obtain ⟨rv, e1, e2, e3⟩ := T.at_ z
      obtain ⟨u, v0, rfl, rv0, hd0⟩ := e3 d ed
      exact ⟨z, u, v0, rfl, v1.str, e1, rv0, o1.here R1 (.d (hd0 _ _ _))⟩
    · exact o1.elim
  · exact o1.elim
end
end Gv

namespace Gv
open PySem PySem.Spec PyProof.Rows L2

/-! ### x[l:h] = v -/
section
variable {X : Cx} {cl : Nat → Addr} {W : WX} {o e lo hi : Expr} {go ge gl gh : Slots → Store → R Val} {pos p p2 : Pos} {x : Str}
def tSetsl (tv to : TE) (tl th : TO) : TS := fun D σ H => tv σ H fun v H1 => to σ H1 fun x H2 => tl σ H2 fun l H3 => th σ H3 fun h H4 => ∃ a b xs ys i j, x = .ref a ∧ v = .ref b ∧ l = some i ∧ h = some j ∧ H4 a = some (.lst xs) ∧ H4 b = some (.lst ys) ∧ a ≠ b ∧ 0 ≤ i ∧ i ≤ j ∧ j ≤ xs.length ∧
  xs.length + ys.length ≤ sizeLine ∧ D.nx σ (upd H4 a (.lst (xs.take i.toNat ++ ys ++ xs.drop j.toNat)))
theorem part_int {u : Value} {i : Int} (h : IsPart u (some i)) : RelV (.int i) u := by
  cases h with
  | int _ t => exact ⟨t, rfl⟩
theorem ps_setsl {tv to : TE} {tl th : TO} {l h : Option Expr} (hv : PE X e tv) (ho : PE X o to) (hl : PO X l tl) (hh : PO X h th) (hs : swapsWith e (some (.Subscript o (.Slice l h none p2) p)) pos.line X.env = pure false) :
    PS X (.Assign [.Subscript o (.Slice l h none p2) p] e pos) (tSetsl tv to tl th) := by
  refine ⟨fun pins s σ H D I w => wpAny_Assign_Subscript (thn (hv.run pins s σ H _ I w) fun r s1 h1 => ?_) hs⟩
  obtain ⟨v, H1, I1, rv, q1⟩ := h1
  refine thn (ho.run pins s1 σ H1 _ I1 q1) fun u s2 h2 => ?_
  obtain ⟨x, H2, I2, rx, q2⟩ := h2
  refine wpAny_Slice (thn (hl.run pins s2 σ H2 _ I2 q2) fun vl s3 h3 => ?_)
  obtain ⟨l', H3, I3, pl, q3⟩ := h3
  refine thn (hh.run pins s3 σ H3 _ I3 q3) fun vh s4 h4 => ?_
  obtain ⟨h', H4, I4, ph, a, b, xs, ys, i, j, rfl, rfl, rfl, rfl, ha, hb, ne, c0, c1, c2, c3, q4⟩ := h4
  rw [evalPart_none]
  refine wpAny_pure ?_
  have I5 : Inv X pins σ H4 { s4 with heap := s4.heap.push { cls := .type "slice", data := .fields #[vl, vh, .none] } } := I4.kept (t' := s4.toks) fun _ _ q => Heap.get?_push_of_some _ q
  cases (show r = Value.ref b from rv)
  cases (show u = Value.ref a from rx)
  exact set_slice I5 ha hb ne (Heap.IsSliceOf.new ..) (part_int pl) (part_int ph) c0 c1 c2 c3 fun s6 I6 => ⟨σ, _, I6, q4⟩
def sSetsl (go gl gh ge : Slots → Store → R Val) : Slots → Store → SR := fun s M => (ge s M).toS s fun v M => (go s M).toS s fun x M => (gl s M).toS s fun l M => if (part l).isSome then (gh s M).toS s fun h M => (setSl M x l h v).toS s fun _ M => .next s M else .bad
theorem ss_setsl {l h : Option Expr} (ho : SE X cl W o go) (hl : SO X cl W l gl) (hh : SO X cl W h gh) (he : SE X cl W e ge) (hs : swapsWith e (some (.Subscript o (.Slice l h none p2) p)) pos.line X.env = pure false) :
    SS X cl W (.Assign [.Subscript o (.Slice l h none p2) p] e pos) (sSetsl go gl gh ge) :=
  PS.imp (ps_setsl he ho hl.run hh.run hs) fun D σ H ⟨B, r, M, s, R, S, oo⟩ => ⟨B, r, M, s, R, S, OutS.step S oo fun u v r1 M1 H1 g1 R1 v1 o1 =>
    ⟨B, r1, M1, s, R1, S.mono g1, OutS.step (S.mono g1) o1 fun w x r2 M2 H2 g2 R2 v2 o2 =>
      ⟨B, r2, M2, s, R2, (S.mono g1).mono g2, OutS.step ((S.mono g1).mono g2) o2 fun z l r3 M3 H3 g3 R3 v3 o3 => by
        have S3 := ((S.mono g1).mono g2).mono g3
        cases ep : part l with
        | none => rw [ep] at o3; exact o3.elim
        | some pl0 =>
        rw [ep] at o3
        have o3 : OutS X.K cl W B r3 H3 ((gh s M3).toS s fun h M => (setSl M x l h v).toS s fun _ M => .next s M) D := o3
        have key : ∀ pl, (∀ i, l = .d (.int i) → pl = some i) → rdO X.K cl W gh σ H3 (fun h' H4 => ∃ a b xs ys i j, w = .ref a ∧ u = .ref b ∧ pl = some i ∧ h' = some j ∧ H4 a = some (.lst xs) ∧ H4 b = some (.lst ys) ∧ a ≠ b ∧ 0 ≤ i ∧ i ≤ j ∧ j ≤ xs.length ∧
            xs.length + ys.length ≤ sizeLine ∧ D.nx σ (upd H4 a (.lst (xs.take i.toNat ++ ys ++ xs.drop j.toNat)))) := fun pl hpl => by
          refine ⟨B, r3, M3, s, R3, S3, OutS.step S3 o3 fun z' h r4 M4 H4 g4 R4 v4 o4 => ?_⟩
          unfold setSl at o4
          split at o4
          · rename_i n i j _z
            have epl := hpl i rfl
            subst epl
            refine ⟨some j, rfl, ?_⟩
            split at o4
            · rename_i vs ds em
              split at o4
              · rename_i hc
                simp only [Bool.and_eq_true, decide_eq_true_eq] at hc
                obtain ⟨⟨⟨c0, c1⟩, c2⟩, c3⟩ := hc
                obtain ⟨pa, rfl, hp⟩ := ((v2.mono g3).mono g4).atRef
                obtain ⟨c', e1, hcc⟩ := R4.mem hp
                rw [em] at e1
                cases e1
                obtain ⟨pb, ys, rfl, hb, nb, nr, _, hd⟩ := (((v1.mono g2).mono g3).mono g4).list
                cases hcc with
                | lst h' l hs =>
                  rename_i xs
                  have hne : pa ≠ pb := fun z => nr (z ▸ List.mem_of_getElem? hp)
                  refine ⟨pa, pb, xs, ys, i, j, rfl, rfl, rfl, rfl, h', hb, hne, c0, c1, by rw [Paired.length hs]; exact c2, by rw [Paired.length hs, hd.length, ← lim_eq]; exact c3, ?_⟩
                  have gw : Grow r4 H4 r4 (upd H4 pa (.lst (xs.take i.toNat ++ ys ++ xs.drop j.toNat))) := R4.growW hp
                  refine OutS.next (M := M4.set n (.lst (vs.take i.toNat ++ ds.map .d ++ vs.drop j.toNat))) o4 gw (R4.write hp (.lst upd_same ?_ ?_)) ((S3.mono g4).mono gw)
                  · simp only [List.length_append, List.length_take, List.length_drop, List.length_map]
                    omega
                  · exact VRs.mono gw (vrs_app (vrs_app (vrs_take _ hs) hd.vrs) (vrs_drop _ hs))
              · exact o4.elim
            · exact o4.elim
          · exact o4.elim
        exact ⟨pl0, rfl, key pl0 fun i e => by rw [e] at ep; simpa [part] using ep.symm⟩⟩⟩⟩
end
end Gv

namespace Gv
open PySem PySem.Spec L2 PyProof.Rows

theorem depthAll_le {n : Nat} : ∀ {ds : List PyData}, (∀ d ∈ ds, d.depth ≤ n) → PyData.depthAll ds ≤ n
  | [], _ => by simp [PyData.depthAll]
  | d :: ds, h => by
    simp only [PyData.depthAll]
    have h1 := h d (by simp)
    have h2 := depthAll_le (ds := ds) fun x hx => h x (by simp [hx])
    omega
theorem alikeL_ok {ds : List PyData} (h : alikeL ds = true) : PySem.W.AllAlike ds := by
  unfold alikeL at h
  simp only [List.all_eq_true] at h
  exact fun d hd d' hd' => h d hd d' hd'
theorem tupH_ok {d : PyData} (h : tupH d = true) : ∃ x r, d = .tuple (x :: r) := by
  unfold tupH at h
  split at h
  · exact ⟨_, _, rfl⟩
  · cases h
theorem othH_ok {d : PyData} (h : othH d = true) : d ≠ .none ∧ ∀ xs, d ≠ .tuple xs := by
  unfold othH at h
  split at h
  · cases h
  · cases h
  · rename_i h1 h2
    exact ⟨h1, fun xs e => h2 xs e⟩
theorem sortOk_ok {ds : List PyData} (h : sortOk ds = true) : PySem.W.AllAlike ds ∧ PySem.W.Sortable ds := by
  unfold sortOk at h
  simp only [Bool.and_eq_true, Bool.or_eq_true, List.all_eq_true] at h
  refine ⟨alikeL_ok h.1, ?_⟩
  rcases h.2 with q | q
  · exact .inl fun d hd => tupH_ok (q d hd)
  · exact .inr fun d hd => othH_ok (q d hd)
theorem sortOk_ne {ds : List PyData} (h : sortOk ds = true) : ∀ d ∈ ds, d ≠ .none := by
  obtain ⟨_, q⟩ := sortOk_ok h
  intro d hd
  rcases q with q | q
  · obtain ⟨x, r, e⟩ := q d hd
    rw [e]
    exact fun z => nomatch z
  · exact (q d hd).1

/-! ### items with what they read as -/
theorem zip_each : ∀ {xs : List V} {us : List Value} {ds : List PyData}, Vals xs us → xs.length = ds.length → PySem.W.EachIs (fun v (b : V × PyData) => RelV b.1 v) us (xs.zip ds)
  | _, _, [], .nil, _ => .nil
  | _, _, d :: ds, .cons r t, h => .cons r (zip_each t (by simpa using h))
  | _, _, [], .cons r t, h => by simp at h
theorem zip_snd {xs : List V} {ds : List PyData} (h : xs.length = ds.length) : (xs.zip ds).map Prod.snd = ds := List.map_snd_zip (by omega)
theorem each_reads {h : Heap} : ∀ {us : List Value} {xs : List V} {ds : List PyData} {as : List Addr}, xs.length = ds.length → ReadsAll h us ds as → PySem.W.EachIs (fun v (b : V × PyData) => ∃ as, Reads h v b.2 as) us (xs.zip ds)
  | _, [], [], _, _, .nil => .nil
  | _, x :: xs, d :: ds, _, hl, .cons r rs => .cons ⟨_, r⟩ (each_reads (by simpa using hl) rs)
  | _, [], d :: ds, _, hl, _ => by simp at hl
  | _, x :: xs, [], _, hl, _ => by simp at hl
theorem each_vals : ∀ {us : List Value} {zs : List (V × PyData)}, PySem.W.EachIs (fun v (b : V × PyData) => RelV b.1 v) us zs → Vals (zs.map Prod.fst) us
  | _, _, .nil => .nil
  | _, _, .cons r t => .cons r (each_vals t)
/-- the items, sorted by what they read as -/
def sortZ (xs : List V) (ds : List PyData) : List (V × PyData) := (xs.zip ds).mergeSort (PySem.W.dataLe false Prod.snd)
theorem sortZ_snd {xs : List V} {ds : List PyData} (h : xs.length = ds.length) : (sortZ xs ds).map Prod.snd = sortD ds := by
  unfold sortZ sortD
  have := List.map_mergeSort (r := PySem.W.dataLe false (Prod.snd : V × PyData → PyData)) (s := PySem.W.dataLe false (id : PyData → PyData)) (f := Prod.snd) (l := xs.zip ds) fun a _ b _ => rfl
  rw [this, zip_snd h]
theorem sortZ_mem {xs : List V} {ds : List PyData} {p : V × PyData} (h : p ∈ sortZ xs ds) : p ∈ xs.zip ds := (List.mergeSort_perm _ _).mem_iff.mp h
theorem sortZ_len {xs : List V} {ds : List PyData} (h : xs.length = ds.length) : (sortZ xs ds).length = ds.length := by
  unfold sortZ
  rw [(List.mergeSort_perm _ _).length_eq, List.length_zip]
  omega
theorem drs_zip {B r : List Addr} {H : Hp} : ∀ {xs : List V} {ds : List PyData}, DRs B r H xs ds → ∀ p ∈ xs.zip ds, DR B r H p.1 p.2
  | _, _, .nil, p, h => by simp at h
  | _, _, .cons a t, p, h => by
    simp only [List.zip_cons_cons, List.mem_cons] at h
    rcases h with rfl | h
    · exact a
    · exact drs_zip t p h
theorem drs_of {B r : List Addr} {H : Hp} : ∀ {zs : List (V × PyData)}, (∀ p ∈ zs, DR B r H p.1 p.2) → DRs B r H (zs.map Prod.fst) (zs.map Prod.snd)
  | [], _ => .nil
  | p :: zs, h => .cons (h p (by simp)) (drs_of fun q hq => h q (by simp [hq]))
theorem drs_sort {B r : List Addr} {H : Hp} {xs : List V} {ds : List PyData} (h : DRs B r H xs ds) : DRs B r H ((sortZ xs ds).map Prod.fst) (sortD ds) := by
  rw [← sortZ_snd h.length]
  exact drs_of fun p hp => drs_zip h p (sortZ_mem hp)

section
variable {X : Cx}
/-- sorted of a list of alike data -/
def rSortD (K : PySem.W.Frag) : List V → Hp → VK → Prop := fun vs H Q => ∃ (a : Addr) (xs : List V) (ds : List PyData), vs = [V.ref a] ∧ SqL K H a xs ∧ DpAll K H xs ds ∧ xs.length = ds.length ∧ sortOk ds = true ∧ (∀ d ∈ ds, d.depth ≤ 60) ∧ ds.length ≤ sizeLine ∧
  ∀ p, H p = none → Q (.ref p) (upd H p (.lst ((sortZ xs ds).map Prod.fst)))
theorem cr_sortD (hu : X.A.units + 65 < cLine) : CallR X (.builtin "sorted") (rSortD X.K) := by
  intro pins s σ H vs us Q I r h
  obtain ⟨a, xs, ds, rfl, hs, hd, hl, ho, hdep, hsz, q⟩ := h
  obtain ⟨its, rv, hL, hz⟩ := I.list hs
  obtain ⟨u, rfl, ru⟩ := vals1 r
  obtain rfl : u = Value.ref a := ru
  obtain ⟨as, hr⟩ := Dp.readsAll I ds xs its hd rv
  obtain ⟨ho1, ho2⟩ := sortOk_ok ho
  have e1 : (xs.zip ds).map Prod.snd = ds := zip_snd hl
  refine PySem.W.sorted_data (bs := xs.zip ds) (enc := Prod.snd) hL.isList (zip_each rv hl) (each_reads hl hr) (by rw [e1]; exact ho1) (by rw [e1]; exact ho2) (by rw [List.length_zip]; omega)
    (fun b hb => by have := hdep b.2 (List.of_mem_zip hb).2; omega) fun out ho he => ?_
  have hlen : ((sortZ xs ds).map Prod.fst).length = ds.length := by rw [List.length_map, sortZ_len hl]
  obtain ⟨n, hn⟩ := sortedAll_at s.heap its out.toArray
  refine ⟨.ref (s.heap.objs.size + 1), upd H (s.heap.objs.size + 1) (.lst ((sortZ xs ds).map Prod.fst)), I.laid (t' := s.toks) (fun b o e => sortedAll_old e) (Nat.le_succ _) ⟨by rw [hlen]; exact hsz, out, n, each_vals he, hn⟩, rfl, q _ (I.hok.fresh (Nat.le_succ _))⟩

/-! ### sorted of a dict: its keys -/
theorem leafV_dp {K : PySem.W.Frag} {H : Hp} (k : L2.Key) : Dp K H (kV k) (leafD k) := by
  cases k with
  | inl i => exact .int i
  | inr z => exact .str z
theorem leafVs_dp {K : PySem.W.Frag} {H : Hp} : ∀ ks : List L2.Key, DpAll K H (ks.map kV) (ks.map leafD)
  | [] => .nil
  | k :: ks => .cons (leafV_dp k) (leafVs_dp ks)
theorem leaf_reads {h : Heap} {u : Value} {k : L2.Key} {as : List Addr} (r : Reads h u (leafD k) as) : as = [] := by
  cases k with
  | inl i => cases r; rfl
  | inr z => cases r; rfl
theorem leafs_reads {h : Heap} : ∀ {ks : List L2.Key} {us : List Value} {as : List Addr}, ReadsAll h us (ks.map leafD) as → as = []
  | [], _, _, r => by cases r; rfl
  | k :: ks, _, _, r => by
    cases r with
    | cons a b => rw [leaf_reads a, leafs_reads b]; rfl
theorem key_reads {h : Heap} {u : Value} {k : KK} {as : List Addr} (r : Reads h u (KK.d k) as) : as = [] := by
  cases k with
  | inl k => exact leaf_reads r
  | inr ks =>
    cases r with
    | tuple h1 h2 h3 h4 => exact leafs_reads h4
/-- behind the keys' list: sort it -/
theorem sort_keys (hu : X.A.units + 65 < cLine) {pins : List (Addr × Obj)} {s : Shared} {σ : L2.St} {H : Hp} {Q : VK} (I : Inv X pins σ H s) {xs : List V} {us : List Value} {ks : List KK} (rv : Vals xs us) (hd : DpAll X.K H xs (ks.map KK.d)) (hl : xs.length = ks.length) (ho : sortOk (ks.map KK.d) = true) (hdep : ∀ d ∈ ks.map KK.d, d.depth ≤ 60) (hsz : ks.length ≤ sizeLine)
    (q : ∀ p, H p = none → Q (.ref p) (upd H p (.lst ((sortZ xs (ks.map KK.d)).map Prod.fst)))) :
    wpAny (model X.prog X.w) X.A.in1 (call (.builtin "list.sort") [.ref s.heap.objs.size]) (fun _ s' => EP X pins σ Q (.ref s.heap.objs.size) s') X.xe { s with heap := s.heap.push (seqObj "list" us.toArray 0) } := by
  have hl' : xs.length = (ks.map KK.d).length := by rw [List.length_map]; exact hl
  obtain ⟨as, hr⟩ := Dp.readsAll I _ xs us hd rv
  obtain ⟨ho1, ho2⟩ := sortOk_ok ho
  have e1 : (xs.zip (ks.map KK.d)).map Prod.snd = ks.map KK.d := zip_snd hl'
  have hoL : (s.heap.push (seqObj "list" us.toArray 0)).get? s.heap.objs.size = some (seqObj "list" us.toArray 0) := Heap.get?_push_size _ rfl
  refine PySem.W.list_sort_data (s := { s with heap := s.heap.push (seqObj "list" us.toArray 0) }) (bs := xs.zip (ks.map KK.d)) (enc := Prod.snd) (R := fun v (b : V × PyData) => RelV b.1 v) hoL (zip_each rv hl')
    ((PySem.W.each_mem (each_reads hl' hr)).mono fun v b hb => ?_) (by rw [e1]; exact ho1) (by rw [e1]; exact ho2) (by rw [List.length_zip, List.length_map]; omega)
    (fun b hb => by
      have := hdep b.2 (List.of_mem_zip hb).2
      show X.A.units + 1 + 1 + _ < _
      omega) fun out ho he => ?_
  · obtain ⟨⟨as, r⟩, hm⟩ := hb
    have hm2 := (List.of_mem_zip hm).2
    obtain ⟨k, _, hk⟩ := List.mem_map.mp hm2
    rw [← hk] at r ⊢
    have := key_reads r
    subst this
    exact ⟨[], PyProof.Rows.Reads.keeps (fun b o e => Heap.get?_push_of_some _ e) r, by simp⟩
  · have hlen : ((sortZ xs (ks.map KK.d)).map Prod.fst).length = ks.length := by rw [List.length_map, sortZ_len hl', List.length_map]
    obtain ⟨e', he'⟩ := sortedHeap_at (vs := us) (out := out.toArray) hoL
    refine ⟨.ref s.heap.objs.size, upd H s.heap.objs.size (.lst ((sortZ xs (ks.map KK.d)).map Prod.fst)), I.laid (t' := s.toks) (fun b u e => ?_) (Nat.le_refl _) ⟨by rw [hlen]; exact hsz, out, e', each_vals he, he'⟩, rfl, q _ (I.hok.fresh (Nat.le_refl _))⟩
    have hb : b < s.heap.objs.size := Heap.lt_size e
    rw [sortedHeap_old (Nat.ne_of_lt hb) (by rw [size_push']; exact Nat.lt_succ_of_lt hb)]
    exact Heap.get?_push_of_some _ e
theorem vals_each : ∀ {xs : List V} {us : List Value}, xs.length = us.length → (∀ (j : Nat) (x : V) (v : Value), xs[j]? = some x → us[j]? = some v → RelV x v) → Vals xs us
  | [], [], _, _ => .nil
  | [], _ :: _, h, _ => by simp at h
  | _ :: _, [], h, _ => by simp at h
  | x :: xs, u :: us, h, hr => .cons (hr 0 x u rfl rfl) (vals_each (by simpa using h) fun j a b e1 e2 => hr (j + 1) a b (by simpa using e1) (by simpa using e2))
def rSortK : List V → Hp → VK → Prop := fun xs H Q => ∃ (a : Addr) (kvs : List (L2.Key × V)), xs = [.ref a] ∧ H a = some (.dK kvs) ∧ sortOk (kvs.map fun p => leafD p.1) = true ∧
  ∀ p, H p = none → Q (.ref p) (upd H p (.lst ((sortZ (kvs.map fun p => kV p.1) (kvs.map fun p => leafD p.1)).map Prod.fst)))
theorem leaf_depth (k : L2.Key) : (leafD k).depth ≤ 60 := by cases k <;> simp [leafD, PyData.depth]
theorem leafs_depth : ∀ ks : List L2.Key, PyData.depthAll (ks.map leafD) ≤ 59
  | [] => by simp [PyData.depthAll]
  | k :: ks => by
    have := leafs_depth ks
    have h2 : (leafD k).depth = 0 := by cases k <;> simp [leafD, PyData.depth]
    simp only [List.map_cons, PyData.depthAll]
    omega
theorem key_depth (k : KK) : (KK.d k).depth ≤ 60 := by
  cases k with
  | inl k => exact leaf_depth k
  | inr ks =>
    have := leafs_depth ks
    show PyData.depth (.tuple _) ≤ _
    simp only [PyData.depth]
    omega
theorem cr_sortK (hcalm : X.calm = true) (hu : X.A.units + 65 < cLine) : CallR X (.builtin "sorted") rSortK := by
  intro pins s σ H xs us Q I r q
  obtain ⟨a, kvs, ex, hd, ho, q⟩ := q
  subst ex
  obtain ⟨u, eu, rx⟩ := vals1 r
  subst eu
  cases rx
  obtain ⟨z, lo, vs, rel, dd⟩ := dk_rd I.hok (.inl hd)
  obtain ⟨ep, hat⟩ := dd.dictAt
  have hkeys : vs.map (·.1) = kvs.map (·.1) := rel.keys.symm
  have hl : vs.length = kvs.length := by
    have e := congrArg List.length hkeys
    rw [List.length_map, List.length_map] at e
    exact e
  refine Calls.call_function_entry PyProof.Rows.kind_sorted PyProof.Rows.plain_sorted PyProof.Rows.entry_sorted (PyProof.Rows.args_sorted1 _) ?_
  unfold Builtin.«sorted»
  refine wpAny_bind (m := checkCount "sorted" 1 1 _) (wpAny_pure ?_)
  refine wpAny_bind (PySem.W.kdu_collect (A := X.A.in1) (PySem.W.kdl_dict (knd := mixKind X.prog X.w) (kvs := vs) (ep := ep) lo) (I.ok.hd hcalm) hat (by omega) fun h' tk acc hk hacc => ?_)
  have hal : acc.toList.length = kvs.length := by rw [Array.length_toList, hacc.1, hl]
  have rv : Vals (kvs.map fun p => kV p.1) acc.toList := by
    refine vals_each (by rw [List.length_map, hal]) fun j x v e1 e2 => ?_
    obtain ⟨k, y, e3, e4⟩ := hacc.2 j v (by rw [← Array.getElem?_toList]; exact e2)
    have e5 : (vs.map (·.1))[j]? = some k := by rw [List.getElem?_map, e3]; rfl
    rw [hkeys, List.getElem?_map] at e5
    rw [List.getElem?_map] at e1
    cases e6 : kvs[j]? with
    | none => rw [e6] at e5; cases e5
    | some p =>
      rw [e6] at e5 e1
      have e7 : p.1 = k := Option.some.inj e5
      have e8 : kV p.1 = x := Option.some.inj e1
      subst e7 e8
      rcases keyIs_shape (show keyIs p.1 v = true from e4) with ⟨i, t, ek, ev⟩ | ⟨z, t, ek, ev⟩
      · rw [ek, ev]; exact ⟨t, rfl⟩
      · rw [ek, ev]; exact ⟨t, rfl⟩
  have I1 : Inv X pins σ H { s with heap := h', toks := tk } := I.kept hk
  refine wpAny_bind (wpAny_newList ?_ (by rw [hal]; omega))
  have em : (kvs.map fun p => (Sum.inl p.1 : KK)).map KK.d = kvs.map fun p => leafD p.1 := by rw [List.map_map]; rfl
  refine wpAny_bind (wpAny_holding (wpAny_mono (sort_keys (s := { s with heap := h', toks := tk }) (Q := Q) hu I1 (ks := kvs.map fun p => (Sum.inl p.1 : KK)) rv ?_ (by simp) (by rw [em]; exact ho) (fun d hd => ?_) (by rw [List.length_map]; omega) fun p hp => by rw [em]; exact q p hp) (fun _ s' h => ?_) fun _ _ e => e))
  · rw [em]
    have := leafVs_dp (K := X.K) (H := H) (kvs.map (·.1))
    rw [List.map_map, List.map_map] at this
    exact this
  · obtain ⟨k, _, rfl⟩ := List.mem_map.mp hd
    exact key_depth k
  · exact wpAny_pure ⟨_, rfl, h⟩

def rSortT : List V → Hp → VK → Prop := fun xs H Q => ∃ (a : Addr) (kvs : List (List L2.Key × V)), xs = [.ref a] ∧ H a = some (.dT kvs) ∧ sortOk (kvs.map fun p => .tuple (p.1.map leafD)) = true ∧
  ∀ p bs, H p = none → IsKeys H kvs bs → (∀ p ∈ kvs, p.1.length ≤ lim) → Q (.ref p) (upd H p (.lst ((sortZ (bs.map V.ref) (kvs.map fun p => .tuple (p.1.map leafD))).map Prod.fst)))
theorem keys_dp {K : PySem.W.Frag} {H : Hp} : ∀ {kvs : List (List L2.Key × V)} {bs : List Addr}, IsKeys H kvs bs → DpAll K H (bs.map V.ref) (kvs.map fun p => .tuple (p.1.map leafD))
  | _, _, .nil => .nil
  | _, _, .cons h t => .cons (.tup (.inl (.inl h)) (leafVs_dp _)) (keys_dp t)
theorem keys_len {P : Program} {w : World} {H : Hp} {h : Heap} (ok : HOk P w H h) : ∀ {kvs : List (List L2.Key × V)} {bs : List Addr}, IsKeys H kvs bs → ∀ p ∈ kvs, p.1.length ≤ lim
  | _, _, .nil, p, hp => by simp at hp
  | q :: _, _, .cons hq t, p, hp => by
    simp only [List.mem_cons] at hp
    rcases hp with rfl | hp
    · obtain ⟨z, _⟩ := ok _ _ hq
      rw [List.length_map] at z
      rw [lim_eq]
      exact z
    · exact keys_len ok t p hp
theorem cr_sortT (hcalm : X.calm = true) (hu : X.A.units + 65 < cLine) : CallR X (.builtin "sorted") rSortT := by
  intro pins s σ H xs us Q I r q
  obtain ⟨d, kvs, rfl, hd, ho, q⟩ := q
  obtain ⟨u, rfl, rx⟩ := r.one
  cases rx
  obtain ⟨z, hs, ks, pr, o, es, ep, hob, hx, hdt, he, hn⟩ := (show ObjOk X.prog X.w H s.heap d (.dT kvs) from L2.Rd.ok (Or.inl hd) I.hok)
  have l1 : es.size = ks.length := size_of_entries he
  have l2 : kvs.length = ks.length := Paired.length pr
  refine Calls.call_function_entry PyProof.Rows.kind_sorted PyProof.Rows.plain_sorted PyProof.Rows.entry_sorted (PyProof.Rows.args_sorted1 _) ?_
  unfold Builtin.«sorted»
  refine wpAny_bind (m := checkCount "sorted" 1 1 _) (wpAny_pure ?_)
  refine wpAny_bind (PySem.W.kdu_collect (A := X.A.in1) (kdl_raw hs hx hdt) (I.ok.hd hcalm) hob (by omega) fun h' tk acc kp it => ?_)
  have ea : acc.toList = ks.map fun x => Value.ref x.2.1 := by
    have hl : acc.toList.length = ks.length := by rw [Array.length_toList, it.1]; exact l1
    apply List.ext_getElem?
    intro j
    rw [List.getElem?_map]
    cases hj : acc.toList[j]? with
    | none =>
      have h1 := List.getElem?_eq_none_iff.mp hj
      rw [List.getElem?_eq_none (by omega)]
      all_goals rfl
    | some v =>
      obtain ⟨en, hen, hv⟩ := it.2 j v (by rw [← Array.getElem?_toList]; exact hj)
      have qe := entry_at he j
      rw [hen] at qe
      cases hb : ks[j]? with
      | none =>
        rw [hb] at qe
        exact nomatch (show some en = none from qe)
      | some b =>
        rw [hb] at qe
        have e2 : en = entryOfKey (tupleKind (mixKind X.prog X.w)) b := Option.some.inj qe
        rw [hv, e2]
        all_goals rfl
  have eb : acc.toList = (ks.map fun x => x.2.1).map Value.ref := by rw [ea, List.map_map]; all_goals rfl
  have rv : Vals ((ks.map fun x => x.2.1).map V.ref) acc.toList := by rw [eb]; exact vals_refs _
  have I1 : Inv X pins σ H { s with heap := h', toks := tk } := I.kept kp
  have hal : acc.toList.length = kvs.length := by rw [ea, List.length_map, l2]
  refine wpAny_bind (wpAny_newList ?_ (by rw [hal]; omega))
  have em : (kvs.map fun p => (Sum.inr p.1 : KK)).map KK.d = kvs.map fun p => .tuple (p.1.map leafD) := by rw [List.map_map]; rfl
  refine wpAny_bind (wpAny_holding (wpAny_mono (sort_keys (s := { s with heap := h', toks := tk }) (Q := Q) hu I1 (ks := kvs.map fun p => (Sum.inr p.1 : KK)) rv ?_ (by rw [List.length_map, List.length_map, List.length_map, l2]) (by rw [em]; exact ho) (fun d hd => ?_) (by rw [List.length_map]; omega) fun p hp => by rw [em]; exact q p _ hp (isKeys_of pr) (keys_len I.hok (isKeys_of pr))) (fun _ s' h => ?_) fun _ _ e => e))
  · rw [em]
    exact keys_dp (isKeys_of pr)
  · obtain ⟨k, _, rfl⟩ := List.mem_map.mp hd
    exact key_depth k
  · exact wpAny_pure ⟨_, rfl, h⟩
/-! ### max, min of a list -/
def rBest (K : PySem.W.Frag) (f : List PyData → Option PyData) : List V → Hp → VK → Prop := fun vs H Q => ∃ (a : Addr) (xs : List V) (ds : List PyData), vs = [V.ref a] ∧ SqL K H a xs ∧ DpAll K H xs ds ∧ xs.length = ds.length ∧ sortOk ds = true ∧ (∀ d ∈ ds, d.depth ≤ 60) ∧ ds ≠ [] ∧
  ∀ (i : Nat) (x : V) (d : PyData), xs[i]? = some x → ds[i]? = some d → f ds = some d → Q x H
theorem vals_at : ∀ {xs : List V} {us : List Value} {i : Nat} {u : Value}, Vals xs us → us[i]? = some u → ∃ x, xs[i]? = some x ∧ RelV x u
  | _, _, _, _, .nil, e => by simp at e
  | _, _, 0, _, .cons r _, e => by simp at e; subst e; exact ⟨_, rfl, r⟩
  | _, _, i + 1, _, .cons _ t, e => vals_at (i := i) t (by simpa using e)
theorem fold_mem {α : Type} (p : α → α → Bool) : ∀ (x : α) (xs : List α), xs.foldl (fun a y => if p a y then y else a) x ∈ x :: xs
  | x, [] => by simp
  | x, y :: xs => by
    rw [List.foldl_cons]
    have := fold_mem p (if p x y then y else x) xs
    by_cases h : p x y = true
    · rw [if_pos h] at this ⊢
      exact List.mem_cons_of_mem _ this
    · rw [if_neg h] at this ⊢
      rcases List.mem_cons.mp this with e | e
      · rw [e]; simp
      · exact List.mem_cons_of_mem _ (List.mem_cons_of_mem _ e)
theorem maxD_mem (d : PyData) (ds : List PyData) : PySem.W.maxD d ds ∈ d :: ds := fold_mem (fun a y => PySem.W.dataLt a y) d ds
theorem minD_mem (d : PyData) (ds : List PyData) : PySem.W.minD d ds ∈ d :: ds := fold_mem (fun a y => PySem.W.dataLt y a) d ds
theorem cr_maxD (hc : X.calm = true) (hu : X.A.units + 65 < cLine) : CallR X (.builtin "max") (rBest X.K maxD) := by
  intro pins s σ H vs us Q I r h
  obtain ⟨a, xs, ds, rfl, hs, hd, hl, ho, hdep, hne, q⟩ := h
  obtain ⟨its, rv, hL, hz⟩ := I.list hs
  obtain ⟨u, rfl, ru⟩ := vals1 r
  obtain rfl : u = Value.ref a := ru
  obtain ⟨as, hr⟩ := Dp.readsAll I ds xs its hd rv
  obtain ⟨ho1, ho2⟩ := sortOk_ok ho
  cases ds with
  | nil => exact absurd rfl hne
  | cons d ds =>
    refine PySem.W.max_list_data (vs := its.toArray) (I.ok.hd hc) hL.isList hr ⟨ho1, sortOk_ne ho⟩ (by have := depthAll_le hdep; omega) fun i v h' tk bs hv hrd hk => ?_
    have hv' : its[i]? = some v := by simpa using hv
    obtain ⟨x, ex, rx⟩ := vals_at rv hv'
    obtain ⟨bs2, r2, hi, hm, _⟩ := PySem.W.readsAll_at hr i v hv'
    have r3 := PyProof.Rows.Reads.keeps hk r2
    have hi2 : (d :: ds)[i]? = some ((d :: ds).getD i .none) := by
      rw [List.getD_eq_getElem?_getD, List.getElem?_eq_getElem hi]
      rfl
    have hmx : PySem.W.maxD d ds ∈ d :: ds := maxD_mem d ds
    have e : PySem.W.maxD d ds = (d :: ds).getD i .none := PySem.W.alike_unique _ _ v _ _ (ho1 _ hmx _ hm) hrd r3
    exact ⟨x, H, I.kept hk, rx, q i x _ ex hi2 (by show some (PySem.W.maxD d ds) = _; rw [e])⟩
theorem cr_minD (hc : X.calm = true) (hu : X.A.units + 65 < cLine) : CallR X (.builtin "min") (rBest X.K minD) := by
  intro pins s σ H vs us Q I r h
  obtain ⟨a, xs, ds, rfl, hs, hd, hl, ho, hdep, hne, q⟩ := h
  obtain ⟨its, rv, hL, hz⟩ := I.list hs
  obtain ⟨u, rfl, ru⟩ := vals1 r
  obtain rfl : u = Value.ref a := ru
  obtain ⟨as, hr⟩ := Dp.readsAll I ds xs its hd rv
  obtain ⟨ho1, ho2⟩ := sortOk_ok ho
  cases ds with
  | nil => exact absurd rfl hne
  | cons d ds =>
    refine PySem.W.min_list_data (vs := its.toArray) (I.ok.hd hc) hL.isList hr ⟨ho1, sortOk_ne ho⟩ (by have := depthAll_le hdep; omega) fun i v h' tk bs hv hrd hk => ?_
    have hv' : its[i]? = some v := by simpa using hv
    obtain ⟨x, ex, rx⟩ := vals_at rv hv'
    obtain ⟨bs2, r2, hi, hm, _⟩ := PySem.W.readsAll_at hr i v hv'
    have r3 := PyProof.Rows.Reads.keeps hk r2
    have hi2 : (d :: ds)[i]? = some ((d :: ds).getD i .none) := by
      rw [List.getD_eq_getElem?_getD, List.getElem?_eq_getElem hi]
      rfl
    have hmx : PySem.W.minD d ds ∈ d :: ds := minD_mem d ds
    have e : PySem.W.minD d ds = (d :: ds).getD i .none := PySem.W.alike_unique _ _ v _ _ (ho1 _ hmx _ hm) hrd r3
    exact ⟨x, H, I.kept hk, rx, q i x _ ex hi2 (by show some (PySem.W.minD d ds) = _; rw [e])⟩
end

section
variable {X : Cx} {cl : Nat → Addr} {W : WX} {e : Expr} {es : List Expr} {gs : Slots → Store → R (List Val)} {pos p : Pos} {x : Str}
def bfNo : Bf → Bool
  | .lenset => true
  | .sortset => true
  | _ => false
theorem okD_deps {ds : List PyData} (h : ds.all (okD 30) = true) : ∀ d ∈ ds, d.depth ≤ 60 := fun d hd => by
  have := (okD_ok 30 d (List.all_eq_true.mp h d hd)).2
  omega
theorem keys_K {K : PySem.W.Frag} {B r : List Addr} {H : Hp} : ∀ {xs : List (L2.Key × V)} {kvs : List (KK × Val)}, Paired (fun (p : L2.Key × V) (q : KK × Val) => q.1 = .inl p.1 ∧ VR K cl B r H p.2 q.2) xs kvs → kvs.map (fun p => KK.d p.1) = xs.map fun p => leafD p.1
  | _, _, .nil => rfl
  | _, _, .cons h t => by rw [List.map_cons, List.map_cons, keys_K t, h.1]; rfl
theorem keys_T {K : PySem.W.Frag} {B r : List Addr} {H : Hp} : ∀ {xs : List (List L2.Key × V)} {kvs : List (KK × Val)}, Paired (fun (p : List L2.Key × V) (q : KK × Val) => q.1 = .inr p.1 ∧ VR K cl B r H p.2 q.2) xs kvs → kvs.map (fun p => KK.d p.1) = xs.map fun p => .tuple (p.1.map leafD)
  | _, _, .nil => rfl
  | _, _, .cons h t => by rw [List.map_cons, List.map_cons, keys_T t, h.1]; rfl
theorem leaf_dr {B r : List Addr} {H : Hp} (k : L2.Key) : DR B r H (kV k) (leafD k) := by
  cases k with
  | inl i => exact .int i
  | inr z => exact .str z
theorem leafs_dr {B r : List Addr} {H : Hp} : ∀ ks : List L2.Key, DRs B r H (ks.map kV) (ks.map leafD)
  | [] => .nil
  | k :: ks => .cons (leaf_dr k) (leafs_dr ks)
theorem leafs_dr1 {B r : List Addr} {H : Hp} (xs : List (L2.Key × V)) : DRs B r H (xs.map fun p => kV p.1) (xs.map fun p => leafD p.1) := by
  have := leafs_dr (B := B) (r := r) (H := H) (xs.map (·.1))
  rw [List.map_map, List.map_map] at this
  exact this
theorem keys_dr {B r : List Addr} {H : Hp} : ∀ {kvs : List (List L2.Key × V)} {bs : List Addr}, (∀ p ∈ kvs, p.1.length ≤ lim) → IsKeys H kvs bs → DRs B r H (bs.map V.ref) (kvs.map fun p => .tuple (p.1.map leafD))
  | _, _, _, .nil => .nil
  | q :: _, _, hl, .cons h t => .cons (.tup h (by simpa using hl q (by simp)) (leafs_dr _)) (keys_dr (fun p hp => hl p (by simp [hp])) t)
theorem sortD_len (ds : List PyData) : (sortD ds).length = ds.length := (List.mergeSort_perm _ _).length_eq
theorem se_sorted {al : Bool} (hcalm : X.calm = true) (hu : X.A.units + 65 < cLine) (hg : Gl X "sorted") (hm : X.mg "sorted" = none) (ha : SA X cl W (e :: es) gs) (hs : (e :: es).all notStar = true) :
    SE X cl W (.Call (.Name "sorted" p) (e :: es) [] pos) (fun s M => (gs s M).bind fun vs M => biSorted al vs M) := by
  refine se_callB (id := "sorted") (f := fun vs M => biSorted al vs M) ((cr_sortD hu).or ((cr_sortK hcalm hu).or (cr_sortT hcalm hu))) hg hm (by decide +kernel) ha (fun σ B r H M Q us vs R hv o => ?_) hs (by decide) (by decide)
  unfold biSorted at o
  split at o
  · rename_i v
    obtain ⟨x, rfl, hx⟩ := VRs.one hv
    have asL : ∀ ds, lstD M v = some ds → Out X.K cl (VR X.K cl B) W σ B r H (if sortOk ds && ds.all (okD 30) then mkL al (sortD ds) M else .bad) (KQ Q) → rSortD X.K [x] H Q := by
      intro ds e o
      split at o
      · rename_i hc
        simp only [Bool.and_eq_true] at hc
        obtain ⟨pa, ys, rfl, ha, da, la⟩ := VR.lstD R hx e
        refine ⟨pa, ys, ds, rfl, .inl (.inl ha), da.dp, da.length, hc.1, okD_deps hc.2, by rw [← lim_eq]; exact la, fun p hp => ?_⟩
        obtain ⟨_, _, _, q⟩ := Out.newL o R (drs_sort da) (by rw [sortD_len]; exact la) hp
        exact q
      · exact o.elim
    cases v with
    | ref n =>
      obtain ⟨pa, rfl, hp⟩ := hx.atRef
      obtain ⟨c, e1, hc⟩ := R.mem hp
      cases hc with
      | lst h' l hs =>
        simp only [keysOf, e1] at o
        split at o
        · rename_i ds e
          exact .inl (asL ds (by simp only [lstD, e1]; exact e) o)
        · exact o.elim
      | dK h' l hs =>
        simp only [keysOf, e1] at o
        rw [keys_K hs] at o
        split at o
        · rename_i hc
          simp only [Bool.and_eq_true] at hc
          refine .inr (.inl ⟨pa, _, rfl, h', hc.1, fun p hp => ?_⟩)
          obtain ⟨_, _, _, q⟩ := Out.newL o R (drs_sort (leafs_dr1 _)) (by rw [sortD_len, List.length_map, Paired.length hs]; exact l) hp
          exact q
        · exact o.elim
      | dT h' l hs =>
        simp only [keysOf, e1] at o
        rw [keys_T hs] at o
        split at o
        · rename_i hc
          simp only [Bool.and_eq_true] at hc
          refine .inr (.inr ⟨pa, _, rfl, h', hc.1, fun p bs hp hk hlen => ?_⟩)
          obtain ⟨_, _, _, q⟩ := Out.newL o R (drs_sort (keys_dr hlen hk)) (by rw [sortD_len, List.length_map, Paired.length hs]; exact l) hp
          exact q
        · exact o.elim
      | ins h' ho nb n ci hs => simp [keysOf, e1] at o; exact o.elim
      | tup h' l hs => simp [keysOf, e1] at o; exact o.elim
    | d y =>
      have : keysOf M (.d y) = lstD M (.d y) := rfl
      rw [this] at o
      split at o
      · rename_i ds e
        exact .inl (asL ds e o)
      · exact o.elim
    | exc c => exact o.elim
    | scr ns => exact o.elim
  · exact o.elim
theorem best_dr {K : PySem.W.Frag} {B r : List Addr} {H : Hp} {xs : List V} {ds : List PyData} {i : Nat} {x : V} {d : PyData} (h : DRs B r H xs ds) (e1 : xs[i]? = some x) (e2 : ds[i]? = some d) : VR K cl B r H x (.d d) := .d (h.elt e2 e1)
theorem se_biA {al : Bool} (f : Bf) (hno : bfNo f = false) (hcalm : X.calm = true) (hu : X.A.units + 65 < cLine) (hx : x = bfName f) (hg : Gl X x) (hm : X.mg x = none) (ha : SA X cl W (e :: es) gs) (hs : (e :: es).all notStar = true) :
    SE X cl W (.Call (.Name x p) (e :: es) [] pos) (fun s M => (gs s M).bind fun vs M => biD al f vs M) := by
  cases hl : bfLate f with
  | false => exact se_bi f hl hcalm hx hg hm ha hs
  | true =>
    subst hx
    cases f with
    | sorted => exact se_sorted hcalm hu hg hm ha hs
    | max1 =>
      refine se_callB (id := "max") (f := fun vs M => biMax1 vs M) (cr_maxD hcalm hu) hg hm (by decide +kernel) ha (fun σ B r H M Q us vs R hv o => ?_) hs (by decide) (by decide)
      unfold biMax1 at o
      split at o
      · obtain ⟨x, rfl, hx⟩ := VRs.one hv
        split at o
        · rename_i ds e
          split at o
          · rename_i hc
            simp only [Bool.and_eq_true] at hc
            obtain ⟨pa, ys, rfl, ha, da, la⟩ := VR.lstD R hx e
            refine ⟨pa, ys, ds, rfl, .inl (.inl ha), da.dp, da.length, hc.1, okD_deps hc.2, fun z => by rw [z] at o; exact o.elim, fun i x d e1 e2 e3 => ?_⟩
            rw [e3] at o
            exact Out.here (u := x) o R (best_dr da e1 e2)
          · exact o.elim
        · exact o.elim
      · exact o.elim
    | min1 =>
      refine se_callB (id := "min") (f := fun vs M => biMin1 vs M) (cr_minD hcalm hu) hg hm (by decide +kernel) ha (fun σ B r H M Q us vs R hv o => ?_) hs (by decide) (by decide)
      unfold biMin1 at o
      split at o
      · obtain ⟨x, rfl, hx⟩ := VRs.one hv
        split at o
        · rename_i ds e
          split at o
          · rename_i hc
            simp only [Bool.and_eq_true] at hc
            obtain ⟨pa, ys, rfl, ha, da, la⟩ := VR.lstD R hx e
            refine ⟨pa, ys, ds, rfl, .inl (.inl ha), da.dp, da.length, hc.1, okD_deps hc.2, fun z => by rw [z] at o; exact o.elim, fun i x d e1 e2 e3 => ?_⟩
            rw [e3] at o
            exact Out.here (u := x) o R (best_dr da e1 e2)
          · exact o.elim
        · exact o.elim
      · exact o.elim
    | lenset => cases hno
    | sortset => cases hno
    | _ => cases hl
end
end Gv

/-! sets of tuples of whole numbers, as many as some two thousand: the table's walk over any power of two -/
namespace Ts
open PySem PySem.Spec L2 PyProof.Rows
/-! ### x -> 5 x + 1 goes round all residues of a power of two -/
def jump : Nat → Nat → Nat
  | 0, x => x
  | k + 1, x => 5 * jump k x + 1
theorem jump_app (a b x : Nat) : jump (a + b) x = jump a (jump b x) := by
  induction a with
  | zero => rw [Nat.zero_add]; rfl
  | succ a ih => rw [Nat.succ_add]; show 5 * jump (a + b) x + 1 = 5 * jump a (jump b x) + 1; rw [ih]
theorem jump_four (k x : Nat) : 4 * jump k x + 1 = 5 ^ k * (4 * x + 1) := by
  induction k with
  | zero => simp [jump]
  | succ k ih =>
    have : 4 * jump (k + 1) x + 1 = 5 * (4 * jump k x + 1) := by show 4 * (5 * jump k x + 1) + 1 = _; omega
    rw [this, ih, Nat.pow_succ, Nat.mul_comm (5 ^ k) 5, Nat.mul_assoc]
theorem five_pow (n : Nat) : ∃ q, 5 ^ 2 ^ n = 1 + 2 ^ (n + 2) * (2 * q + 1) := by
  induction n with
  | zero => exact ⟨0, rfl⟩
  | succ n ih =>
    obtain ⟨q, e⟩ := ih
    refine ⟨q + 2 ^ n * (2 * q + 1) * (2 * q + 1), ?_⟩
    rw [Nat.pow_succ 2 n, Nat.pow_mul, e]
    have h1 : 2 ^ (n + 1 + 2) = 2 * 2 ^ (n + 2) := by rw [Nat.add_right_comm, Nat.pow_succ]; omega
    have h2 : 2 ^ (n + 2) = 4 * 2 ^ n := by rw [Nat.pow_add]; omega
    rw [h1, h2]
    generalize 2 ^ n = z
    grind

/-- the jump by a whole power of two moves by just that power -/
theorem jump_pow (n x : Nat) : ∃ y, jump (2 ^ n) x = x + 2 ^ n * (2 * y + 1) := by
  obtain ⟨q, e⟩ := five_pow n
  have h := jump_four (2 ^ n) x
  rw [e, Nat.pow_add] at h
  refine ⟨q * (4 * x + 1) + 2 * x, ?_⟩
  generalize 2 ^ n = z at h ⊢
  generalize jump z x = j at h
  have : 4 * j + 1 = 4 * (x + z * (2 * (q * (4 * x + 1) + 2 * x) + 1)) + 1 := by rw [h]; grind
  omega
theorem jump_meets : ∀ (n x y : Nat), ∃ k, k < 2 ^ n ∧ jump k x % 2 ^ n = y % 2 ^ n
  | 0, x, y => ⟨0, by decide, by rw [Nat.pow_zero, Nat.mod_one, Nat.mod_one]⟩
  | n + 1, x, y => by
    obtain ⟨k, hk, e⟩ := jump_meets n x y
    have p2 : 2 ^ (n + 1) = 2 * 2 ^ n := by rw [Nat.pow_succ, Nat.mul_comm]
    have pz : 0 < 2 ^ n := Nat.pow_pos (by decide)
    by_cases c : jump k x % 2 ^ (n + 1) = y % 2 ^ (n + 1)
    · exact ⟨k, by omega, c⟩
    · refine ⟨2 ^ n + k, by omega, ?_⟩
      obtain ⟨w, ew⟩ := jump_pow n (jump k x)
      rw [jump_app, ew, p2]
      rw [p2] at c
      generalize jump k x = j at *
      generalize 2 ^ n = z at *
      have a1 : j % (z * 2) = j % z + z * (j / z % 2) := Nat.mod_mul
      have a2 : y % (z * 2) = y % z + z * (y / z % 2) := Nat.mod_mul
      have a3 : (j + z * (2 * w + 1)) % (z * 2) = (j + z * (2 * w + 1)) % z + z * ((j + z * (2 * w + 1)) / z % 2) := Nat.mod_mul
      rw [Nat.add_mul_mod_self_left, Nat.add_mul_div_left _ _ pz] at a3
      rw [Nat.mul_comm 2 z] at c ⊢
      rw [a3, a2, e]
      rw [a1, a2, e] at c
      have : (j / z + (2 * w + 1)) % 2 = y / z % 2 := by
        rcases Nat.mod_two_eq_zero_or_one (j / z) with h1 | h1 <;> rcases Nat.mod_two_eq_zero_or_one (y / z) with h2 | h2 <;> rw [h1, h2] at c <;> first | omega | exact absurd rfl c
      rw [this]
/-- masks: one less than a power of two -/
def Msk (m : Nat) : Prop := ∃ n, 3 ≤ n ∧ m + 1 = 2 ^ n
theorem lcg_jump (m i : Nat) : ∀ k, lcgI m i k % (m + 1) = jump k i % (m + 1)
  | 0 => rfl
  | k + 1 => by
    show (lcgI m i k * 5 + 1) % (m + 1) % (m + 1) = (5 * jump k i + 1) % (m + 1)
    rw [Nat.mod_mod, Nat.mul_comm, Nat.add_mod, Nat.mul_mod, lcg_jump m i k, ← Nat.mul_mod, ← Nat.add_mod]
theorem lcg_lt {m i : Nat} (hi : i ≤ m) : ∀ k, lcgI m i k ≤ m
  | 0 => hi
  | k + 1 => Nat.le_of_lt_succ (Nat.mod_lt _ (Nat.succ_pos _))
theorem Msk.round {m : Nat} (hm : Msk m) {i j : Nat} (hi : i ≤ m) (hj : j ≤ m) : ∃ k, k ≤ m ∧ lcgI m i k = j := by
  obtain ⟨n, _, e⟩ := hm
  obtain ⟨k, hk, h⟩ := jump_meets n i j
  refine ⟨k, by omega, ?_⟩
  rw [← e, ← lcg_jump, Nat.mod_eq_of_lt (Nat.lt_succ_of_le (lcg_lt hi k)), Nat.mod_eq_of_lt (Nat.lt_succ_of_le hj)] at h
  exact h
theorem Msk.odd {m : Nat} (hm : Msk m) : m % 2 = 1 := by
  obtain ⟨n, h3, e⟩ := hm
  obtain ⟨n, rfl⟩ : ∃ n', n = n' + 1 := ⟨n - 1, by omega⟩
  rw [Nat.pow_succ] at e
  omega
theorem Msk.seven : Msk 7 := ⟨3, by decide, rfl⟩
/-! ### each slot stands on each way -/
theorem Msk.begins {m : Nat} (hm : Msk m) (h : Int) {j : Nat} (hj : j ≤ m) : ∃ n, n ≤ m + 12 ∧ runI m (SetTable.bits h) n = j := by
  obtain ⟨k, hk, e⟩ := hm.round (runI_le m (SetTable.bits h) 12) hj
  refine ⟨12 + k, by omega, (runI_tail (bits_lt h) k).trans e⟩
theorem way_off {m : Nat} (h : Int) (n : Nat) : way m h (off m (SetTable.bits h % (m + 1)) (SetTable.bits h) n) = runI m (SetTable.bits h) n := by
  show SetTable.Probe.j (nth m _ (off m _ _ n)) = _
  rw [nth_off, itL_run]
  rfl
theorem off_le (m : Nat) : ∀ (n i b : Nat), off m i b n ≤ 10 * n
  | 0, _, _ => Nat.le_refl _
  | n + 1, i, b => by
    have h := off_le m n (SetTable.leap m i b).1 (SetTable.leap m i b).2
    have : SetTable.runEnd m i - i ≤ 9 := by unfold SetTable.runEnd; split <;> omega
    show (SetTable.runEnd m i - i + 1) + off m _ _ n ≤ _
    omega
theorem Msk.meets {m : Nat} (hm : Msk m) (h : Int) {j : Nat} (hj : j ≤ m) : ∃ n, n ≤ m + 12 ∧ way m h (off m (SetTable.bits h % (m + 1)) (SetTable.bits h) n) = j := by
  obtain ⟨n, hn, e⟩ := hm.begins h hj
  exact ⟨n, hn, (way_off h n).trans e⟩
theorem way_in (m : Nat) (h : Int) (k : Nat) : way m h k ≤ m := by
  have hs : (runAt m (SetTable.bits h % (m + 1)) (SetTable.bits h)).j + (runAt m (SetTable.bits h % (m + 1)) (SetTable.bits h)).more ≤ m := by
    have hi : SetTable.bits h % (m + 1) ≤ m := Nat.le_of_lt_succ (Nat.mod_lt _ (Nat.succ_pos _))
    obtain ⟨a, b, _⟩ := runEnd_bd hi
    show SetTable.bits h % (m + 1) + (SetTable.runEnd m (SetTable.bits h % (m + 1)) - SetTable.bits h % (m + 1)) ≤ m
    omega
  have := nth_in k _ hs
  show (nth m _ k).j ≤ m
  omega
end Ts

namespace Ts
open PySem PySem.Spec L2 PyProof.Rows
/-- a way's first step out of a set of taken slots that leaves one out -/
theorem Msk.out {m : Nat} (hm : Msk m) (h : Int) (T : Nat → Prop) {j : Nat} (hj : j ≤ m) (hn : ¬ T j) :
    ∃ n K, n ≤ m + 12 ∧ K ≤ off m (SetTable.bits h % (m + 1)) (SetTable.bits h) n ∧ ¬ T (way m h K) ∧ ∀ k, k < K → T (way m h k) := by
  obtain ⟨n, hn2, e⟩ := hm.meets h hj
  obtain ⟨K, a, b, c⟩ := st_least (p := fun k => ¬ T (way m h k)) _ (show ¬ T (way m h (off m (SetTable.bits h % (m + 1)) (SetTable.bits h) n)) by rw [show way m h _ = j from e]; exact hn)
  exact ⟨n, K, hn2, a, b, fun k hk => Classical.not_not.mp (c k hk)⟩
/-- a table without dummies in which each hash is found again -/
structure Tb (t : SetTable) (hs : List Int) : Prop where
  up : Ris t.place.toList
  nd : t.dummies = #[]
  ln : t.place.toList.length = hs.length
  ms : Msk t.mask
  le : ∀ x ∈ t.place.toList, x ≤ t.mask
  re : ∀ q ∈ hs.zip t.place.toList, ∃ k, way t.mask q.1 k = q.2 ∧ ∀ k', k' < k → way t.mask q.1 k' ∈ t.place.toList
theorem Tb.first {t : SetTable} {hs : List Int} (T : Tb t hs) (hl : hs.length ≤ t.mask) (h : Int) : ∃ K, K ≤ 10 * (t.mask + 12) ∧ way t.mask h K ∉ t.place.toList ∧ ∀ k, k < K → way t.mask h k ∈ t.place.toList := by
  obtain ⟨j, hj, hn⟩ := st_missing t.place.toList (t.mask + 1) (by rw [T.ln]; omega)
  obtain ⟨n, K, a, b, c, d⟩ := T.ms.out h (· ∈ t.place.toList) (Nat.le_of_lt_succ hj) hn
  have := off_le t.mask n (SetTable.bits h % (t.mask + 1)) (SetTable.bits h)
  exact ⟨K, by omega, c, d⟩
theorem Tb.ahead {t : SetTable} {hs : List Int} (T : Tb t hs) {h : Int} {K i j : Nat} (hK : way t.mask h K ∉ t.place.toList) (hi : hs[i]? = some h) (hj : t.place.toList[i]? = some j) : ∃ k, k < K ∧ way t.mask h k = j := by
  obtain ⟨k, e, hb⟩ := T.re (h, j) (List.mem_of_getElem? (i := i) (by rw [List.getElem?_zip_eq_some]; exact ⟨hi, hj⟩))
  dsimp only at e hb
  refine ⟨k, Nat.lt_of_not_le fun c => ?_, e⟩
  rcases Nat.lt_or_ge K k with d | d
  · exact hK (hb K d)
  · rw [Nat.le_antisymm c d, e] at hK
    exact hK (List.mem_of_getElem? hj)
theorem zip_put {α β : Type} (a : List α) (b : List β) (p : Nat) (x : α) (y : β) (hl : a.length = b.length) : (a.take p ++ x :: a.drop p).zip (b.take p ++ y :: b.drop p) = (a.zip b).take p ++ (x, y) :: (a.zip b).drop p := by
  rw [List.zip_append (by rw [List.length_take, List.length_take, hl]), List.zip_cons_cons]; simp only [List.zip_eq_zipWith, List.take_zipWith, List.drop_zipWith]
/-- the table behind a put at the first free slot of a way -/
theorem Tb.put {t : SetTable} {hs : List Int} (T : Tb t hs) {h : Int} {K : Nat} (hK : way t.mask h K ∉ t.place.toList) (hb : ∀ k, k < K → way t.mask h k ∈ t.place.toList) :
    SetTable.below t.place (way t.mask h K) ≤ hs.length ∧ Tb (t.put (way t.mask h K)).1 (hs.take (SetTable.below t.place (way t.mask h K)) ++ h :: hs.drop (SetTable.below t.place (way t.mask h K))) ∧
    (t.put (way t.mask h K)).1.fill = hs.length + 1 := by
  have hw := way_in t.mask h K
  generalize ew : way t.mask h K = j at *
  have cut := (below_cut T.up j).1
  have hp : SetTable.below t.place j ≤ t.place.toList.length := by simpa using cut
  have hne : t.place[SetTable.below t.place j]? ≠ some j := fun e => hK (List.mem_of_getElem? (by rw [Array.getElem?_toList]; exact e))
  have pp := put_place t j
  have pd := put_dm T.nd j
  have len : (t.put j).1.place.toList.length = hs.length + 1 := by rw [pp, len_ins _ hp, T.ln]
  refine ⟨by rw [← T.ln]; exact hp, ⟨ris_insert T.up hne, pd, ?_, T.ms, fun x hx => ?_, fun q hq => ?_⟩, ?_⟩
  · rw [len_ins _ (by rw [← T.ln]; exact hp)]; exact len
  · rw [pp] at hx
    rcases mem_ins.1 hx with rfl | z
    · exact hw
    · exact T.le x z
  · rw [pp, zip_put _ _ _ _ _ T.ln.symm] at hq
    rw [pp]
    show ∃ k, way t.mask q.1 k = q.2 ∧ _
    rcases mem_ins.1 hq with rfl | z
    · exact ⟨K, ew, fun k' hk => mem_ins.2 (.inr (hb k' hk))⟩
    · obtain ⟨k, e, y⟩ := T.re q z
      exact ⟨k, e, fun k' hk => mem_ins.2 (.inr (y k' hk))⟩
  · show (t.put j).1.place.size + (t.put j).1.dummies.size = _
    rw [pd, ← Array.length_toList, len]; rfl
/-! ### all laid anew -/
theorem free_at {m : Nat} (hm : Msk m) (own : Array (Option Nat)) (h : Int) {j : Nat} (hj : j ≤ m) (hf : oAt own j = none) :
    ∃ K, SetTable.layClean.free m own (SetTable.turns m) (SetTable.bits h % (m + 1)) (SetTable.bits h) = some (way m h K) ∧ oAt own (way m h K) = none ∧ ∀ k, k < K → oAt own (way m h k) ≠ none := by
  obtain ⟨n, K, a, b, c, d⟩ := hm.out h (fun j => oAt own j ≠ none) hj (fun c => c hf)
  have c := Classical.not_not.mp c
  exact ⟨K, free_spec m own _ n _ _ K (by unfold SetTable.turns; omega) b (fun k hk => by
    have := d k hk
    show (oAt own (way m h k)).isNone = false
    cases z : oAt own (way m h k) with
    | none => exact absurd z this
    | some _ => rfl) (by show (oAt own (way m h K)).isNone = true; rw [c]; rfl), c, d⟩
theorem own_next {m : Nat} (hm : Msk m) {done : List Int} {own : Array (Option Nat)} (W : Own m done own) (hl : done.length ≤ m) (h : Int) :
    ∃ own', stepF m (some (own, done.length)) h = some (own', (done ++ [h]).length) ∧ Own m (done ++ [h]) own' := by
  obtain ⟨ps, lp, ip⟩ := W.ps
  obtain ⟨j, hj, nj⟩ := st_missing ps (m + 1) (by omega)
  obtain ⟨K, e1, e2, e3⟩ := free_at hm own h (Nat.le_of_lt_succ hj) (Classical.not_not.mp fun c => nj (ip j (Nat.le_of_lt_succ hj) c))
  have hw := way_in m h K
  have se := oAt_set_self (some done.length) (show way m h K < own.size by rw [W.sz]; omega)
  have stay : ∀ i, oAt own i ≠ none → oAt (own.setIfInBounds (way m h K) (some done.length)) i ≠ none := fun i hi => by
    by_cases c : i = way m h K
    · rw [c, se]; simp
    · rwa [oAt_set_ne _ c]
  refine ⟨_, by rw [stepF_some e1, List.length_append]; rfl, ?_⟩
  constructor
  · simpa using W.sz
  · intro i k hi e
    by_cases c : i = way m h K
    · rw [c, se] at e
      cases e
      exact ⟨h, K, by simp, c.symm, fun k' hk => stay _ (e3 k' hk)⟩
    · rw [oAt_set_ne _ c] at e
      obtain ⟨g, L, a1, a2, a3⟩ := W.at_ i k hi e
      exact ⟨g, L, by rw [List.getElem?_append_left (List.getElem?_eq_some_iff.mp a1).1]; exact a1, a2, fun k' hk => stay _ (a3 k' hk)⟩
  · intro k hk
    by_cases c : k < done.length
    · obtain ⟨i, hi, e⟩ := W.all k c
      exact ⟨i, hi, by rw [oAt_set_ne _ fun z => by rw [z, e2] at e; cases e]; exact e⟩
    · have : k = done.length := by simp at hk; omega
      exact ⟨way m h K, hw, by rw [se, this]⟩
  · refine ⟨way m h K :: ps, by simp [lp], fun i hi e => ?_⟩
    by_cases c : i = way m h K
    · rw [c]; exact List.mem_cons_self
    · rw [oAt_set_ne _ c] at e
      exact List.mem_cons_of_mem _ (ip i hi e)
theorem own_all {m : Nat} (hm : Msk m) (rest : List Int) : ∀ (done : List Int) (own : Array (Option Nat)), Own m done own → done.length + rest.length ≤ m →
    ∃ own', rest.foldl (stepF m) (some (own, done.length)) = some (own', (done ++ rest).length) ∧ Own m (done ++ rest) own' := by
  induction rest with
  | nil => intro done own W _; exact ⟨own, by simp, by simpa using W⟩
  | cons h rest ih =>
    intro done own W hl
    simp only [List.length_cons] at hl
    obtain ⟨o1, e1, W1⟩ := own_next hm W (by omega) h
    obtain ⟨o2, e2, W2⟩ := ih (done ++ [h]) o1 W1 (by simp; omega)
    rw [List.append_assoc] at W2 e2
    exact ⟨o2, by rw [List.foldl_cons, e1]; exact e2, W2⟩
theorem lay_at {m : Nat} (hm : Msk m) (hs : Array Int) (hn : hs.size ≤ m) : ∃ own, SetTable.layClean m hs = some own ∧ Own m hs.toList own := by
  obtain ⟨own, e, W⟩ := own_all hm hs.toList [] _ (Own.init m) (by simp; omega)
  exact ⟨own, by rw [layClean_eq]; rw [show (([] : List Int).length) = 0 from rfl] at e; rw [e]; rfl, W⟩
theorem relay_tb (t : SetTable) {hs : Array Int} {wanted M : Nat} (hw : SetTable.sizeAbove wanted = M + 1) (hM : Msk M) (hn : hs.size ≤ M) :
    ∃ t' order, t.relaid hs wanted = some (t', order) ∧ order.toList.Perm (List.range hs.size) ∧ Tb t' (order.toList.map fun i => hs.getD i 0) ∧ t'.mask = M ∧ t'.led = t.led ∧ t'.plain = t.plain := by
  obtain ⟨own, e, W⟩ := lay_at hM hs hn
  have sz := W.sz
  have lv := fun j k => mem_live (owner := own) sz (j := j) (k := k)
  obtain ⟨r1, r2⟩ := ris_live (fun j => own.getD j none) (List.range (M + 1)) (by unfold Ris; exact List.pairwise_lt_range)
  have ndp : ((liveOf M own).map (·.1)).Nodup := r1.imp fun h => Nat.ne_of_lt h
  have all : ∀ k, k < hs.size → k ∈ (liveOf M own).map (·.2) := fun k hk => by
    obtain ⟨j, a, b⟩ := W.all k (by simpa using hk)
    exact List.mem_map.mpr ⟨(j, k), (lv j k).2 ⟨a, b⟩, rfl⟩
  have len : (liveOf M own).length = hs.size := by
    obtain ⟨ps, p1, p2⟩ := W.ps
    have a := nat_nodup_len _ ps ndp fun x hx => by
      obtain ⟨⟨y, k⟩, hq, rfl⟩ := List.mem_map.mp hx
      obtain ⟨b1, b2⟩ := (lv y k).1 hq
      exact p2 y b1 (by rw [b2]; simp)
    have b := nat_nodup_len (List.range hs.size) ((liveOf M own).map (·.2)) List.nodup_range fun k hk => all k (List.mem_range.mp hk)
    simp at a b p1
    omega
  refine ⟨tabOf t M own, ((liveOf M own).map (·.2)).toArray, ?_, perm_range hs.size _ (by simpa using len) all, ⟨r1, rfl, by simp [tabOf], hM, fun x hx => Nat.le_of_lt_succ (List.mem_range.mp (r2 x hx)), ?_⟩, rfl, rfl, rfl⟩
  · rw [relaid_eq, hw, show M + 1 - 1 = M from rfl, e]; rfl
  · intro q hq
    change q ∈ (((liveOf M own).map (·.2)).map fun i => hs.getD i 0).zip ((liveOf M own).map (·.1)) at hq
    rw [List.map_map, List.zip_map'] at hq
    obtain ⟨⟨j, k⟩, hjk, rfl⟩ := List.mem_map.mp hq
    obtain ⟨b1, b2⟩ := (lv j k).1 hjk
    obtain ⟨g, K, a1, a2, a3⟩ := W.at_ j k b1 b2
    have eg : hs.getD k 0 = g := by rw [Array.getD_eq_getD_getElem?, ← Array.getElem?_toList, a1]; rfl
    dsimp only [Function.comp]
    rw [eg]
    refine ⟨K, a2, fun k' hk => ?_⟩
    show way M g k' ∈ (liveOf M own).map (·.1)
    cases z : oAt own (way M g k') with
    | none => exact absurd z (a3 k' hk)
    | some i => exact List.mem_map.mpr ⟨(_, i), (lv _ i).2 ⟨way_in M g k', z⟩, rfl⟩
theorem above_go (w : Nat) (hw : w < 2 ^ 13) : ∀ (f k : Nat), 3 ≤ k → k ≤ 13 → 13 ≤ k + f → ∃ n, k ≤ n ∧ n ≤ 13 ∧ SetTable.sizeAbove.go w f (2 ^ k) = 2 ^ n ∧ w < 2 ^ n
  | 0, k, _, h1, h2 => ⟨k, Nat.le_refl _, h1, rfl, by rw [show k = 13 by omega]; exact hw⟩
  | f + 1, k, h0, h1, h2 => by
    by_cases c : 2 ^ k ≤ w
    · have hk : k < 13 := by
        rcases Nat.lt_or_ge k 13 with d | d
        · exact d
        · have : k = 13 := by omega
          rw [this] at c; omega
      obtain ⟨n, a, b, e, d⟩ := above_go w hw f (k + 1) (by omega) hk (by omega)
      refine ⟨n, by omega, b, ?_, d⟩
      show (if 2 ^ k ≤ w then SetTable.sizeAbove.go w f (2 ^ k * 2) else 2 ^ k) = _
      rw [if_pos c, ← Nat.pow_succ]; exact e
    · exact ⟨k, Nat.le_refl _, h1, by show (if 2 ^ k ≤ w then _ else 2 ^ k) = _; rw [if_neg c], by omega⟩
/-- the size that is taken for up to two thousand -/
theorem size_for {l : Nat} (hl : l ≤ 2047) : ∃ M, SetTable.sizeAbove (SetTable.grown l) = M + 1 ∧ Msk M ∧ l * 5 < M * 3 ∧ M ≤ 8191 ∧ 7 ≤ M := by
  have e : SetTable.grown l = l * 4 := by unfold SetTable.grown; rw [if_neg (by omega)]
  rw [e]
  obtain ⟨n, a, b, h, c⟩ := above_go (l * 4) (by omega) 64 3 (Nat.le_refl _) (by decide) (by decide)
  have h8 : 2 ^ 3 ≤ 2 ^ n := Nat.pow_le_pow_right (by decide) a
  have h13 : 2 ^ n ≤ 2 ^ 13 := Nat.pow_le_pow_right (by decide) b
  exact ⟨2 ^ n - 1, by show SetTable.sizeAbove.go (l * 4) 64 (2 ^ 3) = _; rw [h]; omega, ⟨n, a, by omega⟩, by omega, by omega, by omega⟩
end Ts

namespace Ts
open PySem PySem.Spec L2 PyProof.Rows
section
variable {P : Program} {w : World} {A : Around} {E : Value → Shared → Prop} {s : Shared} {a : Addr} {L : List (Addr × List Int)} {es : Array (Int × Value)} {ep : Nat} {t : SetTable}
/-- the set of tuples at a: its rows L, its table t -/
structure Tst (P : Program) (w : World) (h : Heap) (a : Addr) (L : List (Addr × List Int)) (es : Array (Int × Value)) (ep : Nat) (t : SetTable) : Prop where
  obj : ∃ o, h.get? a = some o ∧ o.ExactSet ∧ o.data = .set es ep t
  row : es.toList = rowsOf P w L
  tb : Tb t (L.map fun p => thash P w p.2)
  keys : (L.map (·.2)).Nodup
  each : ∀ p ∈ L, IsT P w h p.2 p.1
  pl : t.plain = true
  led : w.params.followText "set-order" = true ∨ t.led = true
  room : L.length * 5 < t.mask * 3
  low : t.mask ≤ 8191
theorem rows_len {es : Array (Int × Value)} {L : List (Addr × List Int)} (h : es.toList = rowsOf P w L) : es.size = L.length := by
  rw [← Array.length_toList, h]; exact List.length_map ..
theorem rows_at {es : Array (Int × Value)} {L : List (Addr × List Int)} (h : es.toList = rowsOf P w L) {i : Nat} {p : Addr × List Int} (hp : L[i]? = some p) : es[i]? = some (thash P w p.2, .ref p.1) := by
  rw [← Array.getElem?_toList, h]; unfold rowsOf; rw [List.getElem?_map, hp]; rfl
theorem fits_of {t : SetTable} {n : Nat} {hs : List Int} (T : Tb t hs) (hn : hs.length = n) (hl : n ≤ t.mask) : t.fits n = true := by
  have := T.ln
  rw [Array.length_toList] at this
  unfold SetTable.fits SetTable.fill
  rw [T.nd]
  simp
  omega
theorem Tst.fit (R : Tst P w s.heap a L es ep t) : t.fits es.size = true := fits_of R.tb (by rw [List.length_map, rows_len R.row]) (by have := R.room; rw [rows_len R.row]; omega)
abbrev stt (t : SetTable) (h : Int) (c : Nat) : SetTable.Probe := nth t.mask (t.probeStart h) c
theorem stt_dm (t : SetTable) (h : Int) : ∀ c, (stt t h c).dummy = none
  | 0 => rfl
  | c + 1 => by
    unfold stt
    rw [nth_succ]
    have := stt_dm t h c
    unfold adv
    split <;> exact this
theorem wpAny_open (R : Tst P w s.heap a L es ep t) {Q : (Array (Int × Value) × Nat × SetTable) → Shared → Prop} (h : Q (es, ep, t) s) : wpAny (model P w) A (setState a) Q E s := by
  obtain ⟨o, h1, _, h2⟩ := R.obj
  exact wpAny_setState_of h1 h2 R.fit h
/-- from the c-th step of the way on -/
theorem search_on (R : Tst P w s.heap a L es ep t) {x : Addr} {k : List Int} (hx : IsT P w s.heap k x) (hu : A.units < cLine) {K : Nat} (hKf : K < 10 * SetTable.turns t.mask)
    (hK : way t.mask (thash P w k) K ∉ t.place.toList) (hb : ∀ c, c < K → way t.mask (thash P w k) c ∈ t.place.toList) {Q : SetFound → Shared → Prop}
    (yes : k ∈ L.map (·.2) → Q (.there none) s) (no : k ∉ L.map (·.2) → Q (.free (way t.mask (thash P w k) K) false) s) (fuel : Nat) :
    ∀ (c : Nat) (pr : Option SetTable.Probe), pr.getD (t.probeStart (thash P w k)) = stt t (thash P w k) c → c ≤ K → K < fuel + c →
      (∀ (i : Nat) (p : Addr × List Int), L[i]? = some p → p.2 = k → ∃ d, c ≤ d ∧ d < K ∧ t.place.toList[i]? = some (way t.mask (thash P w k) d)) →
      wpAny (model P w) A (setSearchFrom a (.ref x) (thash P w k) true fuel pr) Q E s := by
  induction fuel with
  | zero => intro c pr _ h1 h2; omega
  | succ fuel ih =>
    intro c pr hpr hc hf still
    have shift : ∀ q, nth t.mask (stt t (thash P w k) c) q = stt t (thash P w k) (c + q) := fun q => (nth_add _ _ _ _).symm
    have shj : ∀ q, (nth t.mask (stt t (thash P w k) c) q).j = way t.mask (thash P w k) (c + q) := fun q => congrArg SetTable.Probe.j (shift q)
    rw [setSearchFrom_succ]
    apply wpAny_bind; apply wpAny_open R; dsimp only
    have odd := R.tb.ms.odd
    refine wp_if_neg (by unfold SetTable.gaveWay; simp [odd]) ?_
    have sp := go_spec t R.tb.up R.tb.nd (fun i => (es[i]?.map (·.1)).getD 0) (thash P w k) (10 * SetTable.turns t.mask) (K - c) (stt t (thash P w k) c) (stt_dm t _ c) (by omega)
      (fun q hq => by rw [shj]; exact hb _ (by omega)) (by rw [shj, show c + (K - c) = K by omega]; exact hK)
    have hAt : ∀ {i : Nat} {p : Addr × List Int}, L[i]? = some p → (es[i]?.map (·.1)).getD 0 = thash P w p.2 := fun h => by rw [rows_at R.row h]; rfl
    rcases sp with ⟨q, i, q1, q2, q3, q4, q5⟩ | ⟨q1, q2⟩
    · rw [show t.probe (fun i => (es[i]?.map (·.1)).getD 0) (thash P w k) (pr.getD (t.probeStart (thash P w k))) = SetTable.probe.go t (fun i => (es[i]?.map (·.1)).getD 0) (thash P w k) (10 * SetTable.turns t.mask) (stt t (thash P w k) c) from congrArg _ hpr, q5]
      dsimp only
      rw [shj] at q2
      rw [shj, shift]
      have li : i < L.length := by
        have := (List.getElem?_eq_some_iff.mp q2).1
        have z := R.tb.ln
        rw [List.length_map] at z
        omega
      obtain ⟨p, hp⟩ : ∃ p, L[i]? = some p := ⟨_, List.getElem?_eq_getElem li⟩
      have pm := List.mem_of_getElem? hp
      have sl := slot_live R.tb.up q2
      have rest : wpAny (model P w) A (searchRest a (.ref x) (thash P w k) true fuel es t (way t.mask (thash P w k) (c + q)) i (stt t (thash P w k) (c + (q + 1)))) Q E s := by
        unfold searchRest
        rw [rows_at R.row hp]
        dsimp only
        apply wpAny_bind; apply wpAny_holding; apply wpAny_eqBool_tuple hu (R.each p pm) hx
        apply wpAny_bind; apply wpAny_open R; dsimp only
        by_cases e : p.2 = k
        · exact wp_if_pos (by simp [e]) (wpAny_pure (yes (List.mem_map.mpr ⟨p, pm, e⟩)))
        · refine wp_if_neg (by simp [e]) ?_
          rw [sameMem]
          simp only [if_true, sl, rows_at R.row hp]
          apply wpAny_bind; apply wpAny_isSame_ref_self; apply wpAny_bind; apply wpAny_pure
          simp only [if_true]
          refine wp_if_neg (by simp [e]) (ih (c + (q + 1)) _ rfl (by omega) (by omega) fun i' p' h1 h2 => ?_)
          obtain ⟨d, d1, d2, d3⟩ := still i' p' h1 h2
          refine ⟨d, Nat.lt_of_not_le fun (d4 : d ≤ c + q) => ?_, d2, d3⟩
          rcases Nat.lt_or_ge d (c + q) with d5 | d5
          · exact q4 (d - c) i' (by omega) (by rw [shj, show c + (d - c) = d by omega]; exact d3) ((hAt h1).trans (congrArg _ h2))
          · rw [show d = c + q from Nat.le_antisymm (Nat.le_of_lt_succ (Nat.lt_succ_of_le d4)) d5] at d3
            have s2 := slot_live R.tb.up d3
            rw [sl] at s2
            cases s2
            rw [hp] at h1
            cases h1
            exact e h2
      by_cases lt : t.led = true
      · exact wp_if_neg (by simp [lt]) rest
      · refine wp_if_pos (by simp [lt]) (wpAny_bind (seen_tup hx (fun y hy => ?_) (wp_if_neg (by decide) rest)))
        simp only [List.mem_map, Array.mem_toList_iff, Array.mem_filter] at hy
        obtain ⟨z, ⟨hz, _⟩, rfl⟩ := hy
        have hz := Array.mem_toList_iff.mpr hz
        rw [R.row] at hz
        obtain ⟨p2, m2, rfl⟩ := List.mem_map.mp hz
        exact ⟨p2.2, p2.1, rfl, R.each p2 m2⟩
    · rw [shj, show c + (K - c) = K by omega] at q2
      rw [show t.probe (fun i => (es[i]?.map (·.1)).getD 0) (thash P w k) (pr.getD (t.probeStart (thash P w k))) = SetTable.probe.go t (fun i => (es[i]?.map (·.1)).getD 0) (thash P w k) (10 * SetTable.turns t.mask) (stt t (thash P w k) c) from congrArg _ hpr, q2]
      refine wpAny_pure (no fun hm => ?_)
      obtain ⟨p, pm, e⟩ := List.mem_map.mp hm
      obtain ⟨i, hi, ei⟩ := List.getElem_of_mem pm
      have h1 : L[i]? = some p := by rw [List.getElem?_eq_getElem hi, ei]
      obtain ⟨d, d1, d2, d3⟩ := still i p h1 e
      exact q1 (d - c) i (by omega) (by rw [shj, show c + (d - c) = d by omega]; exact d3) ((hAt h1).trans (congrArg _ e))
theorem search_all (R : Tst P w s.heap a L es ep t) {x : Addr} {k : List Int} (hx : IsT P w s.heap k x) (hu : A.units < cLine) {Q : SetFound → Shared → Prop}
    (yes : k ∈ L.map (·.2) → Q (.there none) s)
    (no : ∀ K, k ∉ L.map (·.2) → way t.mask (thash P w k) K ∉ t.place.toList → (∀ c, c < K → way t.mask (thash P w k) c ∈ t.place.toList) → Q (.free (way t.mask (thash P w k) K) false) s) :
    wpAny (model P w) A (setSearch a (.ref x) (thash P w k) true) Q E s := by
  have r1 := R.room
  have r2 := R.low
  obtain ⟨K, a1, a2, a3⟩ := R.tb.first (by rw [List.length_map]; omega) (thash P w k)
  refine search_on R hx hu (by unfold SetTable.turns; omega) a2 a3 yes (fun h => no K h a2 a3) 100000 0 none rfl (Nat.zero_le _) (by omega) fun i p h1 h2 => ?_
  have li : i < t.place.toList.length := by rw [R.tb.ln, List.length_map]; exact (List.getElem?_eq_some_iff.mp h1).1
  have hj := List.getElem?_eq_getElem li
  obtain ⟨d, d1, d2⟩ := R.tb.ahead a2 (i := i) (by rw [List.getElem?_map, h1, ← h2]; rfl) hj
  exact ⟨d, Nat.zero_le _, d1, by rw [hj, d2]⟩
end
end Ts

namespace Ts
open PySem PySem.Spec L2 PyProof.Rows
section
variable {P : Program} {w : World} {A : Around} {E : Value → Shared → Prop} {s : Shared} {a : Addr} {L : List (Addr × List Int)} {es : Array (Int × Value)} {ep : Nat} {t : SetTable}
theorem line_of {n : Nat} (h : n ≤ 9000) : n ≤ sizeLine := by rw [sizeLine_eq]; omega
/-- a full table, laid anew -/
theorem relay_all {o : Obj} (ho : s.heap.get? a = some o) (ex : o.ExactSet) (hd : o.data = .set es ep t) (row : es.toList = rowsOf P w L) (T : Tb t (L.map fun p => thash P w p.2)) (fit : L.length ≤ t.mask)
    (keys : (L.map (·.2)).Nodup) (each : ∀ p ∈ L, IsT P w s.heap p.2 p.1) (pl : t.plain = true) (ld : w.params.followText "set-order" = true ∨ t.led = true) (few : L.length ≤ 2047) {Q : Unit → Shared → Prop}
    (q : ∀ h' L' es' ep' t', Heap.SameBut a s.heap h' → Tst P w h' a L' es' ep' t' → L'.Perm L → Q () { s with heap := h' }) : wpAny (model P w) A (setRelay a (SetTable.grown L.length)) Q E s := by
  obtain ⟨M, sz, hM, room, lo, _⟩ := size_for few
  have sl := rows_len row
  obtain ⟨t', ord, e1, e2, e3, e4, e5, e6⟩ := relay_tb t (hs := es.map (·.1)) sz hM (by rw [Array.size_map]; omega)
  rw [Array.size_map, sl] at e2
  obtain ⟨L2, r1, r2, r3⟩ := order_rows L es ord row e2
  rw [← r3] at e3
  have s2 := rows_len r1
  have l2 := r2.length_eq
  rw [setRelay_eq]
  apply wpAny_bind; apply wpAny_setState_of ho hd (fits_of T (by rw [List.length_map, sl]) (by omega)); dsimp only
  refine wp_if_neg (by rw [sz, sizeLine_eq]; omega) ?_
  rw [e1]
  apply wpAny_bind; dsimp only
  refine wp_if_neg (by rw [s2, l2, sl]; simp) (wpAny_pure ?_)
  apply wpAny_storeSet_of ho hd _ (line_of (by dsimp only; omega))
  have sb : Heap.SameBut a s.heap (s.heap.update a (Obj.putSet (ord.filterMap (es[·]?)) t')) := Heap.SameBut.update ..
  refine q _ L2 _ (ep + 1) t' sb ⟨⟨_, store_at ho hd, ex, rfl⟩, r1, e3, (r2.map _).nodup_iff.mpr keys, fun p hp => isT_same (each p (r2.mem_iff.mp hp)) ho hd sb, e6.trans pl, ?_, ?_, ?_⟩ r2
  · rw [e5]; exact ld
  · rw [e4, l2]; exact room
  · rw [e4]; exact lo
/-- one tuple more -/
theorem add_one (R : Tst P w s.heap a L es ep t) {x : Addr} {k : List Int} (hx : IsT P w s.heap k x) (hu : A.units < cLine) (few : L.length < 2047) {Q : Bool → Shared → Prop}
    (q : ∀ b h' L' es' ep' t', Heap.SameBut a s.heap h' → Tst P w h' a L' es' ep' t' → ((k ∈ L.map (·.2) ∧ L' = L) ∨ (k ∉ L.map (·.2) ∧ L'.Perm ((x, k) :: L))) → Q b { s with heap := h' }) :
    wpAny (model P w) A (setAddHashed a (.ref x) (thash P w k)) Q E s := by
  obtain ⟨o, ho, ex, hd⟩ := R.obj
  have sl := rows_len R.row
  have room := R.room
  have low := R.low
  unfold setAddHashed
  apply wpAny_holding
  rw [show (100000 : Nat) = 99999 + 1 from rfl, setAddHashedIn_succ]
  apply wpAny_bind; apply wpAny_open R; dsimp only
  refine wp_if_neg (by simp [byScan, Value.scannable]) (wpAny_bind (search_all R hx hu (fun hm => ?_) fun K hm hK hb => ?_))
  · exact wpAny_pure (q false s.heap L es ep t (Heap.SameBut.refl a s.heap) R (.inl ⟨hm, rfl⟩))
  dsimp only
  apply wpAny_bind; apply wpAny_open R; dsimp only
  obtain ⟨p1, p2, p3⟩ := R.tb.put hK hb
  have p4 : (t.put (way t.mask (thash P w k) K)).1.mask = t.mask := rfl
  have p5 : (t.put (way t.mask (thash P w k) K)).1.led = t.led := rfl
  have p6 : (t.put (way t.mask (thash P w k) K)).1.plain = true := R.pl
  have p7 : (t.put (way t.mask (thash P w k) K)).2 = SetTable.below t.place (way t.mask (thash P w k) K) := rfl
  generalize t.put (way t.mask (thash P w k) K) = pt at p2 p3 p4 p5 p6 p7 ⊢
  obtain ⟨t1, p⟩ := pt
  dsimp only at p2 p3 p4 p5 p6 p7 ⊢
  rw [← p7] at p1 p2
  simp only [p6, if_true]
  apply wpAny_bind; apply hashBy_tup hx
  have hin : (SetTable.insertAt es p (thash P w k, Value.ref x)).toList = rowsOf P w (L.take p ++ (x, k) :: L.drop p) := by rw [SetTable.toList_insertAt, rows_put, R.row]
  have pm := put_perm L p (x, k)
  rw [List.length_map] at p3
  rw [← List.map_take, ← List.map_drop] at p2
  replace p2 : Tb t1 ((L.take p ++ (x, k) :: L.drop p).map fun p => thash P w p.2) := by rw [List.map_append, List.map_cons]; exact p2
  have nd : ((L.take p ++ (x, k) :: L.drop p).map (·.2)).Nodup := (pm.map _).nodup_iff.mpr (List.nodup_cons.mpr ⟨hm, R.keys⟩)
  have len := pm.length_eq
  rw [List.length_cons] at len
  generalize L.take p ++ (x, k) :: L.drop p = L1 at *
  have sz := rows_len hin
  generalize SetTable.insertAt es p (thash P w k, Value.ref x) = es1 at *
  simp only [if_true]
  apply wpAny_bind; apply wpAny_storeSet_of ho hd _ (line_of (by omega))
  have sb : Heap.SameBut a s.heap (s.heap.update a (Obj.putSet es1 t1)) := Heap.SameBut.update ..
  have h1 := store_at (es' := es1) (t' := t1) ho hd
  generalize s.heap.update a (Obj.putSet es1 t1) = g1 at *
  have each1 : ∀ p ∈ L1, IsT P w g1 p.2 p.1 := fun p hp => by
    rcases List.mem_cons.mp (pm.mem_iff.mp hp) with rfl | hp
    · exact isT_same hx ho hd sb
    · exact isT_same (R.each p hp) ho hd sb
  have ld1 : w.params.followText "set-order" = true ∨ t1.led = true := by rw [p5]; exact R.led
  have full : t1.tooFull = decide ((L.length + 1) * 5 ≥ t.mask * 3) := by unfold SetTable.tooFull; rw [p3, p4]
  by_cases c : (L.length + 1) * 5 ≥ t.mask * 3
  · refine wp_if_pos (by rw [full]; simp [c]) (wpAny_bind ?_)
    rw [sl, ← len]
    have m7 : 7 ≤ t.mask := by
      obtain ⟨n, n3, e⟩ := R.tb.ms
      have : 2 ^ 3 ≤ 2 ^ n := Nat.pow_le_pow_right (by decide) n3
      omega
    exact relay_all (s := { s with heap := g1 }) h1 ex rfl hin p2 (by rw [p4]; omega) nd each1 p6 ld1 (by omega) fun h' L' es' ep' t' sb' R' pm' => wpAny_pure (q true h' L' es' ep' t' (sb.trans sb') R' (.inr ⟨hm, pm'.trans pm⟩))
  · refine wp_if_neg (by rw [full]; simp; omega) (wpAny_pure (q true g1 L1 es1 (ep + 1) t1 sb ⟨⟨_, h1, ex, rfl⟩, hin, p2, nd, each1, p6, ld1, by rw [p4]; omega, by rw [p4]; exact low⟩ (.inr ⟨hm, pm⟩)))
theorem Tst.stays {h h' : Heap} (R : Tst P w h a L es ep t) (ha : ∀ o, h.get? a = some o → h'.get? a = some o) (ht : ∀ p ∈ L, IsT P w h' p.2 p.1) : Tst P w h' a L es ep t := by
  obtain ⟨o, ho, r⟩ := R.obj
  exact ⟨⟨o, ha o ho, r⟩, R.row, R.tb, R.keys, ht, R.pl, R.led, R.room, R.low⟩
abbrev noSet (w : World) : Obj := { cls := .type "set", dict := none, data := .set #[] 0 (.fresh 0 0 (!w.params.followText "set-order")) }
theorem Tst.new {h : Heap} (ho : h.get? a = some (noSet w)) : Tst P w h a [] #[] 0 (.fresh 0 0 (!w.params.followText "set-order")) := by
  refine ⟨⟨_, ho, ⟨rfl, rfl, rfl⟩, rfl⟩, rfl, ⟨.nil, rfl, rfl, .seven, by simp [SetTable.fresh], by simp [SetTable.fresh]⟩, List.nodup_nil, by simp, rfl, ?_, by show 0 * 5 < 7 * 3; decide, by show 7 ≤ 8191; decide⟩
  show _ ∨ (!w.params.followText "set-order") = true
  cases w.params.followText "set-order" <;> simp
/-- the rows got out of those told so far -/
def Gt (ks L : List (Addr × List Int)) : Prop := L.length ≤ ks.length ∧ (∀ p ∈ L, p ∈ ks) ∧ ∀ p ∈ ks, p.2 ∈ L.map (·.2)
theorem Gt.next {ks L L' : List (Addr × List Int)} {p : Addr × List Int} (g : Gt ks L) (h : (p.2 ∈ L.map (·.2) ∧ L' = L) ∨ (p.2 ∉ L.map (·.2) ∧ L'.Perm (p :: L))) : Gt (ks ++ [p]) L' := by
  obtain ⟨g1, g2, g3⟩ := g
  rcases h with ⟨h1, rfl⟩ | ⟨_, h2⟩
  · exact ⟨by simp; omega, fun q hq => by simp [g2 q hq], fun q hq => by
      rcases List.mem_append.mp hq with hq | hq
      · exact g3 q hq
      · rw [List.mem_singleton.mp hq]; exact h1⟩
  · have hm : ∀ k, k ∈ L'.map (·.2) ↔ k ∈ (p :: L).map (·.2) := fun k => (h2.map _).mem_iff
    refine ⟨by rw [h2.length_eq]; simp; omega, fun q hq => ?_, fun q hq => (hm _).mpr ?_⟩
    · rcases List.mem_cons.mp (h2.mem_iff.mp hq) with rfl | hq
      · simp
      · simp [g2 q hq]
    · rcases List.mem_append.mp hq with hq | hq
      · exact List.mem_cons_of_mem _ (g3 q hq)
      · rw [List.mem_singleton.mp hq]; exact List.mem_cons_self
end
end Ts

namespace Ts
open PySem PySem.Spec L2 PyProof.Rows
section
variable {P : Program} {w : World} {A : Around} {E : Value → Shared → Prop} {s : Shared}
/-- the loop of set.update, over what an iterator gives -/
theorem update_loop {I : Addr} {fp wr : List Addr} {G : Array GenState → Array GenState → Prop} {Pv : Nat → Value → Prop} {St : Nat → Shared → Prop} {R : Result → Shared → Prop} {ks : List (Addr × List Int)}
    (W : WalksS P w A.in1 I fp wr G ks.length Pv St) (S : Addr) (hS : S ∉ fp) (few : ks.length ≤ 2000) (val : ∀ i v, Pv i v → ∃ p, ks[i]? = some p ∧ v = .ref p.1)
    (h0 : Heap) (hk : ∀ p ∈ ks, IsT P w h0 p.2 p.1) (hS0 : h0.get? S = none) (hw : ∀ b ∈ wr, h0.get? b = none) (hu : A.in1.units < cLine) (left : Nat) :
    ∀ (i : Nat) (s : Shared) L es ep t, i + left = ks.length → St i s → (∀ b o, h0.get? b = some o → s.heap.get? b = some o) → Tst P w s.heap S L es ep t → Gt (ks.take i) L →
      (∀ s' L es ep t, Moved (S :: wr) G s s' → Tst P w s'.heap S L es ep t → Gt ks L → (∀ b o, h0.get? b = some o → s'.heap.get? b = some o) → R (.ok (.ret .none)) s') →
      codeAny (model P w) A (.builtin "set.update.loop" ⟨[.ref S, .ref I], []⟩) R s := by
  have notw : S ∉ wr := fun h => hS (W.sub _ h)
  have more : ∀ b ∈ wr, b ∈ S :: wr := fun b => List.mem_cons_of_mem _
  have old : ∀ {s s' : Shared}, Moved wr G s s' → (∀ b o, h0.get? b = some o → s.heap.get? b = some o) → ∀ b o, h0.get? b = some o → s'.heap.get? b = some o := fun m k b o e => m.heap b o (fun z => by rw [hw b z] at e; cases e) (k b o e)
  have carry : ∀ {s s' : Shared} {i : Nat} {L : List (Addr × List Int)} {es ep t}, Moved wr G s s' → Tst P w s.heap S L es ep t → Gt (ks.take i) L → (∀ b o, h0.get? b = some o → s'.heap.get? b = some o) → Tst P w s'.heap S L es ep t := fun m r g k =>
    r.stays (fun o e => m.heap S o notw e) fun p hp => isT_keep (hk p (List.mem_of_mem_take (g.2.1 p hp))) k
  induction left with
  | zero =>
    intro i s L es ep t hi st keep r g fin
    obtain rfl : i = ks.length := by omega
    refine codeAny_builtin F.entry_set_update_loop ?_
    rw [Around.under_plainId F.plain_set_update_loop _]
    show wpAny _ A.in1 (pyNext (.ref I) >>= _) _ _ s
    refine wpAny_bind (W.done s _ _ st fun s' m => wpAny_pure (fin s' L es ep t (m.mono more) (carry m r g (old m keep)) ?_ (old m keep)))
    rw [List.take_length] at g
    exact g
  | succ left ih =>
    intro i s L es ep t hi st keep r g fin
    refine codeAny_builtin F.entry_set_update_loop ?_
    rw [Around.under_plainId F.plain_set_update_loop _]
    show wpAny _ A.in1 (pyNext (.ref I) >>= _) _ _ s
    refine wpAny_bind (W.item i s _ _ (by omega) st fun v s1 pv st1 m => ?_)
    obtain ⟨p, hp, rfl⟩ := val i v pv
    have keep1 := old m keep
    have r1 := carry m r g keep1
    have x1 := isT_keep (hk p (List.mem_of_getElem? hp)) keep1
    have lg := g.1
    rw [List.length_take] at lg
    show wpAny _ A.in1 (holding [Value.ref p.1] (setAdd S (.ref p.1)) >>= _) _ _ s1
    unfold setAdd
    apply wpAny_bind; apply wpAny_holding; apply wpAny_holding; apply wpAny_bind; apply wpAny_pyHash_tuple hu x1
    refine add_one (s := { s1 with toks := s1.toks + (p.2.length + 1) }) r1 x1 hu (by omega) fun b h' L' es' ep' t' sb r2 ways => ?_
    have g2 : Gt (ks.take (i + 1)) L' := by
      have := g.next ways
      rwa [List.take_succ, hp]
    have keep2 : ∀ b o, h0.get? b = some o → h'.get? b = some o := fun b o e => (sb.2 b fun z => by rw [z, hS0] at e; cases e).trans (keep1 b o e)
    refine wpAny_pure ⟨plainId_quiet F.plain_set_update_loop _, ih (i + 1) _ L' es' ep' t' (by omega) (W.frame _ s1 _ _ st1 (Nat.le_add_right _ _) fun b hb o e => ?_) keep2 r2 g2 fun s3 L3 es3 ep3 t3 m3 r3 g3 k3 => ?_⟩
    · rw [sb.2 b fun z => hS (z ▸ hb)]; exact e
    · refine fin s3 L3 es3 ep3 t3 (.trans W.gtrans ((m.mono more).then_heap (Nat.le_add_right _ _) fun b o hb e => ?_) m3) r3 g3 k3
      rw [sb.2 b fun z => hb (z ▸ List.mem_cons_self)]; exact e
set_option maxRecDepth 100000 in
set_option maxHeartbeats 3200000 in
/-- a set made of a list -/
theorem set_of_list {l : Addr} {items : Array Value} (ks : List (Addr × List Int)) {Q : Value → Shared → Prop} (hh : A.handled = none) (hl : s.heap.IsList l items) (hit : items.toList = ks.map fun p => Value.ref p.1)
    (hk : ∀ p ∈ ks, IsT P w s.heap p.2 p.1) (few : ks.length ≤ 2000) (hu : A.units + 3 < cLine)
    (h : ∀ (h' : Heap) (tk : Nat) L es ep t, Tst P w h' s.heap.objs.size L es ep t → Gt ks L → (∀ b o, s.heap.get? b = some o → h'.get? b = some o) → Q (.ref s.heap.objs.size) { s with heap := h', toks := tk }) :
    wpAny (model P w) A (call (.type "set") [.ref l]) Q E s := by
  have hisz : items.size = ks.length := by rw [← Array.length_toList, hit, List.length_map]
  obtain ⟨c, tl, hmro⟩ := F.called_set.mro
  have hmade := F.called_set.made
  have hsub := F.called_set.sub
  refine wpAny_call (codeAny_of_tree ?_)
  show wpAny _ _ (callAny (.type "set") _) _ _ _
  refine wpAny_pure ⟨Code.quiet_builtin _ (by decide +kernel), codeAny_builtin F.entry_type_call ?_⟩
  rw [Around.under_plain (weight_type_call_type "set" [.ref l] []) rfl]
  have h1 := F.called_set.notType
  have h2 := F.called_set.canCreate
  have hct := F.typeCall_set_1 (.ref l)
  repeat (any_goals (first | assumption | wp_step))
  refine codeAny_mono (code_set_led1 (.ref l) (E := E) (Q₁ := fun obj s₁ => obj = .ref s.heap.objs.size ∧ s₁ = { s with heap := s.heap.push (noSet w) }) ⟨rfl, rfl⟩) fun r s₁ hr => ?_
  cases r with
  | error e => exact hr
  | ok fl =>
    cases fl with
    | ret obj =>
      obtain ⟨rfl, rfl⟩ := hr
      have hS : (s.heap.push (noSet w)).get? s.heap.objs.size = some (noSet w) := Heap.get?_push_size _ rfl
      have hT : Shared.TypeIs { s with heap := s.heap.push (noSet w) } (.ref s.heap.objs.size) "set" := ⟨_, hS, rfl⟩
      have hli := F.called_set.init.lookup
      have hbi := F.called_set.init.bind (.ref s.heap.objs.size)
      repeat (any_goals (first | assumption | wp_step))
      refine codeAny_mono (codeAny_call_builtin (R := wants (fun r s₂ => r = .none ∧ ∃ h' tk L es ep t, s₂ = { s with heap := h', toks := tk } ∧ Tst P w h' s.heap.objs.size L es ep t ∧ Gt ks L ∧ (∀ b o, s.heap.get? b = some o → h'.get? b = some o)) E) F.called_set.init.plain F.entry_set_init (check_set_init_1 hT ?_)) fun r₂ s₂ hr₂ => ?_
      · obtain ⟨ol, hol, hcl, nl, hdl⟩ := hl
        obtain ⟨ocls, odict, odata, oslots⟩ := ol
        simp only at hcl hdl
        subst hcl; subst hdl
        have hol' : (s.heap.push (noSet w)).get? l = some { cls := .type "list", dict := odict, data := .seq items nl, slots := oslots } := Heap.get?_push_of_some _ hol
        have hsls := F.sub_list_set
        have hslf := F.sub_list_frozenset
        have hne : (Value.type "list" == Value.type "dict") = false := by decide
        have hl1 : (s.heap.push (noSet w)).IsList l items := ⟨_, hol', rfl, nl, rfl⟩
        unfold Builtin.«set.__init__» noKeywords Builtin.Frozenset.updateFrom
        generalize hPI : pyIter = PI
        wp_walk
        subst hPI
        refine wpAny_pyIter_list hl1 ?_
        refine wpAny_bind (wpAny_runValue ?_)
        have hlS : l < s.heap.objs.size := Heap.lt_size hol
        have hh3 : A.in1.in1.in1.handled = none := by simp [hh]
        have far : ∀ b, s.heap.objs.size ≤ b → s.heap.get? b = none := fun b hb => by
          cases q : s.heap.get? b with
          | none => rfl
          | some o => exact absurd (Heap.lt_size q) (Nat.not_lt.mpr hb)
        have hneI : l ≠ (s.heap.push (noSet w)).objs.size := by
          rw [Heap.size_push]; exact Nat.ne_of_lt (Nat.lt_succ_of_lt hlS)
        have hSf : s.heap.objs.size ∉ [(s.heap.push (noSet w)).objs.size, l] := by
          rw [Heap.size_push]; simp only [List.mem_cons, List.mem_singleton, List.not_mem_nil, or_false, not_or]
          exact ⟨Nat.ne_of_lt (Nat.lt_succ_self _), Nat.ne_of_gt hlS⟩
        have hval : ∀ (i : Nat) (v : Value), items[i]? = some v → ∃ p, ks[i]? = some p ∧ v = .ref p.1 := fun i v hv => by
          rw [← Array.getElem?_toList, hit, List.getElem?_map, Option.map_eq_some_iff] at hv
          obtain ⟨p, a1, a2⟩ := hv
          exact ⟨p, a1, a2.symm⟩
        have WW := (Walks.list (prog := P) (w := w) hh3 _ l hneI items).toS
        rw [hisz] at WW
        refine update_loop WW s.heap.objs.size hSf few hval s.heap hk (far _ (Nat.le_refl _)) (fun b hb => far b (by rw [List.mem_singleton.mp hb, Heap.size_push]; exact Nat.le_succ _)) hu ks.length 0 _ [] #[] 0 _ (by omega)
          ⟨⟨_, Heap.get?_push_size _ rfl, rfl, rfl⟩, (hl1.push _)⟩ (fun b o e => Heap.get?_push_of_some _ (Heap.get?_push_of_some _ e)) (Tst.new (Heap.get?_push_of_some _ hS)) ⟨Nat.zero_le _, by simp, by simp⟩ ?_
        intro s' L es ep t hm r g k
        obtain ⟨h', g2, d', tk', os'⟩ := s'
        have eg : g2 = s.gens := hm.gens
        have ed : d' = s.drawn := hm.drawn
        have eo : os' = s.os := hm.os
        subst eg; subst ed; subst eo
        exact wpAny_pure (wpAny_pure ⟨rfl, h', tk', L, es, ep, t, rfl, r, g, k⟩)
      · cases r₂ with
        | error e => exact hr₂
        | ok fl₂ =>
          cases fl₂ with
          | ret r =>
            obtain ⟨rfl, h', tk, L, es, ep, t, rfl, r, g, k⟩ := hr₂
            repeat (any_goals (first | assumption | wp_step))
            exact h _ _ _ _ _ _ r g k
          | _ => exact hr₂.elim
    | _ => exact hr.elim
end
end Ts

namespace Ts
open PySem PySem.Spec L2 PyProof.Rows
/-- what stands at a, the tuples themselves left out -/
structure Tq (P : Program) (w : World) (h : Heap) (a : Addr) (L : List (Addr × List Int)) : Prop where
  ex : ∃ es ep t, (∃ o, h.get? a = some o ∧ o.ExactSet ∧ o.data = .set es ep t) ∧ es.toList = rowsOf P w L ∧ Tb t (L.map fun p => thash P w p.2) ∧ (L.map (·.2)).Nodup ∧ t.plain = true ∧ (w.params.followText "set-order" = true ∨ t.led = true) ∧ L.length * 5 < t.mask * 3 ∧ t.mask ≤ 8191
def TqO (P : Program) (w : World) (a : Addr) (L : List (Addr × List Int)) : HO := .ext fun h => Tq P w h a L
theorem tq_new {P : Program} {w : World} {H : Hp} {h : Heap} {a : Addr} {L : List (Addr × List Int)} {es : Array (Int × Value)} {ep : Nat} {t : SetTable} (R : Tst P w h a L es ep t) : ObjOk P w H h a (TqO P w a L) := by
  have q : Tq P w h a L := ⟨es, ep, t, R.obj, R.row, R.tb, R.keys, R.pl, R.led, R.room, R.low⟩
  obtain ⟨o, ho, _⟩ := R.obj
  refine ⟨q, ⟨o, ho⟩, fun h1 h2 p k => ?_⟩
  obtain ⟨es', ep', t', ⟨o', e1, e2⟩, rest⟩ := p
  exact ⟨es', ep', t', ⟨o', k o' e1, e2⟩, rest⟩
theorem Tq.full {P : Program} {w : World} {h : Heap} {a : Addr} {L : List (Addr × List Int)} (q : Tq P w h a L) (ht : ∀ p ∈ L, IsT P w h p.2 p.1) : ∃ es ep t, Tst P w h a L es ep t := by
  obtain ⟨es, ep, t, a1, a2, a3, a4, a5, a6, a7, a8⟩ := q.ex
  exact ⟨es, ep, t, a1, a2, a3, a4, ht, a5, a6, a7, a8⟩
abbrev rowK (p : Addr × List Int) : Gv.KK := Sum.inr (p.2.map Sum.inl)
theorem leafs_ints (ns : List Int) : (ns.map (Sum.inl : Int → L2.Key)).map Gv.leafD = ns.map PyData.int := by rw [List.map_map]; rfl
theorem rowK_d (p : Addr × List Int) : (rowK p).d = .tuple (p.2.map .int) := by
  show PyData.tuple ((p.2.map (Sum.inl : Int → L2.Key)).map Gv.leafD) = _
  rw [leafs_ints]
section
variable {X : Cx}
def rSet (K : PySem.W.Frag) (P : Program) (w : World) : List V → Hp → VK → Prop := fun xs H Q => ∃ (l : Addr) (ks : List (Addr × List Int)), xs = [V.ref l] ∧ SqL K H l (ks.map fun p => V.ref p.1) ∧ (∀ p ∈ ks, SqT K H p.1 (p.2.map V.int)) ∧ ks.length ≤ 2000 ∧
  ∀ a L, H a = none → Gt ks L → (L.map (·.2)).Nodup → Q (.ref a) (upd H a (TqO P w a L))
theorem cr_set (hc : X.calm = true) (hu : X.A.units + 64 < cLine) : CallR X (.type "set") (rSet X.K X.prog X.w) := by
  intro pins s σ H xs us Q I r h
  obtain ⟨l, ks, rfl, hl, hk, few, q⟩ := h
  rw [Vals.ref1 r]
  obtain ⟨its, rv, pl, _⟩ := I.list hl
  exact set_of_list (P := X.prog) (w := X.w) ks (I.ok.hd hc) pl.isList (by simpa using refs_of_vals rv) (fun p hp => I.isT (hk p hp)) few (by omega) fun h' tk L es ep t R g k =>
    ⟨.ref s.heap.objs.size, _, I.laid (t' := tk) k (Nat.le_refl _) (tq_new R), rfl, q _ L (I.hok.fresh (Nat.le_refl _)) g R.keys⟩
theorem perm_back {α β : Type} (f : α → β) {vs us : List β} (h : vs.Perm us) : ∀ L : List α, us = L.map f → ∃ L' : List α, vs = L'.map f ∧ L'.Perm L := by
  induction h with
  | nil => intro L e; exact ⟨[], rfl, by cases L with | nil => exact .nil | cons => simp at e⟩
  | cons x _ ih =>
    intro L e
    cases L with
    | nil => simp at e
    | cons y L =>
      simp only [List.map_cons, List.cons.injEq] at e
      obtain ⟨L', e1, p⟩ := ih L e.2
      exact ⟨y :: L', by rw [e1, e.1]; rfl, p.cons y⟩
  | swap x y l =>
    intro L e
    match L, e with
    | a :: b :: L, e =>
      simp only [List.map_cons, List.cons.injEq] at e
      exact ⟨b :: a :: L, by rw [e.1, e.2.1, e.2.2]; rfl, .swap a b L⟩
  | trans _ _ ih1 ih2 =>
    intro L e
    obtain ⟨L1, e1, p1⟩ := ih2 L e
    obtain ⟨L2, e2, p2⟩ := ih1 L1 e1
    exact ⟨L2, e2, p2.trans p1⟩
abbrev rowT (p : Addr × List Int) : PyData := .tuple (p.2.map .int)
def rSorted (K : PySem.W.Frag) (P : Program) (w : World) : List V → Hp → VK → Prop := fun vs H Q => ∃ (a : Addr) (L : List (Addr × List Int)), vs = [V.ref a] ∧ H a = some (TqO P w a L) ∧ (∀ p ∈ L, SqT K H p.1 (p.2.map V.int)) ∧ L.length ≤ 2000 ∧ Gv.sortOk (L.map rowT) = true ∧
  ∀ p (L' : List (Addr × List Int)), L'.Perm L → H p = none → Q (.ref p) (upd H p (.lst ((Gv.sortZ (L'.map fun p => V.ref p.1) (L'.map rowT)).map Prod.fst)))
theorem alike_sub {ds es : List PyData} (h : ∀ d ∈ es, d ∈ ds) (o : Gv.sortOk ds = true) : Gv.sortOk es = true := by
  unfold Gv.sortOk Gv.alikeL at *
  simp only [Bool.and_eq_true, Bool.or_eq_true, List.all_eq_true] at *
  exact ⟨fun x hx y hy => o.1 x (h x hx) y (h y hy), o.2.imp (fun z x hx => z x (h x hx)) (fun z x hx => z x (h x hx))⟩
theorem dp_ints {K : PySem.W.Frag} {H : Hp} : ∀ ns : List Int, DpAll K H (ns.map V.int) (ns.map PyData.int)
  | [] => .nil
  | n :: ns => .cons (.int n) (dp_ints ns)
theorem dp_rows {K : PySem.W.Frag} {H : Hp} : ∀ {L : List (Addr × List Int)}, (∀ p ∈ L, SqT K H p.1 (p.2.map V.int)) → DpAll K H (L.map fun p => V.ref p.1) (L.map rowT)
  | [], _ => .nil
  | p :: L, h => .cons (.tup (h p (by simp)) (dp_ints _)) (dp_rows fun q hq => h q (by simp [hq]))
theorem cr_sorted (hc : X.calm = true) (hu : X.A.units + 65 < cLine) : CallR X (.builtin "sorted") (rSorted X.K X.prog X.w) := by
  intro pins s σ H vs us Q I r h
  obtain ⟨a, L, rfl, ha, hk, few, so, q⟩ := h
  rw [Vals.ref1 r]
  obtain ⟨es, ep, t, R⟩ := ((I.hok a _ ha).1 : Tq X.prog X.w s.heap a L).full fun p hp => I.isT (hk p hp)
  have sz := rows_len R.row
  obtain ⟨o, ho, ex, hd⟩ := R.obj
  refine Calls.call_function_entry kind_sorted plain_sorted entry_sorted (args_sorted1 _) ?_
  unfold Builtin.«sorted»
  refine wpAny_bind (m := checkCount "sorted" 1 1 _) (wpAny_pure ?_)
  refine wpAny_bind (collect_set (A := X.A.in1) (I.ok.hd hc) ⟨o, ho, ex.1, hd⟩ R.fit (by unfold scanBound; omega) R.tb.up R.led fun s1 vs k1 hz g1 o1 pm => ?_)
  have em : es.toList.map (·.2) = L.map fun q => Value.ref q.1 := by rw [R.row]; unfold rowsOf; rw [List.map_map]; rfl
  rw [em] at pm
  obtain ⟨L', rfl, pL⟩ := perm_back _ pm L rfl
  have I1 : Inv X pins σ H { s with heap := s1.heap, gens := s1.gens, drawn := s1.drawn, toks := s1.toks } := I.call (ch := []) (Un.kept k1) (I.hok.kept k1) (by rw [g1]; exact I.bare) (fun _ z => nomatch z)
  have es1 : s1 = { s with heap := s1.heap, gens := s1.gens, drawn := s1.drawn, toks := s1.toks } := by
    cases s1; cases s; cases o1; rfl
  rw [← es1] at I1
  have ll := pL.length_eq
  have hk1 : ∀ p ∈ L', SqT X.K H p.1 (p.2.map V.int) := fun p hp => hk p (pL.mem_iff.mp hp)
  have ek : (L'.map rowK).map Gv.KK.d = L'.map rowT := by rw [List.map_map]; exact List.map_congr_left fun p _ => rowK_d p
  refine wpAny_bind (wpAny_newList ?_ (by rw [List.length_map, sizeLine_eq]; omega))
  refine wpAny_bind (wpAny_holding (wpAny_mono (Gv.sort_keys (s := s1) (Q := Q) (xs := L'.map fun p => V.ref p.1) (ks := L'.map rowK) hu I1 (vals_of_refs L') (by rw [ek]; exact dp_rows hk1) (by simp)
    (by rw [ek]; exact alike_sub (fun d hd => by obtain ⟨p, hp, rfl⟩ := List.mem_map.mp hd; exact List.mem_map.mpr ⟨p, pL.mem_iff.mp hp, rfl⟩) so) (fun d hd => ?_) (by rw [List.length_map, sizeLine_eq]; omega) fun p hp => by rw [ek]; exact q p L' pL hp) (fun _ s' h => ?_) fun _ _ e => e))
  · obtain ⟨k, _, rfl⟩ := List.mem_map.mp hd
    exact Gv.key_depth k
  · exact wpAny_pure ⟨_, rfl, h⟩
end
end Ts

/-! sets of whole numbers, of a list, told by their length only -/
namespace L2
open PySem PySem.Spec PyProof.Rows
section
variable {P : Program} {w : World} {A : Around} {E : Value → Shared → Prop} {s : Shared}
abbrev emptySet (w : World) : Obj := { cls := .type "set", dict := none, data := .set #[] 0 (.fresh 0 0 (!w.params.followText "set-order")) }
set_option maxHeartbeats 3200000 in
theorem gn_set_list {l : Addr} {items : Array Value} (ns : List Int) {Q : Value → Shared → Prop} (hh : A.handled = none) (hl : s.heap.IsList l items) (hit : IntsAre items.toList ns) (hb : ns.length + 1 < scanBound)
    (h : ∀ (h' : Heap) (tk c : Nat), SetR w h' s.heap.objs.size (fun j => decide (j ∈ ns)) c → c ≤ ns.length → (∀ b o, s.heap.get? b = some o → h'.get? b = some o) → Q (.ref s.heap.objs.size) { s with heap := h', toks := tk }) :
    wpAny (model P w) A (call (.type "set") [.ref l]) Q E s := by
  have hisz : items.size = ns.length := by
    have q := IntsAre.length hit
    rwa [Array.length_toList] at q
  obtain ⟨c, tl, hmro⟩ := F.called_set.mro
  have hmade := F.called_set.made
  have hsub := F.called_set.sub
  refine wpAny_call (codeAny_of_tree ?_)
  show wpAny _ _ (callAny (.type "set") _) _ _ _
  refine wpAny_pure ⟨Code.quiet_builtin _ (by decide +kernel), codeAny_builtin F.entry_type_call ?_⟩
  rw [Around.under_plain (weight_type_call_type "set" [.ref l] []) rfl]
  have h1 := F.called_set.notType
  have h2 := F.called_set.canCreate
  have hct := F.typeCall_set_1 (.ref l)
  repeat (any_goals (first | assumption | wp_step))
  refine codeAny_mono (code_set_led1 (.ref l) (E := E) (Q₁ := fun obj s₁ => obj = .ref s.heap.objs.size ∧ s₁ = { s with heap := s.heap.push (emptySet w) }) ⟨rfl, rfl⟩) fun r s₁ hr => ?_
  cases r with
  | error e => exact hr
  | ok fl =>
    cases fl with
    | ret obj =>
      obtain ⟨rfl, rfl⟩ := hr
      have hS : (s.heap.push (emptySet w)).get? s.heap.objs.size = some (emptySet w) := Heap.get?_push_size _ rfl
      have hT : Shared.TypeIs { s with heap := s.heap.push (emptySet w) } (.ref s.heap.objs.size) "set" := ⟨_, hS, rfl⟩
      have hli := F.called_set.init.lookup
      have hbi := F.called_set.init.bind (.ref s.heap.objs.size)
      repeat (any_goals (first | assumption | wp_step))
      refine codeAny_mono (codeAny_call_builtin (R := wants (fun r s₂ => r = .none ∧ ∃ h' tk c, s₂ = { s with heap := h', toks := tk } ∧ SetR w h' s.heap.objs.size (fun j => decide (j ∈ ns)) c ∧ c ≤ ns.length ∧
          (∀ b o, s.heap.get? b = some o → h'.get? b = some o)) E) F.called_set.init.plain F.entry_set_init (check_set_init_1 hT ?_)) fun r₂ s₂ hr₂ => ?_
      · obtain ⟨ol, hol, hcl, nl, hdl⟩ := hl
        obtain ⟨ocls, odict, odata, oslots⟩ := ol
        simp only at hcl hdl
        subst hcl; subst hdl
        have hol' : (s.heap.push (emptySet w)).get? l = some { cls := .type "list", dict := odict, data := .seq items nl, slots := oslots } := Heap.get?_push_of_some _ hol
        have hsls := F.sub_list_set
        have hslf := F.sub_list_frozenset
        have hne : (Value.type "list" == Value.type "dict") = false := by decide
        have hl1 : (s.heap.push (emptySet w)).IsList l items := ⟨_, hol', rfl, nl, rfl⟩
        unfold Builtin.«set.__init__» noKeywords Builtin.Frozenset.updateFrom
        generalize hPI : pyIter = PI
        wp_walk
        subst hPI
        refine wpAny_pyIter_list hl1 ?_
        refine wpAny_bind (wpAny_runValue ?_)
        have hlS : l < s.heap.objs.size := Heap.lt_size hol
        have hh3 : A.in1.in1.in1.handled = none := by simp [hh]
        have hneI : l ≠ (s.heap.push (emptySet w)).objs.size := by
          rw [Heap.size_push]; exact Nat.ne_of_lt (Nat.lt_succ_of_lt hlS)
        have hSf : s.heap.objs.size ∉ [(s.heap.push (emptySet w)).objs.size, l] := by
          rw [Heap.size_push]; simp only [List.mem_cons, List.mem_singleton, List.not_mem_nil, or_false, not_or]
          exact ⟨Nat.ne_of_lt (Nat.lt_succ_self _), Nat.ne_of_gt hlS⟩
        have hval : ∀ (i : Nat) (v : Value), items[i]? = some v → ∃ k t, ns[i]? = some k ∧ v = .int k t := fun i v hv => by
          have hi : i < ns.length := by rw [← hisz]; exact (Array.getElem?_eq_some_iff.mp hv).1
          obtain ⟨t, e⟩ := IntsAre.int_at hit i v (by rw [Array.getElem?_toList]; exact hv)
          refine ⟨ns[i], t, List.getElem?_eq_getElem hi, ?_⟩
          rw [e, List.getD_eq_getElem?_getD, List.getElem?_eq_getElem hi] <;> rfl
        refine set_update_ints ((Walks.list hh3 _ l hneI items).toS) s.heap.objs.size
          hSf ns hisz hb hval (items.size - 0) 0 _ (by omega) (Nat.zero_le _)
          ⟨⟨_, Heap.get?_push_size _ rfl, rfl, rfl⟩, (hl1.push _)⟩ ?hS0 ?hR
        case hS0 => exact ⟨0, Nat.le_refl 0, setR_new_at (Heap.get?_push_of_some _ hS)⟩
        case hR =>
          intro s' c' hm hc' hS'
          obtain ⟨h', g2, d', tk', os'⟩ := s'
          have eg : g2 = s.gens := hm.gens
          have ed : d' = s.drawn := hm.drawn
          have eo : os' = s.os := hm.os
          subst eg; subst ed; subst eo
          show wpAny _ _ _ _ _ _
          refine wpAny_pure ?_
          show wpAny _ _ (ret Value.none) _ _ _
          rw [hisz] at hc'
          refine wpAny_pure ⟨rfl, h', tk', c', rfl, hS', hc', fun b o e => ?_⟩
          have hb0 : b < s.heap.objs.size := Heap.lt_size e
          have hb2 : b ≠ (s.heap.push (emptySet w)).objs.size := by
            rw [Heap.size_push]; exact Nat.ne_of_lt (Nat.lt_succ_of_lt hb0)
          exact hm.heap b o (by simp only [List.mem_cons, List.mem_singleton, List.not_mem_nil, or_false, not_or]; exact ⟨Nat.ne_of_lt hb0, hb2⟩) (Heap.get?_push_of_some _ (Heap.get?_push_of_some _ e))
      · cases r₂ with
        | error e => exact hr₂
        | ok fl₂ =>
          cases fl₂ with
          | ret r =>
            obtain ⟨rfl, h', tk, c', rfl, hS', hc', hk'⟩ := hr₂
            repeat (any_goals (first | assumption | wp_step))
            exact h _ _ _ hS' hc' hk'
          | _ => exact hr₂.elim
    | _ => exact hr.elim
end
end L2
namespace L2
open PySem PySem.Spec PyProof.Rows
theorem dups_nodup : ∀ (n : Nat) (l : List Int), l.length ≤ n → l.eraseDups.Nodup
  | _, [], _ => by simp
  | 0, a :: l, h => by simp at h
  | n + 1, a :: l, h => by
    rw [List.eraseDups_cons, List.nodup_cons]
    refine ⟨fun c => ?_, dups_nodup n _ ?_⟩
    · rw [List.mem_eraseDups, List.mem_filter] at c
      simp at c
    · have := List.length_filter_le (fun b => !b == a) l
      simp only [List.length_cons] at h
      omega
theorem dups_len {l ks : List Int} (hn : ks.Nodup) (h : ∀ k, k ∈ l ↔ k ∈ ks) : ks.length = l.eraseDups.length := by
  have h2 : l.eraseDups.Nodup := dups_nodup l.length l (Nat.le_refl _)
  exact ((List.perm_ext_iff_of_nodup hn h2).mpr fun a => by rw [List.mem_eraseDups, h a]).length_eq
def rSetI (K : PySem.W.Frag) (w : World) : List V → Hp → VK → Prop := fun xs H Q => ∃ (l : Addr) (ns : List Int), xs = [V.ref l] ∧ SqL K H l (ns.map V.int) ∧ ns.length ≤ 1000 ∧
  ∀ a, H a = none → Q (.ref a) (upd H a (SetO w a (fun j => decide (j ∈ ns)) ns.eraseDups.length))
theorem cr_setI {X : Cx} (hc : X.calm = true) : CallR X (.type "set") (rSetI X.K X.w) := by
  intro pins s σ H xs us Q I r h
  obtain ⟨l, ns, rfl, hl, hz, q⟩ := h
  rw [Vals.ref1 r]
  obtain ⟨its, rv, pl, _⟩ := I.list hl
  have hn : H s.heap.objs.size = none := I.hok.fresh (Nat.le_refl _)
  refine gn_set_list (P := X.prog) (w := X.w) ns (I.ok.hd hc) pl.isList (by simpa using ints_of_vals rv) (by unfold scanBound; omega) fun h' tk c R _ k => ?_
  have ec : c = ns.eraseDups.length := by
    obtain ⟨o, es, ep, t, _, _, _, _, hnd, hm, _, _, hsz, _⟩ := R
    rw [← hsz, ← dups_len hnd (fun k => by rw [← hm k, decide_eq_true_eq])]
    simp
  subst ec
  exact ⟨.ref s.heap.objs.size, upd H s.heap.objs.size (SetO X.w s.heap.objs.size (fun j => decide (j ∈ ns)) ns.eraseDups.length), I.laid (t' := tk) k (Nat.le_refl _) (setO_new R), rfl, q _ hn⟩
theorem cr_lenS {X : Cx} : CallR X (.builtin "len") (fun xs H Q => ∃ (a : Addr) (S : Int → Bool) (n : Nat), xs = [V.ref a] ∧ H a = some (SetO X.w a S n) ∧ Q (.int n) H) := by
  intro pins s σ H xs us Q I r h
  obtain ⟨a, S, n, rfl, ha, q⟩ := h
  rw [Vals.ref1 r]
  obtain ⟨o, es, ep, t, ho, hx, hd, _, _, _, hb, hf, hsz, _⟩ := setO_get I ha
  refine call_len_set ho hx hd hf (by unfold scanBound at hb; omega) ?_
  subst hsz
  exact ⟨.int (es.size : Nat), H, I.tok _, ⟨_, rfl⟩, q⟩
end L2

namespace Gv
open PySem PySem.Spec L2
section
variable {K : PySem.W.Frag} {cl : Nat → Addr} {B r : List Addr} {H : Hp} {M : Store}
theorem drs_ints : ∀ {ds : List PyData} {xs : List V} {ns : List Int}, DRs B r H xs ds → allI ds = some ns → xs = ns.map V.int
  | [], _, ns, h, e => by cases h; cases e; rfl
  | d :: ds, _, ns, h, e => by
    cases h with
    | cons a t =>
      cases d with
      | int i =>
        have e : (allI ds).map (i :: ·) = some ns := e
        rw [Option.map_eq_some_iff] at e
        obtain ⟨ms, e1, rfl⟩ := e
        rw [drs_ints t e1]
        cases a
        rfl
      | _ => cases e
end
section
variable {X : Cx} {cl : Nat → Addr} {W : WX} {a : Expr} {ga : Slots → Store → R Val} {p p1 p2 pos : Pos}
theorem se_lenset (hc : X.calm = true) (hg : Gl X "len") (hm : X.mg "len" = none) (hg2 : Gl X "set") (hm2 : X.mg "set" = none) (ha : SE X cl W a ga) (hs : notStar a = true) :
    SE X cl W (.Call (.Name "len" p) [.Call (.Name "set" p1) [a] [] p2] [] pos) (fun s M => (eCons ga eNil s M).bind fun vs M => biLenset vs M) :=
  PE.imp (pe_callB cr_lenS hg hm (by decide +kernel) (pa_cons (pe_callTy (cr_setI hc) hg2 hm2 (by decide +kernel) (pa_cons ha pa_nil (star_cons hs)) (by decide) (by decide) (star_cons hs)) pa_nil (star_cons rfl)) (by decide) (by decide) (star_cons rfl)) fun σ H Q ⟨B, r, M, s, R, S, o⟩ => by
    refine ⟨B, r, M, s, R, S, ?_⟩
    dsimp only [eCons] at o
    cases eq : ga s M with
    | bad => rw [eq] at o; exact o
    | exc k M' => rw [eq] at o; exact o
    | ok v M1 =>
      rw [eq] at o
      simp only [Gv.R.bind_ok, eNil] at o
      intro u H1 r1 g1 R1 v1
      have o1 : Out X.K cl (VR X.K cl B) W σ B r1 H1 (biLenset [v] M1) (KQ Q) := by
        generalize biLenset [v] M1 = y at o ⊢
        cases y with
        | bad => exact o
        | exc c M2 => exact fun H2 r2 g2 R2 => o H2 r2 (g1.trans g2) R2
        | ok w M2 => exact fun u2 H2 r2 g2 R2 p2 => o u2 H2 r2 (g1.trans g2) R2 p2
      unfold biLenset at o1
      dsimp only at o1
      cases e : (lstD M1 v).bind allI with
      | none => rw [e] at o1; exact o1.elim
      | some ns =>
        rw [e] at o1
        dsimp only at o1
        split at o1
        · rename_i hz
          simp only [Option.bind_eq_some_iff] at e
          obtain ⟨ds, e1, e2⟩ := e
          obtain ⟨pa, xs, rfl, hx, da, _⟩ := VR.lstD R1 v1 e1
          have := drs_ints da e2
          subst this
          refine ⟨pa, ns, rfl, .inl (.inl hx), hz, fun q hq => ⟨q, _, ns.eraseDups.length, rfl, upd_same, ?_⟩⟩
          exact o1 (.int (ns.eraseDups.length : Nat)) _ r1 (Grow.laid hq) (R1.laid hq) (.d (.int _))
        · exact o1.elim
end
end Gv

/-! sorted(set(rows)) -/
namespace Gv
open PySem PySem.Spec L2
theorem rows_le : PySem.W.dataLe false rowD = fun p q : List Int => decide (p ≤ q) := by
  funext p q
  show (!PySem.W.dataLt (.tuple (q.map .int)) (.tuple (p.map .int))) = _
  rw [PySem.W.dataLt_tuple]
  show (!PySem.W.rowLt (q.map .int) (p.map .int)) = _
  rw [PySem.W.dataLt_ints]
  by_cases h : q < p
  · simp [h, show ¬ p ≤ q from fun r => List.not_lt.mpr r h]
  · simp [h, show p ≤ q from List.not_lt.mp h]
theorem sortD_rows (l : List (List Int)) : sortD (l.map rowD) = (l.mergeSort fun p q => decide (p ≤ q)).map rowD := by
  unfold sortD
  refine (List.map_mergeSort (f := rowD) (r := fun p q : List Int => decide (p ≤ q)) fun a _ b _ => ?_).symm
  exact (congrFun (congrFun rows_le a) b).symm
theorem sort_perm {l m : List (List Int)} (h : l.Perm m) : sortD (l.map rowD) = sortD (m.map rowD) := by
  rw [sortD_rows, sortD_rows]
  congr 1
  have pw := fun l : List (List Int) => List.pairwise_mergeSort (le := fun p q : List Int => decide (p ≤ q)) (fun a b c h1 h2 => by simp only [decide_eq_true_eq] at *; exact List.le_trans h1 h2) (fun a b => by simp only [Bool.or_eq_true, decide_eq_true_eq]; exact List.le_total a b) l
  refine List.Perm.eq_of_pairwise (le := fun p q : List Int => decide (p ≤ q) = true) ?_ (pw l) (pw m) (((List.mergeSort_perm l _).trans h).trans (List.mergeSort_perm m _).symm)
  intro a b _ _ h1 h2
  exact List.le_antisymm (by simpa using h1) (by simpa using h2)
theorem rows_ok {l : List (List Int)} (h : ∀ r ∈ l, r ≠ []) : sortOk (l.map rowD) = true := by
  have al : ∀ xs ys : List Int, PySem.W.alikeAll (xs.map .int) (ys.map .int) = true := PySem.W.alike_ints
  unfold sortOk alikeL
  rw [Bool.and_eq_true, Bool.or_eq_true]
  refine ⟨?_, .inl ?_⟩
  · simp only [List.all_eq_true, List.mem_map]
    rintro _ ⟨x, _, rfl⟩ _ ⟨y, _, rfl⟩
    exact al x y
  · simp only [List.all_eq_true, List.mem_map]
    rintro _ ⟨x, hx, rfl⟩
    cases x with
    | nil => exact absurd rfl (h _ hx)
    | cons => rfl
theorem edup_nodup {α : Type} [BEq α] [LawfulBEq α] : ∀ (n : Nat) (l : List α), l.length ≤ n → l.eraseDups.Nodup
  | _, [], _ => by simp
  | 0, a :: l, h => by simp at h
  | n + 1, a :: l, h => by
    rw [List.eraseDups_cons, List.nodup_cons]
    refine ⟨fun c => ?_, edup_nodup n _ ?_⟩
    · rw [List.mem_eraseDups, List.mem_filter] at c
      simp at c
    · have := List.length_filter_le (fun b => !b == a) l
      simp only [List.length_cons] at h
      omega
section
variable {K : PySem.W.Frag} {cl : Nat → Addr} {B r : List Addr} {H : Hp} {M : Store}
theorem drs_rows : ∀ {ds : List PyData} {xs : List V} {rows : List (List Int)}, DRs B r H xs ds → allR ds = some rows →
    ∃ ks : List (Addr × List Int), xs = ks.map (fun p => V.ref p.1) ∧ ks.map (·.2) = rows ∧ ∀ p ∈ ks, H p.1 = some (.tup (p.2.map V.int)) ∧ p.2 ≠ [] ∧ p.2.length ≤ lim
  | [], _, rows, h, e => by cases h; cases e; exact ⟨[], rfl, rfl, by simp⟩
  | d :: ds, _, rows, h, e => by
    cases h with
    | cons a t =>
      cases a with
      | tup ha hl hs =>
        rename_i ad xs' ds'
        have e : ((allI ds').bind fun ns => if ns.isEmpty then none else (allR ds).map (ns :: ·)) = some rows := e
        rw [Option.bind_eq_some_iff] at e
        obtain ⟨ns, e1, e2⟩ := e
        split at e2
        · cases e2
        · rename_i hne
          rw [Option.map_eq_some_iff] at e2
          obtain ⟨rs, e3, rfl⟩ := e2
          obtain ⟨ks, r1, r2, r3⟩ := drs_rows t e3
          have ei := drs_ints hs e1
          subst ei
          have ll := hs.length
          rw [List.length_map] at ll
          refine ⟨(ad, ns) :: ks, by rw [r1]; rfl, by rw [← r2]; rfl, fun p hp => ?_⟩
          rcases List.mem_cons.mp hp with rfl | hp
          · exact ⟨ha, by simpa using hne, by dsimp only; omega⟩
          · exact r3 p hp
      | _ => cases e
theorem drs_back : ∀ {L : List (Addr × List Int)}, (∀ p ∈ L, H p.1 = some (.tup (p.2.map V.int)) ∧ p.2 ≠ [] ∧ p.2.length ≤ lim) → DRs B r H (L.map fun p => V.ref p.1) (L.map Ts.rowT)
  | [], _ => .nil
  | p :: L, h => .cons (.tup (h p (by simp)).1 (by simpa using (h p (by simp)).2.2) (ints_drs _)) (drs_back fun q hq => h q (by simp [hq]))
where
  ints_drs : ∀ ns : List Int, DRs B r H (ns.map V.int) (ns.map PyData.int)
    | [] => .nil
    | n :: ns => .cons (.int n) (ints_drs ns)
end
section
variable {X : Cx} {cl : Nat → Addr} {W : WX} {a : Expr} {ga : Slots → Store → R Val} {p p1 p2 pos : Pos} {al : Bool}
theorem se_sortset (hc : X.calm = true) (hu : X.A.units + 65 < cLine) (hg : Gl X "sorted") (hm : X.mg "sorted" = none) (hg2 : Gl X "set") (hm2 : X.mg "set" = none) (ha : SE X cl W a ga) (hs : notStar a = true) :
    SE X cl W (.Call (.Name "sorted" p) [.Call (.Name "set" p1) [a] [] p2] [] pos) (fun s M => (eCons ga eNil s M).bind fun vs M => biSortset al vs M) :=
  PE.imp (pe_callB (Ts.cr_sorted hc hu) hg hm (by decide +kernel) (pa_cons (pe_callTy (Ts.cr_set hc (by omega)) hg2 hm2 (by decide +kernel) (pa_cons ha pa_nil (star_cons hs)) (by decide) (by decide) (star_cons hs)) pa_nil (star_cons rfl)) (by decide) (by decide) (star_cons rfl)) fun σ H Q ⟨B, r, M, s, R, S, o⟩ => by
    refine ⟨B, r, M, s, R, S, ?_⟩
    dsimp only [eCons] at o
    cases eq : ga s M with
    | bad => rw [eq] at o; exact o
    | exc k M' => rw [eq] at o; exact o
    | ok v M1 =>
      rw [eq] at o
      simp only [Gv.R.bind_ok, eNil] at o
      intro u H1 r1 g1 R1 v1
      have o1 : Out X.K cl (VR X.K cl B) W σ B r1 H1 (biSortset al [v] M1) (KQ Q) := by
        generalize biSortset al [v] M1 = y at o ⊢
        cases y with
        | bad => exact o
        | exc c M2 => exact fun H2 r2 g2 R2 => o H2 r2 (g1.trans g2) R2
        | ok w M2 => exact fun u2 H2 r2 g2 R2 p2 => o u2 H2 r2 (g1.trans g2) R2 p2
      unfold biSortset at o1
      dsimp only at o1
      cases e : (lstD M1 v).bind allR with
      | none => rw [e] at o1; exact o1.elim
      | some rows =>
        rw [e] at o1
        dsimp only at o1
        split at o1
        · rename_i hz
          simp only [Option.bind_eq_some_iff] at e
          obtain ⟨ds, e1, e2⟩ := e
          obtain ⟨pa, xs, rfl, hx, da, _⟩ := VR.lstD R1 v1 e1
          obtain ⟨ks, rfl, ek, hk⟩ := drs_rows da e2
          have lk : ks.length = rows.length := by rw [← ek, List.length_map]
          refine ⟨pa, ks, rfl, .inl (.inl hx), fun p hp => .inl (.inl (hk p hp).1), by omega, fun q L hq g nd => ?_⟩
          obtain ⟨g1, g2, g3⟩ := g
          have up : ∀ p ∈ L, (upd H1 q (Ts.TqO X.prog X.w q L)) p.1 = some (.tup (p.2.map V.int)) ∧ p.2 ≠ [] ∧ p.2.length ≤ lim := fun p hp => by
            obtain ⟨a1, a2⟩ := hk p (g2 p hp)
            refine ⟨?_, a2⟩
            rw [upd_ne fun z => by rw [z, hq] at a1; cases a1]
            exact a1
          refine ⟨_, L, rfl, upd_same, fun p hp => .inl (.inl (up p hp).1), by omega, ?_, fun p L' pL hp => ?_⟩
          · have : L.map Ts.rowT = (L.map (·.2)).map rowD := by rw [List.map_map]; rfl
            rw [this]
            exact rows_ok fun r hr => by obtain ⟨p, hp, rfl⟩ := List.mem_map.mp hr; exact (up p hp).2.1
          · have pr : (L'.map (·.2)).Perm rows.eraseDups := by
              refine (pL.map _).trans ((List.perm_ext_iff_of_nodup nd (edup_nodup _ _ (Nat.le_refl _))).mpr fun k => ?_)
              rw [List.mem_eraseDups, ← ek]
              exact ⟨fun h => by obtain ⟨p, hp, rfl⟩ := List.mem_map.mp h; exact List.mem_map.mpr ⟨p, g2 p hp, rfl⟩, fun h => by obtain ⟨p, hp, rfl⟩ := List.mem_map.mp h; exact g3 p hp⟩
            have es : sortD (rows.eraseDups.map rowD) = sortD (L'.map Ts.rowT) := by
              rw [← sort_perm pr, List.map_map]; rfl
            rw [es] at o1
            have o2 : Out X.K cl (VR X.K cl B) W σ B r1 (upd H1 q (Ts.TqO X.prog X.w q L)) (mkL al (sortD (L'.map Ts.rowT)) M1) (KQ Q) := by
              generalize mkL al (sortD (L'.map Ts.rowT)) M1 = y at o1 ⊢
              cases y with
              | bad => exact o1
              | exc c M2 => exact fun H2 r2 g2 R2 => o1 H2 r2 ((Grow.laid hq).trans g2) R2
              | ok w M2 => exact fun u2 H2 r2 g2 R2 p2 => o1 u2 H2 r2 ((Grow.laid hq).trans g2) R2 p2
            obtain ⟨_, _, _, q2⟩ := Out.newL o2 (R1.laid hq) (drs_sort (drs_back fun p hp => up p (pL.mem_iff.mp hp))) (by rw [sortD_len, List.length_map, pL.length_eq, lim_eq]; have := sizeLine_eq; omega) hp
            exact q2
        · exact o1.elim
end
end Gv

namespace Gv
open PySem PySem.Spec L2

/-! ### from the text to the small language -/
structure CC where
  N : List Str
  fns : List (Str × Nat)
  cons : List (Str × PyData)
  /-- classes that are made; own exceptions; written dicts -/
  clss : List (Str × Nat)
  excs : List (Str × Nat)
  tabs : List (Str × List (Str × PyData))
  /-- where a new list may change later; where a dict's keys are tuples; what a loop forgets -/
  als : List Pos
  tks : List Pos
  kill : List (Nat × List Nat)
  /-- not within a try -/
  tp : Bool := true
def CC.no (cc : CC) : CC := { cc with tp := false }
def CC.al (cc : CC) (p : Pos) : Bool := cc.als.contains p
def CC.kl (cc : CC) (p : Pos) : List Nat := (cc.kill.lookup p.line).getD []
def slotOf (x : Str) : List Str → Option Nat
  | [] => none
  | y :: r => if y == x then some 0 else (slotOf x r).map (· + 1)
theorem slotOf_ok {x : Str} : ∀ {N : List Str} {i : Nat}, slotOf x N = some i → N[i]? = some x
  | [], _, h => by cases h
  | y :: r, i, h => by
    unfold slotOf at h
    split at h
    · rename_i e
      cases h
      rw [eq_of_beq e]; rfl
    · simp only [Option.map_eq_some_iff] at h
      obtain ⟨j, e, rfl⟩ := h
      show (y :: r)[j + 1]? = some x
      rw [List.getElem?_cons_succ]
      exact slotOf_ok e
def isVis : Option NameKind → Bool
  | some .local => true
  | some .cell => true
  | some .free => true
  | _ => false
def isLoc : Option NameKind → Bool
  | some .local => true
  | some .cell => true
  | _ => false
def isGl : Option NameKind → Bool
  | some .globalImplicit => true
  | _ => false
def okName (x : Str) : Bool := !(x == "__debug__") && !(x == "__classdict__") && !(x == "__name__")
def fnOf (f : Str) (n : Nat) : List (Str × Nat) → Option Nat
  | [] => none
  | (y, m) :: r => if y == f && m == n then some 0 else (fnOf f n r).map (· + 1)
theorem fnOf_ok {f : Str} {n : Nat} : ∀ {l : List (Str × Nat)} {i : Nat}, fnOf f n l = some i → l[i]? = some (f, n)
  | [], _, h => by cases h
  | (y, m) :: r, i, h => by
    unfold fnOf at h
    split at h
    · rename_i e
      simp only [Bool.and_eq_true] at e
      cases h
      rw [eq_of_beq e.1, eq_of_beq e.2]; rfl
    · simp only [Option.map_eq_some_iff] at h
      obtain ⟨j, e, rfl⟩ := h
      show ((y, m) :: r)[j + 1]? = _
      rw [List.getElem?_cons_succ]
      exact fnOf_ok e
def nameC (cc : CC) (sc : Scope) (x : Str) : Option IE :=
  if okName x then
    if isVis (sc.names.lookup x) then (slotOf x cc.N).map .var
    else if isGl (sc.names.lookup x) then (cc.cons.lookup x).map .lit else none
  else none
def constC : Const → Option IE
  | .none => some (.lit .none)
  | .bool b => some (.lit (.bool b))
  | .int i => some (.lit (.int i))
  | .str x => some (.lit (.str x))
  | _ => none
def bfTab : List (Str × Nat × Bf) := [("len", 1, .len), ("list", 1, .list), ("tuple", 1, .tuple), ("int", 1, .int), ("min", 2, .min2), ("max", 2, .max2), ("all", 1, .all), ("divmod", 2, .divmod), ("str", 1, .str), ("max", 1, .max1), ("min", 1, .min1), ("sorted", 1, .sorted)]
def bfOf (f : Str) (n : Nat) : Option Bf := (bfTab.find? fun t => t.1 == f && t.2.1 == n).map (·.2.2)
def bNames : List Str := ["len", "list", "tuple", "int", "min", "max", "all", "divmod", "isinstance", "range", "enumerate", "zip", "bool", "str", "sorted", "set", "ValueError"]
theorem bfTab_ok : ∀ t ∈ bfTab, t.1 = bfName t.2.2 ∧ t.1 ∈ bNames ∧ bfNo t.2.2 = false := by
  intro t h
  simp only [bfTab, List.mem_cons, List.not_mem_nil, or_false] at h
  rcases h with h | h | h | h | h | h | h | h | h | h | h | h <;> (subst h; exact ⟨rfl, by decide, rfl⟩)
theorem bfOf_ok {f : Str} {n : Nat} {b : Bf} (h : bfOf f n = some b) : f = bfName b ∧ f ∈ bNames ∧ bfNo b = false := by
  unfold bfOf at h
  simp only [Option.map_eq_some_iff] at h
  obtain ⟨t, e, rfl⟩ := h
  have h1 := List.find?_some e
  simp only [Bool.and_eq_true] at h1
  have h2 := bfTab_ok t (List.mem_of_find?_eq_some e)
  rw [← eq_of_beq h1.1]
  exact h2
/-- a target: names, and their slots -/
def nmC (N : List Str) (ok : Str → Bool) (x : Str) : Option Nat := if ok x then slotOf x N else none
def tgNames (N : List Str) (ok : Str → Bool) : List Expr → Option (List Nat)
  | [] => some []
  | .Name x _ :: r => (nmC N ok x).bind fun i => (tgNames N ok r).map (i :: ·)
  | _ :: _ => none
def tgC (N : List Str) (ok : Str → Bool) : Expr → Option Tg
  | .Name x _ => (nmC N ok x).map .one
  | .Tuple es _ _ => (tgNames N ok es).map .many
  | _ => none
/-- the block's own names with their slots -/
def ownOf (N : List Str) (scope : Scope) : List (Str × Nat) := scope.names.filterMap fun (x, k) => if isLoc (some k) then (slotOf x N).map (x, ·) else none
def isComp : Expr → Bool
  | .ListComp .. => true
  | .SetComp .. => true
  | .DictComp .. => true
  | _ => false
def isSet : Expr → Bool
  | .Set .. => true
  | _ => false
def isSlice : Expr → Bool
  | .Slice .. => true
  | _ => false
def boolC (op : BoolOp) : List IE → Option IE
  | [] => none
  | [x] => some x
  | x :: y :: r => (boolC op (y :: r)).map fun z => match op with | .And => .and x z | .Or => .or x z
def isRange : Expr → Option (List Expr)
  | .Call (.Name f _) args [] _ => if f == "range" then some args else none
  | _ => none
/-- tuple(range(a)) -/
def tupRg (f : Str) (es : List Expr) : Option Expr := match f == "tuple", es with
  | true, [e] => (match isRange e with
    | some [a] => some a
    | _ => none)
  | _, _ => none
/-- len(set(a)) -/
def isSetC : Expr → Option Expr
  | .Call (.Name f _) [a] [] _ => if f == "set" then some a else none
  | _ => none
def lenSet (f : Str) (es : List Expr) : Option Expr := match f == "len", es with
  | true, [e] => isSetC e
  | _, _ => none
def sortSet (f : Str) (es : List Expr) : Option Expr := match f == "sorted", es with
  | true, [e] => isSetC e
  | _, _ => none
/-- what o.m(..) stands on: no call without arguments (super) -/
def okBase : Expr → Bool
  | .Call (.Name _ _) [] [] _ => false
  | _ => true
def mtTab : List (Str × Nat × Mt) := [("clear", 0, .clear), ("extend", 1, .extend), ("pop", 0, .pop), ("pop", 1, .popAt), ("insert", 2, .insert), ("index", 1, .index), ("count", 1, .count), ("split", 1, .split), ("join", 1, .join), ("setdefault", 2, .setdefault), ("get", 2, .get2)]
def mtTab2 : List (Str × Nat × Mt) := ("index", 1, .sindex) :: mtTab
/-- tx: index is a text's -/
def mtOf (tx : Bool) (f : Str) (n : Nat) : Option Mt := ((if tx then mtTab2 else mtTab).find? fun t => t.1 == f && t.2.1 == n).map (·.2.2)
theorem mtTab_ok : ∀ t ∈ mtTab2, t.1 = mtName t.2.2 := by
  intro t h
  simp only [mtTab2, mtTab, List.mem_cons, List.not_mem_nil, or_false] at h
  rcases h with h | h | h | h | h | h | h | h | h | h | h | h <;> (subst h; rfl)
theorem mtOf_ok {tx : Bool} {f : Str} {n : Nat} {b : Mt} (h : mtOf tx f n = some b) : f = mtName b := by
  unfold mtOf at h
  simp only [Option.map_eq_some_iff] at h
  obtain ⟨t, e, rfl⟩ := h
  have h1 := List.find?_some e
  simp only [Bool.and_eq_true] at h1
  rw [← eq_of_beq h1.1]
  refine mtTab_ok t ?_
  have hm := List.mem_of_find?_eq_some e
  cases tx with
  | true => exact hm
  | false => exact List.mem_cons_of_mem _ hm
/-- a field's, a method's number -/
def numOf (x : Str) : List Str → Option Nat
  | [] => none
  | y :: r => if y == x then some 0 else (numOf x r).map (· + 1)
theorem numOf_ok {x : Str} : ∀ {l : List Str} {j : Nat}, numOf x l = some j → l[j]? = some x
  | [], _, h => by cases h
  | y :: r, j, h => by
    unfold numOf at h
    split at h
    · rename_i e
      cases h
      rw [eq_of_beq e]; rfl
    · simp only [Option.map_eq_some_iff] at h
      obtain ⟨i, e, rfl⟩ := h
      rw [List.getElem?_cons_succ]
      exact numOf_ok e
def fldOf (x : Str) : Option Nat := numOf x fldNames
theorem fldOf_ok {x : Str} {j : Nat} (h : fldOf x = some j) : j < 10 ∧ x = fldN j := by
  have e := numOf_ok h
  have hl := (List.getElem?_eq_some_iff.mp e).1
  refine ⟨hl, ?_⟩
  unfold fldN
  rw [List.getD_eq_getElem?_getD, e]
  rfl
def methOf (x : Str) : Option Nat := numOf x methNames
theorem methOf_ok {x : Str} {j : Nat} (h : methOf x = some j) : j < 19 ∧ x = methN j := by
  have e := numOf_ok h
  have hl := (List.getElem?_eq_some_iff.mp e).1
  refine ⟨hl, ?_⟩
  unfold methN
  rw [List.getD_eq_getElem?_getD, e]
  rfl
/-- the other of x or y is a text or (): by truth -/
def orTail : List Expr → Bool
  | [_, .Constant (.str _) _ _] => true
  | [_, .Tuple [] _ _] => true
  | _ => false
def isZip2 : Expr → Option (Expr × Expr)
  | .Call (.Name f _) [a, b] [] _ => if f == "zip" then some (a, b) else none
  | _ => none
def pairE : List (Option Expr) → List Expr → Option (List Expr)
  | [], [] => some []
  | some k :: ks, v :: vs => (pairE ks vs).map fun r => k :: v :: r
  | _, _ => none
def isEnum1 : Expr → Option Expr
  | .Call (.Name f _) [a] [] _ => if f == "enumerate" then some a else none
  | _ => none
def isTupX : Expr → Bool
  | .Tuple .. => true
  | _ => false
/-- a written dict, by its name -/
def tabC (cc : CC) (sc : Scope) : Expr → Option (List (Str × PyData))
  | .Name x _ => if isGl (sc.names.lookup x) && okName x then cc.tabs.lookup x else none
  | _ => none
section
variable (cc : CC)
mutual
def comp : Nat → Scope → Expr → Option IE
  | 0, _, _ => none
  | n + 1, sc, e => match e with
    | .Name x _ => nameC cc sc x
    | .Constant c _ _ => constC c
    | .BinOp a op b p => (comp n sc a).bind fun x => (comp n sc b).bind fun y => some (.bin (cc.al p) op x y)
    | .UnaryOp .USub a _ => (comp n sc a).map .neg
    | .UnaryOp .Not a _ => (comp n sc a).map .not
    | .BoolOp op vs _ => compB n sc op vs
    | .Compare a [op] [b] _ => compC n sc a op b
    | .Compare a [op, op'] [b, c] _ => if isSet b || isSet c then none else (comp n sc a).bind fun x => (comp n sc b).bind fun y => (comp n sc c).bind fun z => some (.chain op op' x y z)
    | .Compare a [op, op', op2] [b, c, d] _ => if isSet d then none else (comp n sc a).bind fun x => (comp n sc b).bind fun y => (comp n sc c).bind fun z => (comp n sc d).bind fun u => some (.chain3 op op' op2 x y z u)
    | .IfExp c a b _ => (compT n sc c).bind fun z => (comp n sc a).bind fun x => (comp n sc b).bind fun y => some (.ifx z x y)
    | .Tuple es _ _ => if es.all notStar && decide (es.length ≤ 1000) then (comps n sc es).map .tup else none
    | .List es p => if es.all notStar && decide (es.length ≤ 1000) then (comps n sc es).map (.lst (cc.al p)) else none
    | .Dict ks vs p => compD n sc ks vs p
    | .Attribute o f _ => if okBase o then (fldOf f).bind fun j => (comp n sc o).map fun x => .attr x j else none
    | .Subscript a b p => compX n sc a b p
    | .Call (.Name f _) es [] p => if isGl (sc.names.lookup f) && es.all notStar && okName f then compCall n sc f es p else none
    | .ListComp elt [⟨tg, iter, ifs, 0⟩] scope p => compLc n sc elt tg iter ifs scope p
    | .Call (.Attribute o m apos) es [] cpos => if okBase o && apos.endLine == cpos.line && es.all notStar && decide (es.length < 20) then compM n sc o m es cpos else none
    | _ => none
def compB : Nat → Scope → BoolOp → List Expr → Option IE
  | 0, _, _, _ => none
  | n + 1, sc, op, vs => match op, vs with
    | .Or, [a, b] => if orTail [a, b] then (comp n sc a).bind fun x => (comp n sc b).map fun y => .orT x y else (comps n sc [a, b]).bind (boolC .Or)
    | op, vs => (comps n sc vs).bind (boolC op)
def compC : Nat → Scope → Expr → CmpOp → Expr → Option IE
  | 0, _, _, _, _ => none
  | n + 1, sc, a, op, b => match tabC cc sc b with
    | some kvs => (match op with
      | .In => (comp n sc a).map (.gin false (kvs.map (·.1)))
      | .NotIn => (comp n sc a).map (.gin true (kvs.map (·.1)))
      | _ => none)
    | none => if isSet b then none else (comp n sc a).bind fun x => (comp n sc b).bind fun y => some (.cmp op x y)
def compD : Nat → Scope → List (Option Expr) → List Expr → Pos → Option IE
  | 0, _, _, _, _ => none
  | n + 1, sc, ks, vs, p => match ks with
    | [] => if vs.isEmpty then some (.dct (cc.tks.contains p) []) else none
    | _ :: _ => if decide (ks.length ≤ 15) then (pairE ks vs).bind fun es => (comps n sc es).map (.dct false) else none
def compX : Nat → Scope → Expr → Expr → Pos → Option IE
  | 0, _, _, _, _ => none
  | n + 1, sc, a, b, p => match b with
    | .Slice none none (some (.UnaryOp .USub (.Constant (.int 1) _ _) _)) _ => (comp n sc a).map (.rev (cc.al p))
    | .Slice lo hi none _ => (comp n sc a).bind fun x => (compO n sc lo).bind fun l => (compO n sc hi).bind fun h => some (.sl (cc.al p) x l h)
    | b => if isSlice b then none else match tabC cc sc a with
      | some kvs => if sqB kvs then none else (comp n sc b).map (.gget kvs)
      | none => (comp n sc a).bind fun x => (comp n sc b).bind fun y => some (.idx x y)
def compM : Nat → Scope → Expr → Str → List Expr → Pos → Option IE
  | 0, _, _, _, _, _ => none
  | n + 1, sc, o, m, es, p => match methOf m with
    | some j => (comp n sc o).bind fun x => (comps n sc es).bind fun ys => some (.meth j x ys)
    | none => (mtOf (cc.tks.contains p) m es.length).bind fun t => (comp n sc o).bind fun x => (comps n sc es).bind fun ys => some (.mt (cc.al p) t x ys)
def compCall : Nat → Scope → Str → List Expr → Pos → Option IE
  | 0, _, _, _, _ => none
  | n + 1, sc, f, es, p =>
    if f == "isinstance" then (match es with
      | [e, .Name y _] => if isGl (sc.names.lookup y) && okName y then (match plainName y with
          | some t => (comp n sc e).map fun x => .isi x t
          | none => if y == "ValueError" then (comp n sc e).map fun x => .isi x .verr else (cc.excs.lookup y).bind fun k => (comp n sc e).map fun x => .isi x (.cls k)) else none
      | _ => none)
    else match f == "list", es with
      | true, [e] => (match isRange e with
        | some args => if isGl (sc.names.lookup ("range" : Str)) && args.all notStar && (args.length == 1 || args.length == 2) then (comps n sc args).map (.lrng (cc.al p)) else none
        | none => (comp n sc e).map fun x => .bi (cc.al p) .list [x])
      | _, _ => match lenSet f es with
        | some a => if isGl (sc.names.lookup ("set" : Str)) && notStar a then (comp n sc a).map fun x => .bi (cc.al p) .lenset [x] else none
        | none => match sortSet f es with
        | some a => if isGl (sc.names.lookup ("set" : Str)) && notStar a then (comp n sc a).map fun x => .bi (cc.al p) .sortset [x] else none
        | none => match tupRg f es with
        | some a => if isGl (sc.names.lookup ("range" : Str)) && notStar a then (comp n sc a).map fun x => .trng [x] else none
        | none => match bfOf f es.length with
        | some b => if es.isEmpty then none else (comps n sc es).map (.bi (cc.al p) b)
        | none => match cc.clss.lookup f with
          | some c => (comps n sc es).map (.make c)
          | none => match fnOf f es.length cc.fns with
            | some i => (comps n sc es).map (.call i)
            | none => none
def compLc : Nat → Scope → Expr → Expr → Expr → List Expr → Scope → Pos → Option IE
  | 0, _, _, _, _, _, _, _ => none
  | n + 1, sc, elt, tg, iter, ifs, scope, p =>
    if blkC cc.N sc scope (ownOf cc.N scope) && !isSet iter then
      (compI n sc tg iter).bind fun it => (tgC cc.N (fun x => isLoc (scope.names.lookup x)) tg).bind fun t =>
        if t.slots.all ((ownOf cc.N scope).map (·.2)).contains then
          (compIf n (relS scope sc) ifs).bind fun c => (comp n (relS scope sc) elt).bind fun x => some (.lc (cc.al p) ((ownOf cc.N scope).map (·.2)) t it c x)
        else none
    else none
def compIf : Nat → Scope → List Expr → Option IE
  | 0, _, _ => none
  | n + 1, sc, ifs => match ifs with
    | [] => some (.lit (.bool true))
    | [c] => compT n sc c
    | _ => none
def comps : Nat → Scope → List Expr → Option (List IE)
  | 0, _, _ => none
  | n + 1, sc, es => match es with
    | [] => some []
    | e :: es => (comp n sc e).bind fun x => (comps n sc es).map (x :: ·)
def compT : Nat → Scope → Expr → Option IE
  | 0, _, _ => none
  | n + 1, sc, e => match e with
    | .UnaryOp .Not a _ => (compT n sc a).map .not
    | .BoolOp op vs _ => (compTs n sc vs).bind (boolC op)
    | .IfExp .. => none
    | .Compare a [op] [b] _ => compC n sc a op b
    | .Compare a [op, op'] [b, c] _ => if isSet b || isSet c then none else (comp n sc a).bind fun x => (comp n sc b).bind fun y => (comp n sc c).bind fun z => some (.chain op op' x y z)
    | .Compare a [op, op', op2] [b, c, d] _ => if isSet d then none else (comp n sc a).bind fun x => (comp n sc b).bind fun y => (comp n sc c).bind fun z => (comp n sc d).bind fun u => some (.chain3 op op' op2 x y z u)
    | .Compare .. => none
    | e => comp n sc e
def compTs : Nat → Scope → List Expr → Option (List IE)
  | 0, _, _ => none
  | n + 1, sc, es => match es with
    | [] => some []
    | e :: es => (compT n sc e).bind fun x => (compTs n sc es).map (x :: ·)
def compO : Nat → Scope → Option Expr → Option IE
  | 0, _, _ => none
  | n + 1, sc, o => match o with
    | none => some (.lit .none)
    | some e => (comp n sc e).map .toI
def compI : Nat → Scope → Expr → Expr → Option IE
  | 0, _, _, _ => none
  | n + 1, sc, tg, e => match isRange e with
    | some (a :: es) => if isGl (sc.names.lookup ("range" : Str)) && (a :: es).all notStar && decide (es.length ≤ 2) then (comps n sc (a :: es)).map .rng else none
    | some [] => none
    | none => match isEnum1 e with
      | some a => if isTupX tg && isGl (sc.names.lookup ("enumerate" : Str)) && notStar a then (comp n sc a).map (fun x => if cc.tks.contains a.pos then .cseq true x else .enum x) else none
      | none => match isZip2 e with
        | some (a, b) => if isTupX tg && isGl (sc.names.lookup ("zip" : Str)) && notStar a && notStar b then (comp n sc a).bind fun x => (comp n sc b).map fun y => .zip x y else none
        | none => (comp n sc e).map (fun x => if cc.tks.contains e.pos then .cseq false x else .seq x)
end
end
end Gv

namespace Gv
open PySem PySem.Spec L2

structure EC (cc : CC) (cl : Nat → Addr) (F : FEnv) (k : Nat) (X : Cx) (W : WX) (sc : Scope) : Prop where
  n : X.N = cc.N
  nd : X.N.Nodup
  sc : X.env.scope = sc
  calm : X.calm = true
  tk : Tk X W
  room : Room (k + 1) X.A
  blt : ∀ x ∈ bNames, X.mg x = none
  fns : ∀ (i : Nat) (x : Str) (n : Nat), cc.fns[i]? = some (x, n) → ∃ f fd ps, X.mg x = some (.ref f) ∧ PySem.W.keepIn X.K (.ref f) = true ∧ Binds X.K fd ps [] ∧ FnOk X.prog X.w X.K X.mg X.base (CXb X.prog X.w) (k + 1) f fd ps (spF X.K cl n (F.call i))
  cons : ∀ (x : Str) (d : PyData), cc.cons.lookup x = some d → ∃ u v, X.mg x = some u ∧ RelV v u ∧ ∀ B r H, DR B r H v d
  meths : MethsOk X cl F (k + 1)
  makes : ∀ (x : Str) (c : Nat), cc.clss.lookup x = some c → MakeOk X cl F k x c
  excs : ∀ (x : Str) (c : Nat), cc.excs.lookup x = some c → ExcOk X cl x c
  tabs : ∀ (x : Str) (kvs : List (Str × PyData)), cc.tabs.lookup x = some kvs → ∃ ad, X.mg x = some (.ref ad) ∧ KT X.K X.w ad kvs
  sub : SubOk X.K cl F.sub
section
variable {cc : CC} {cl : Nat → Addr} {F : FEnv} {k : Nat} {X : Cx} {W : WX} {sc : Scope}
theorem EC.hu (c : EC cc cl F k X W sc) : X.A.units + 65 < cLine := by have := c.room.un; omega
theorem EC.gl (c : EC cc cl F k X W sc) {x : Str} (h : isGl (sc.names.lookup x) = true) : Gl X x := by
  show X.env.scope.names.lookup x = _
  rw [c.sc]
  unfold isGl at h
  split at h
  · assumption
  · cases h
theorem EC.vis (c : EC cc cl F k X W sc) {x : Str} (h : isVis (sc.names.lookup x) = true) : Vis X.env.scope x := by
  unfold Vis
  rw [c.sc]
  unfold isVis at h
  split at h
  · exact .inl (by assumption)
  · exact .inr (.inl (by assumption))
  · exact .inr (.inr (by assumption))
  · cases h
theorem okName_ok {x : Str} (h : okName x = true) : (x == ("__debug__" : Str)) = false ∧ (x == ("__classdict__" : Str)) = false ∧ x ≠ "__name__" := by
  unfold okName at h
  simp only [Bool.and_eq_true, Bool.not_eq_true'] at h
  exact ⟨h.1.1, h.1.2, fun e => by rw [e] at h; exact absurd h.2 (by decide)⟩
theorem tk_none (c : EC cc cl F k X W sc) {s : Shared} {H : Hp} {scope : Scope} {l : List (Str × Addr)} {C : Addr} {fp : List Addr} {xe : Value → Shared → Prop} : Tk (blkX X s H scope (compEnvC scope l C X.env) fp xe) W0 := by
  obtain ⟨L, fe, fo, h1, h2, h3, _⟩ := c.tk.ex
  refine ⟨L, fe, fo, h1, h2, h3, fun u t x => ?_⟩
  obtain ⟨a, G, t, pn, σ, H, cls, d, _, _, _, _, _, _, _, _, w⟩ := x
  exact w.elim
theorem EC.blk (c : EC cc cl F k X W sc) (s : Shared) (H : Hp) (scope : Scope) (C : Addr) (l : List (Str × Addr)) (fp : List Addr) {xe : Value → Shared → Prop} {W' : WX} (tk : Tk (blkX X s H scope (compEnvC scope l C X.env) fp xe) W') : EC cc cl F k (blkX X s H scope (compEnvC scope l C X.env) fp xe) W' (relS scope sc) where
  n := c.n
  nd := c.nd
  sc := by rw [← c.sc]; rfl
  calm := c.calm
  tk := tk
  room := c.room
  blt := c.blt
  fns := c.fns
  cons := c.cons
  meths := c.meths
  makes := fun x cc e => let q := c.makes x cc e; ⟨q.g, q.ci, q.ini⟩
  excs := fun x cc e => let q := c.excs x cc e; ⟨q.g, q.ex, q.kp, q.su, q.ty⟩
  tabs := c.tabs
  sub := c.sub
theorem name_ok {x : Str} {p : Pos} {ir : IE} (c : EC cc cl F k X W sc) (h : nameC cc sc x = some ir) : SE X cl W (.Name x p) (evE F ir) := by
  unfold nameC at h
  split at h
  · rename_i ho
    obtain ⟨h1, h2, h3⟩ := okName_ok ho
    split at h
    · rename_i hv
      simp only [Option.map_eq_some_iff] at h
      obtain ⟨i, e, rfl⟩ := h
      exact se_var (pe_var (by rw [c.n]; exact slotOf_ok e) (c.vis hv) h1 h2)
    · split at h
      · rename_i hg
        simp only [Option.map_eq_some_iff] at h
        obtain ⟨d, e, rfl⟩ := h
        obtain ⟨u, v, hm, hr, hd⟩ := c.cons x d e
        exact se_lit (pe_glob (c.gl hg) hm hr h1) hd
      · cases h
  · cases h
theorem const_ok {co : Const} {j : Nat} {p : Pos} {ir : IE} (h : constC co = some ir) : SE X cl W (.Constant co j p) (evE F ir) := by
  unfold constC at h
  split at h
  · cases h; exact se_lit pe_non fun _ _ _ => .non
  · cases h; exact se_lit pe_bl fun _ _ _ => .bl _
  · cases h; exact se_lit pe_int fun _ _ _ => .int _
  · cases h; exact se_lit pe_str fun _ _ _ => .str _
  · cases h
theorem marks {op : CmpOp} {b : Expr} (h : isSet b = false) : behindInMarks op b = false := by
  cases b <;> first | rfl | cases h
theorem marks2 {op op' : CmpOp} {b c : Expr} (h1 : isSet b = false) (h : isSet c = false) : lastMarks [op, op'] [b, c] = false := marks h
theorem marks3 {op op' op2 : CmpOp} {b c d : Expr} (h : isSet d = false) : lastMarks [op, op', op2] [b, c, d] = false := marks h
theorem plain_of {b : Expr} (h : isSlice b = false) : PlainIx b := by
  cases b <;> first | exact fun _ _ => rfl | cases h
theorem evEs_nil : evEs F [] = eNil := by funext s M; rfl
theorem evEs_cons (e : IE) (es : List IE) : evEs F (e :: es) = eCons (evE F e) (evEs F es) := by funext s M; rfl
theorem cnt_evEs : ∀ es : List IE, Cnt es.length (evEs F es)
  | [] => by rw [evEs_nil]; exact cnt_nil
  | e :: es => by rw [evEs_cons]; exact cnt_cons (cnt_evEs es)
theorem nofold {iter : Expr} {env : Env} (h : isSet iter = false) (x : Value) : foldedSetIterable iter env x = pure x := by
  cases iter <;> first | rfl | cases h
theorem relS_keep {scope : Scope} {x : Str} (h : isLoc (scope.names.lookup x) = true) : Loc (relS scope sc) x ∧ ((scope.names.lookup x == some .cell) = true ∨ (relS scope sc).names.lookup x = some .local) := by
  unfold isLoc at h
  split at h
  · rename_i e
    have := lookup_relS_keep (sc := sc) (names := scope.names) (k := .local) (by decide) e
    exact ⟨.inl this, .inr this⟩
  · rename_i e
    have := lookup_relS_keep (sc := sc) (names := scope.names) (k := .cell) (by decide) e
    exact ⟨.inr this, .inl (by rw [e]; rfl)⟩
  · cases h
end
end Gv

namespace Gv
open PySem PySem.Spec L2
section
variable {cc : CC} {cl : Nat → Addr} {F : FEnv} {k : Nat} {X : Cx} {W : WX} {sc : Scope}
theorem nm_ok {N : List Str} {ok : Str → Bool} {x : Str} {i : Nat} (h : nmC N ok x = some i) : ok x = true ∧ N[i]? = some x := by
  unfold nmC at h
  split at h
  · exact ⟨by assumption, slotOf_ok h⟩
  · cases h
theorem tgs_ok {N : List Str} {ok : Str → Bool} (hN : X.N = N) (hok : ∀ x, ok x = true → Loc X.env.scope x ∧ (X.fn x = true ∨ X.env.scope.names.lookup x = some .local)) : ∀ {es : List Expr} {is : List Nat}, tgNames N ok es = some is → NamesAt X es is
  | [], is, h => by simp only [tgNames, Option.some.injEq] at h; subst h; exact .nil
  | e :: es, is, h => by
    unfold tgNames at h
    split at h
    · rename_i heq; cases heq
    · rename_i x p r heq
      cases heq
      simp only [Option.bind_eq_some_iff, Option.map_eq_some_iff] at h
      obtain ⟨i, e1, is', e2, rfl⟩ := h
      obtain ⟨h1, h2⟩ := nm_ok e1
      obtain ⟨h3, h4⟩ := hok x h1
      exact .cons (by rw [hN]; exact h2) h3 h4 (tgs_ok hN hok e2)
    · cases h
theorem tg_ok {N : List Str} {ok : Str → Bool} {tg : Expr} {t : Tg} (hc : X.calm = true) (nd : X.N.Nodup) (hN : X.N = N) (hok : ∀ x, ok x = true → Loc X.env.scope x ∧ (X.fn x = true ∨ X.env.scope.names.lookup x = some .local)) (h : tgC N ok tg = some t) : SG X cl tg t := by
  unfold tgC at h
  split at h
  · simp only [Option.map_eq_some_iff] at h
    obtain ⟨i, e1, rfl⟩ := h
    obtain ⟨h1, h2⟩ := nm_ok e1
    obtain ⟨h3, h4⟩ := hok _ h1
    exact sg_name nd (by rw [hN]; exact h2) h3 h4
  · simp only [Option.map_eq_some_iff] at h
    obtain ⟨is, e1, rfl⟩ := h
    exact sg_tup hc nd (tgs_ok hN hok e1)
  · cases h
theorem tg_blk (c : EC cc cl F k X W sc) {scope : Scope} {tg : Expr} {t : Tg} (h : tgC cc.N (fun x => isLoc (scope.names.lookup x)) tg = some t) : BlkG X cl scope tg t := by
  intro s H C l fp xe
  have c' := c.blk s H scope C l fp (tk_none c (xe := xe))
  refine tg_ok c'.calm c'.nd c'.n (fun x hx => ?_) h
  rw [c'.sc]
  exact relS_keep hx
/-- a list comprehension's parts -/
structure LcOk (X : Cx) (cl : Nat → Addr) (W : WX) (F : FEnv) (elt tg iter : Expr) (ifs : List Expr) (scope : Scope) (own : List (Str × Nat)) (t : Tg) (it c x : IE) : Prop where
  hi : SI X cl W tg iter (evI F it)
  ok : BlkOk X.N X.env.scope scope own
  hg : BlkG X cl scope tg t
  ht : BlkT X cl W scope ifs (evE F c)
  he : BlkE X cl W scope elt (evE F x)
  hf : ∀ x, foldedSetIterable iter X.env x = pure x
  hs : ∀ j ∈ t.slots, j ∈ own.map (·.2)
theorem sa_of : ∀ {es : List Expr} {irs : List IE}, Paired (fun e ir => SE X cl W e (evE F ir)) es irs → es.all notStar = true → SA X cl W es (evEs F irs) ∧ irs.length = es.length
  | _, _, .nil, _ => ⟨by rw [evEs_nil]; exact sa_nil, rfl⟩
  | _, _, .cons a t, h => by
    simp only [List.all_cons, Bool.and_eq_true] at h
    obtain ⟨h1, h2⟩ := sa_of t h.2
    exact ⟨by rw [evEs_cons]; exact sa_cons a h1 (star_cons h.1), by simp [h2]⟩
theorem bool_e {op : BoolOp} {pos : Pos} : ∀ {es : List Expr} {irs : List IE} {ir : IE}, Paired (fun e ir => SE X cl W e (evE F ir)) es irs → boolC op irs = some ir → SE X cl W (.BoolOp op es pos) (evE F ir)
  | _, _, ir, .nil, h => by cases h
  | _, _, ir, .cons a .nil, h => by cases h; exact se_one a
  | _, _, ir, .cons a (.cons b t), h => by
    unfold boolC at h
    simp only [Option.map_eq_some_iff] at h
    obtain ⟨z, e, rfl⟩ := h
    have ih := bool_e (op := op) (pos := pos) (.cons b t) e
    cases op with
    | And => exact se_and a ih
    | Or => exact se_or a ih
theorem bool_w {op : BoolOp} {pos : Pos} : ∀ {es : List Expr} {irs : List IE} {ir : IE}, Paired (fun e ir => ST X cl W e (evE F ir)) es irs → boolC op irs = some ir → SW X cl W (.BoolOp op es pos) (evE F ir)
  | _, _, ir, .nil, h => by cases h
  | _, _, ir, .cons a .nil, h => by
    cases h
    cases op with
    | And => exact sw_and1 a
    | Or => exact sw_or1 a
  | _, _, ir, .cons a (.cons b t), h => by
    unfold boolC at h
    simp only [Option.map_eq_some_iff] at h
    obtain ⟨z, e, rfl⟩ := h
    have ih := bool_w (op := op) (pos := pos) (.cons b t) e
    cases op with
    | And => exact sw_and a ih
    | Or => exact sw_or a ih
end
theorem base_ok {o : Expr} {m : Str} {env : Env} (h : okBase o = true) : attributeBase o m env (eval o env) = eval o env := by
  cases o with
  | Call f args kws p =>
    cases args with
    | nil =>
      cases kws with
      | nil =>
        cases f with
        | Name => cases h
        | _ => rfl
      | cons a b => cases f <;> rfl
    | cons a b => cases f <;> rfl
  | _ => rfl
structure AllOk (cc : CC) (cl : Nat → Addr) (F : FEnv) (k n : Nat) : Prop where
  e : ∀ {X : Cx} {W : WX} {sc : Scope} {e : Expr} {ir : IE}, EC cc cl F k X W sc → comp cc n sc e = some ir → SE X cl W e (evE F ir)
  b : ∀ {X : Cx} {W : WX} {sc : Scope} {op : BoolOp} {vs : List Expr} {ir : IE} {pos : Pos}, EC cc cl F k X W sc → compB cc n sc op vs = some ir → SE X cl W (.BoolOp op vs pos) (evE F ir)
  c : ∀ {X : Cx} {W : WX} {sc : Scope} {a b : Expr} {op : CmpOp} {ir : IE} {pos : Pos}, EC cc cl F k X W sc → compC cc n sc a op b = some ir → SE X cl W (.Compare a [op] [b] pos) (evE F ir) ∧ ST X cl W (.Compare a [op] [b] pos) (evE F ir)
  d : ∀ {X : Cx} {W : WX} {sc : Scope} {ks : List (Option Expr)} {vs : List Expr} {ir : IE} {p : Pos}, EC cc cl F k X W sc → compD cc n sc ks vs p = some ir → SE X cl W (.Dict ks vs p) (evE F ir)
  x : ∀ {X : Cx} {W : WX} {sc : Scope} {a b : Expr} {ir : IE} {p : Pos}, EC cc cl F k X W sc → compX cc n sc a b p = some ir → SE X cl W (.Subscript a b p) (evE F ir)
  m : ∀ {X : Cx} {W : WX} {sc : Scope} {o : Expr} {m : Str} {es : List Expr} {ir : IE} {apos cpos : Pos}, EC cc cl F k X W sc → okBase o = true → (apos.endLine == cpos.line) = true → es.all notStar = true → es.length < 20 → compM cc n sc o m es cpos = some ir →
    SE X cl W (.Call (.Attribute o m apos) es [] cpos) (evE F ir)
  call : ∀ {X : Cx} {W : WX} {sc : Scope} {f : Str} {es : List Expr} {ir : IE} {p pos : Pos}, EC cc cl F k X W sc → isGl (sc.names.lookup f) = true → es.all notStar = true → okName f = true → compCall cc n sc f es pos = some ir →
    SE X cl W (.Call (.Name f p) es [] pos) (evE F ir)
  lc : ∀ {X : Cx} {W : WX} {sc : Scope} {elt tg iter : Expr} {ifs : List Expr} {scope : Scope} {ir : IE} {p : Pos}, EC cc cl F k X W sc → compLc cc n sc elt tg iter ifs scope p = some ir →
    ∃ al own t it c x, ir = .lc al (own.map (·.2)) t it c x ∧ LcOk X cl W F elt tg iter ifs scope own t it c x
  ifs : ∀ {X : Cx} {W : WX} {sc : Scope} {es : List Expr} {ir : IE}, EC cc cl F k X W sc → compIf cc n sc es = some ir → PTs X es (rdT X.K cl W (evE F ir))
  es : ∀ {X : Cx} {W : WX} {sc : Scope} {es : List Expr} {irs : List IE}, EC cc cl F k X W sc → comps cc n sc es = some irs → Paired (fun e ir => SE X cl W e (evE F ir)) es irs
  t : ∀ {X : Cx} {W : WX} {sc : Scope} {e : Expr} {ir : IE}, EC cc cl F k X W sc → compT cc n sc e = some ir → ST X cl W e (evE F ir)
  ts : ∀ {X : Cx} {W : WX} {sc : Scope} {es : List Expr} {irs : List IE}, EC cc cl F k X W sc → compTs cc n sc es = some irs → Paired (fun e ir => ST X cl W e (evE F ir)) es irs
  o : ∀ {X : Cx} {W : WX} {sc : Scope} {o : Option Expr} {ir : IE}, EC cc cl F k X W sc → compO cc n sc o = some ir → SO X cl W o (evE F ir)
  i : ∀ {X : Cx} {W : WX} {sc : Scope} {e tg : Expr} {ir : IE}, EC cc cl F k X W sc → compI cc n sc tg e = some ir → SI X cl W tg e (evI F ir)
section
variable {cc : CC} {cl : Nat → Addr} {F : FEnv} {k n : Nat}
theorem all_zero : AllOk cc cl F k 0 where
  e := fun _ h => by simp [comp] at h
  b := fun _ h => by simp [compB] at h
  c := fun _ h => by simp [compC] at h
  d := fun _ h => by simp [compD] at h
  x := fun _ h => by simp [compX] at h
  m := fun _ _ _ _ _ h => by simp [compM] at h
  call := fun _ _ _ _ h => by simp [compCall] at h
  lc := fun _ h => by simp [compLc] at h
  ifs := fun _ h => by simp [compIf] at h
  es := fun _ h => by simp [comps] at h
  t := fun _ h => by simp [compT] at h
  ts := fun _ h => by simp [compTs] at h
  o := fun _ h => by simp [compO] at h
  i := fun _ h => by simp [compI] at h
variable {X : Cx} {W : WX} {sc : Scope}
theorem lc_se {al : Bool} {elt tg iter : Expr} {ifs : List Expr} {scope : Scope} {own : List (Str × Nat)} {t : Tg} {it c x : IE} {pos : Pos} (e : EC cc cl F k X W sc) (h : LcOk X cl W F elt tg iter ifs scope own t it c x) :
    SE X cl W (.ListComp elt [⟨tg, iter, ifs, 0⟩] scope pos) (evE F (.lc al (own.map (·.2)) t it c x)) :=
  se_lc e.tk e.calm e.nd h.hi h.ok h.hg h.ht h.he h.hf h.hs
theorem comp_succ (A : AllOk cc cl F k n) {e : Expr} {ir : IE} (c : EC cc cl F k X W sc) (h : comp cc (n + 1) sc e = some ir) : SE X cl W e (evE F ir) := by
  unfold comp at h
  split at h
  · exact name_ok c h
  · exact const_ok h
  · simp only [Option.bind_eq_some_iff, Option.some.injEq] at h
    obtain ⟨x, e1, y, e2, rfl⟩ := h
    exact se_bin (A.e c e1) (A.e c e2)
  · simp only [Option.map_eq_some_iff] at h
    obtain ⟨x, e1, rfl⟩ := h
    exact se_neg (A.e c e1)
  · simp only [Option.map_eq_some_iff] at h
    obtain ⟨x, e1, rfl⟩ := h
    exact se_not (A.e c e1)
  · exact A.b c h
  · exact (A.c c h).1
  · split at h
    · cases h
    · rename_i hs
      simp only [Bool.or_eq_true, not_or, Bool.not_eq_true] at hs
      simp only [Option.bind_eq_some_iff, Option.some.injEq] at h
      obtain ⟨x, e1, y, e2, z, e3, rfl⟩ := h
      exact se_chain c.hu (marks2 hs.1 hs.2) (A.e c e1) (A.e c e2) (A.e c e3)
  · split at h
    · cases h
    · rename_i hs
      simp only [Bool.not_eq_true] at hs
      simp only [Option.bind_eq_some_iff, Option.some.injEq] at h
      obtain ⟨x, e1, y, e2, z, e3, u, e4, rfl⟩ := h
      exact se_chain3 c.hu (marks3 hs) (A.e c e1) (A.e c e2) (A.e c e3) (A.e c e4)
  · simp only [Option.bind_eq_some_iff, Option.some.injEq] at h
    obtain ⟨z, e0, x, e1, y, e2, rfl⟩ := h
    exact se_if (A.t c e0) (A.e c e1) (A.e c e2)
  · split at h
    · rename_i hs
      simp only [Bool.and_eq_true, decide_eq_true_eq] at hs
      simp only [Option.map_eq_some_iff] at h
      obtain ⟨xs, e1, rfl⟩ := h
      obtain ⟨q1, q2⟩ := sa_of (A.es c e1) hs.1
      exact se_tup (cnt_evEs xs) (by rw [q2]; unfold lim; omega) q1
    · cases h
  · split at h
    · rename_i hs
      simp only [Bool.and_eq_true, decide_eq_true_eq] at hs
      simp only [Option.map_eq_some_iff] at h
      obtain ⟨xs, e1, rfl⟩ := h
      obtain ⟨q1, q2⟩ := sa_of (A.es c e1) hs.1
      exact se_lst (cnt_evEs xs) (by rw [q2]; unfold lim; omega) q1
    · cases h
  · exact A.d c h
  · split at h
    · rename_i hs
      simp only [Option.bind_eq_some_iff, Option.map_eq_some_iff] at h
      obtain ⟨j, e1, x, e2, rfl⟩ := h
      obtain ⟨h1, h2⟩ := fldOf_ok e1
      exact se_attr h1 h2 (A.e c e2) (base_ok hs)
    · cases h
  · exact A.x c h
  · split at h
    · rename_i hs
      simp only [Bool.and_eq_true] at hs
      exact A.call c hs.1.1 hs.1.2 hs.2 h
    · cases h
  · obtain ⟨al, own, t, it, q, x, rfl, ok⟩ := A.lc c h
    exact lc_se c ok
  · split at h
    · rename_i hs
      simp only [Bool.and_eq_true, decide_eq_true_eq] at hs
      exact A.m c hs.1.1.1 hs.1.1.2 hs.1.2 hs.2 h
    · cases h
  · cases h
theorem b_succ (A : AllOk cc cl F k n) {op : BoolOp} {vs : List Expr} {ir : IE} {pos : Pos} (c : EC cc cl F k X W sc) (h : compB cc (n + 1) sc op vs = some ir) : SE X cl W (.BoolOp op vs pos) (evE F ir) := by
  unfold compB at h
  split at h
  · split at h
    · simp only [Option.bind_eq_some_iff, Option.map_eq_some_iff] at h
      obtain ⟨x, e1, y, e2, rfl⟩ := h
      exact se_orT (A.e c e1) (se_one (A.e c e2))
    · simp only [Option.bind_eq_some_iff] at h
      obtain ⟨xs, e1, e2⟩ := h
      exact bool_e (A.es c e1) e2
  · simp only [Option.bind_eq_some_iff] at h
    obtain ⟨xs, e1, e2⟩ := h
    exact bool_e (A.es c e1) e2
theorem tabC_ok {b : Expr} {kvs : List (Str × PyData)} (c : EC cc cl F k X W sc) (h : tabC cc sc b = some kvs) : ∃ x p ad, b = .Name x p ∧ Gl X x ∧ (x == ("__debug__" : Str)) = false ∧ X.mg x = some (.ref ad) ∧ KT X.K X.w ad kvs := by
  unfold tabC at h
  split at h
  · rename_i x p
    split at h
    · rename_i hs
      simp only [Bool.and_eq_true] at hs
      obtain ⟨ad, h1, h2⟩ := c.tabs x kvs h
      exact ⟨x, p, ad, rfl, c.gl hs.1, (okName_ok hs.2).1, h1, h2⟩
    · cases h
  · cases h
theorem c_succ (A : AllOk cc cl F k n) {a b : Expr} {op : CmpOp} {ir : IE} {pos : Pos} (c : EC cc cl F k X W sc) (h : compC cc (n + 1) sc a op b = some ir) : SE X cl W (.Compare a [op] [b] pos) (evE F ir) ∧ ST X cl W (.Compare a [op] [b] pos) (evE F ir) := by
  unfold compC at h
  split at h
  · rename_i kvs et
    obtain ⟨x, p, ad, rfl, hg, hd, hm, T⟩ := tabC_ok c et
    split at h
    · simp only [Option.map_eq_some_iff] at h
      obtain ⟨y, e1, rfl⟩ := h
      exact ⟨se_gin T hg hm hd (A.e c e1), st_gin T hg hm hd (A.e c e1)⟩
    · simp only [Option.map_eq_some_iff] at h
      obtain ⟨y, e1, rfl⟩ := h
      exact ⟨se_gnin T hg hm hd (A.e c e1), st_gnin T hg hm hd (A.e c e1)⟩
    · cases h
  · split at h
    · cases h
    · rename_i hs
      simp only [Option.bind_eq_some_iff, Option.some.injEq] at h
      obtain ⟨x, e1, y, e2, rfl⟩ := h
      exact ⟨se_cmp c.hu (marks (by simpa using hs)) (A.e c e1) (A.e c e2), st_cmp c.hu (marks (by simpa using hs)) (A.e c e1) (A.e c e2)⟩
theorem sps_of : ∀ {ks : List (Option Expr)} {vs es : List Expr} {irs : List IE}, pairE ks vs = some es → Paired (fun e ir => SE X cl W e (evE F ir)) es irs → ∃ trs, SPs X cl W ks vs (evEs F irs) trs
  | [], [], es, irs, h, p => by
    simp only [pairE, Option.some.injEq] at h
    subst h
    cases p
    exact ⟨[], by rw [evEs_nil]; exact .nil⟩
  | some k :: ks, v :: vs, es, irs, h, p => by
    simp only [pairE, Option.map_eq_some_iff] at h
    obtain ⟨r, e1, rfl⟩ := h
    cases p with
    | cons h1 t =>
      cases t with
      | cons h2 t =>
        obtain ⟨trs, ht⟩ := sps_of e1 t
        exact ⟨_, by rw [evEs_cons, evEs_cons]; exact .cons h1 h2 ht⟩
  | [], _ :: _, es, irs, h, p => by simp [pairE] at h
  | none :: _, _, es, irs, h, p => by simp [pairE] at h
  | some _ :: _, [], es, irs, h, p => by simp [pairE] at h
theorem d_succ (A : AllOk cc cl F k n) {ks : List (Option Expr)} {vs : List Expr} {ir : IE} {p : Pos} (c : EC cc cl F k X W sc) (h : compD cc (n + 1) sc ks vs p = some ir) : SE X cl W (.Dict ks vs p) (evE F ir) := by
  unfold compD at h
  split at h
  · split at h
    · rename_i hv
      cases h
      have hv : vs = [] := by simpa using hv
      subst hv
      have := se_dct0 (X := X) (cl := cl) (W := W) (pos := p) (tk := cc.tks.contains p)
      rw [← evEs_nil (F := F)] at this
      exact this
    · cases h
  · split at h
    · rename_i k0 kr hl
      simp only [decide_eq_true_eq] at hl
      simp only [Option.bind_eq_some_iff, Option.map_eq_some_iff] at h
      obtain ⟨es, e1, irs, e2, rfl⟩ := h
      obtain ⟨trs, ht⟩ := sps_of e1 (A.es c e2)
      exact se_dct ht (by simp) hl
    · cases h
theorem x_succ (A : AllOk cc cl F k n) {a b : Expr} {ir : IE} {p : Pos} (c : EC cc cl F k X W sc) (h : compX cc (n + 1) sc a b p = some ir) : SE X cl W (.Subscript a b p) (evE F ir) := by
  have hu1 : X.A.units + 1 < cLine := by have := c.hu; omega
  unfold compX at h
  split at h
  · simp only [Option.map_eq_some_iff] at h
    obtain ⟨x, e1, rfl⟩ := h
    exact se_rev (A.e c e1)
  · simp only [Option.bind_eq_some_iff, Option.some.injEq] at h
    obtain ⟨x, e1, l, e2, u, e3, rfl⟩ := h
    exact se_sl (A.e c e1) (A.o c e2) (A.o c e3)
  · split at h
    · cases h
    · rename_i hs
      split at h
      · rename_i kvs et
        obtain ⟨x, p', ad, rfl, hg, hd, hm, T⟩ := tabC_ok c et
        split at h
        · cases h
        rename_i nq
        simp only [Option.map_eq_some_iff] at h
        obtain ⟨y, e1, rfl⟩ := h
        exact se_gget (T.dict (by simpa using nq)) hg hm hd (A.e c e1) (plain_of (by simpa using hs))
      · simp only [Option.bind_eq_some_iff, Option.some.injEq] at h
        obtain ⟨x, e1, y, e2, rfl⟩ := h
        exact se_idx hu1 (A.e c e1) (A.e c e2) (plain_of (by simpa using hs))
theorem m_succ (A : AllOk cc cl F k n) {o : Expr} {m : Str} {es : List Expr} {ir : IE} {apos cpos : Pos} (c : EC cc cl F k X W sc) (hb : okBase o = true) (hl : (apos.endLine == cpos.line) = true) (hs : es.all notStar = true) (hn : es.length < 20) (h : compM cc (n + 1) sc o m es cpos = some ir) :
    SE X cl W (.Call (.Attribute o m apos) es [] cpos) (evE F ir) := by
  unfold compM at h
  split at h
  · rename_i j ej
    obtain ⟨h1, h2⟩ := methOf_ok ej
    simp only [Option.bind_eq_some_iff, Option.some.injEq] at h
    obtain ⟨x, e1, ys, e2, rfl⟩ := h
    obtain ⟨q1, q2⟩ := sa_of (A.es c e2) hs
    have hp := A.es c e2
    clear e2
    cases hp with
    | nil =>
      have := se_meth0 (apos := apos) (pos := cpos) h1 h2 c.meths c.room c.tk (A.e c e1) (base_ok hb) hl
      rw [← evEs_nil (F := F)] at this
      exact this
    | cons a1 t1 => exact se_meth h1 h2 c.meths c.room c.tk (A.e c e1) q1 (base_ok hb) hs hn hl
  · simp only [Option.bind_eq_some_iff, Option.some.injEq] at h
    obtain ⟨t, e0, x, e1, ys, e2, rfl⟩ := h
    obtain ⟨q1, q2⟩ := sa_of (A.es c e2) hs
    have hp := A.es c e2
    clear e2
    cases hp with
    | nil =>
      have := se_mtN (al := cc.al cpos) t (mtOf_ok e0) c.calm c.hu (A.e c e1) (base_ok hb) hl
      rw [← evEs_nil (F := F)] at this
      exact this
    | cons a1 t1 => exact se_mt t (mtOf_ok e0) c.calm c.hu (A.e c e1) q1 (base_ok hb) hl hs hn
theorem isEnum_ok {e a : Expr} (h : isEnum1 e = some a) : ∃ p pos, e = .Call (.Name "enumerate" p) [a] [] pos := by
  unfold isEnum1 at h
  split at h
  · split at h
    · rename_i hf
      cases h
      rw [eq_of_beq hf]
      exact ⟨_, _, rfl⟩
    · cases h
  · cases h
theorem isTupX_ok {e : Expr} (h : isTupX e = true) : ∃ es k p, e = .Tuple es k p := by
  cases e <;> first | exact ⟨_, _, _, rfl⟩ | cases h
theorem isRange_ok {e : Expr} {es : List Expr} (h : isRange e = some es) : ∃ p pos, e = .Call (.Name "range" p) es [] pos := by
  unfold isRange at h
  split at h
  · split at h
    · rename_i hf
      cases h
      rw [eq_of_beq hf]
      exact ⟨_, _, rfl⟩
    · cases h
  · cases h
theorem lenSet_ok {f : Str} {es : List Expr} {a : Expr} (h : lenSet f es = some a) : ∃ p1 p2, f = "len" ∧ es = [.Call (.Name "set" p1) [a] [] p2] := by
  unfold lenSet at h
  split at h
  · rename_i e hf
    unfold isSetC at h
    split at h
    · split at h
      · rename_i hs
        cases h
        rw [eq_of_beq hs]
        exact ⟨_, _, eq_of_beq hf, rfl⟩
      · cases h
    · cases h
  · cases h
theorem sortSet_ok {f : Str} {es : List Expr} {a : Expr} (h : sortSet f es = some a) : ∃ p1 p2, f = "sorted" ∧ es = [.Call (.Name "set" p1) [a] [] p2] := by
  unfold sortSet at h
  split at h
  · rename_i e hf
    unfold isSetC at h
    split at h
    · split at h
      · rename_i hs
        cases h
        rw [eq_of_beq hs]
        exact ⟨_, _, eq_of_beq hf, rfl⟩
      · cases h
    · cases h
  · cases h
theorem tupRg_ok {f : Str} {es : List Expr} {a : Expr} (h : tupRg f es = some a) : ∃ p1 p2, f = "tuple" ∧ es = [.Call (.Name "range" p1) [a] [] p2] := by
  unfold tupRg at h
  split at h
  · rename_i e hf
    split at h
    · rename_i a' er
      obtain ⟨p', pos', rfl⟩ := isRange_ok er
      cases h
      exact ⟨_, _, eq_of_beq hf, rfl⟩
    · cases h
  · cases h
theorem isZip_ok {e a b : Expr} (h : isZip2 e = some (a, b)) : ∃ p pos, e = .Call (.Name "zip" p) [a, b] [] pos := by
  unfold isZip2 at h
  split at h
  · split at h
    · rename_i hf
      cases h
      rw [eq_of_beq hf]
      exact ⟨_, _, rfl⟩
    · cases h
  · cases h
theorem bi_of {f : Str} {b : Bf} {es : List Expr} {xs : List IE} {al : Bool} {p pos : Pos} (c : EC cc cl F k X W sc) (hg : isGl (sc.names.lookup f) = true) (hs : es.all notStar = true) (r1 : f = bfName b) (r2 : f ∈ bNames) (r3 : bfNo b = false) (h0 : es.isEmpty = false) (hp : Paired (fun e ir => SE X cl W e (evE F ir)) es xs) :
    SE X cl W (.Call (.Name f p) es [] pos) (evE F (.bi al b xs)) := by
  obtain ⟨q1, q2⟩ := sa_of hp hs
  cases es with
  | nil => cases h0
  | cons e es => exact se_biA b r3 c.calm c.hu r1 (c.gl hg) (c.blt _ r2) q1 hs
theorem call_of {f : Str} {i : Nat} {es : List Expr} {xs : List IE} {p pos : Pos} (c : EC cc cl F k X W sc) (hg : isGl (sc.names.lookup f) = true) (hs : es.all notStar = true) (hn : okName f = true) (ei : cc.fns[i]? = some (f, es.length))
    (hp : Paired (fun e ir => SE X cl W e (evE F ir)) es xs) : SE X cl W (.Call (.Name f p) es [] pos) (evE F (.call i xs)) := by
  obtain ⟨q1, q2⟩ := sa_of hp hs
  obtain ⟨fa, fd, ps, h1, h2, h3, h4⟩ := c.fns i f _ ei
  have hc := cnt_evEs (F := F) xs
  rw [q2] at hc
  cases es with
  | nil =>
    cases hp
    exact se_call0 h4 c.room (c.gl hg) h1 h2 h3 c.tk rfl (okName_ok hn).1
  | cons e es => exact se_call h4 c.room (c.gl hg) h1 h2 h3 c.tk hc q1 hs (okName_ok hn).1
theorem call_succ (A : AllOk cc cl F k n) {f : Str} {es : List Expr} {ir : IE} {p pos : Pos} (c : EC cc cl F k X W sc) (hg : isGl (sc.names.lookup f) = true) (hs : es.all notStar = true) (hn : okName f = true) (h : compCall cc (n + 1) sc f es pos = some ir) :
    SE X cl W (.Call (.Name f p) es [] pos) (evE F ir) := by
  unfold compCall at h
  split at h
  · rename_i hf
    have hf := eq_of_beq hf
    subst hf
    split at h
    · rename_i e y p2
      have hs' := hs
      simp only [List.all_cons, Bool.and_eq_true] at hs'
      split at h
      · rename_i hy
        simp only [Bool.and_eq_true] at hy
        split at h
        · rename_i t e1
          simp only [Option.map_eq_some_iff] at h
          obtain ⟨x, e2, rfl⟩ := h
          have hb : y ∈ bNames := by
            unfold plainName at e1
            repeat' split at e1
            all_goals first | (have := eq_of_beq (by assumption); rw [this]; decide) | cases e1
          exact se_isi (c.gl hg) (c.blt _ (by decide)) (c.gl hy.1) (c.blt _ hb) e1 (A.e c e2) hs'.1
        · split at h
          · rename_i hv
            have hv := eq_of_beq hv
            subst hv
            simp only [Option.map_eq_some_iff] at h
            obtain ⟨x, e2, rfl⟩ := h
            exact se_isiV c.sub (c.gl hg) (c.blt _ (by decide)) (c.gl hy.1) (c.blt _ (by decide)) (A.e c e2) hs'.1
          · simp only [Option.bind_eq_some_iff, Option.map_eq_some_iff] at h
            obtain ⟨kk, e1, x, e2, rfl⟩ := h
            exact se_isiE c.sub (c.gl hg) (c.blt _ (by decide)) (c.gl hy.1) (c.excs y kk e1).g (okName_ok hy.2).1 (A.e c e2) hs'.1
      · cases h
    · cases h
  · split at h
    · rename_i e hl
      have hf := eq_of_beq hl
      subst hf
      simp only [List.all_cons, Bool.and_eq_true] at hs
      split at h
      · rename_i args er
        split at h
        · rename_i hs2
          simp only [Bool.and_eq_true, Bool.or_eq_true, beq_iff_eq] at hs2
          simp only [Option.map_eq_some_iff] at h
          obtain ⟨xs, e1, rfl⟩ := h
          obtain ⟨p', pos', rfl⟩ := isRange_ok er
          have hp := A.es c e1
          cases hp with
          | nil => simp at hs2
          | cons h1 t1 =>
            have ns := hs2.1.2
            simp only [List.all_cons, Bool.and_eq_true] at ns
            cases t1 with
            | nil => exact se_lrng1 c.calm (c.gl hg) (c.blt _ (by decide)) (c.gl hs2.1.1) (c.blt _ (by decide)) h1 ns.1
            | cons h2 t2 =>
              simp only [List.all_cons, Bool.and_eq_true] at ns
              cases t2 with
              | nil => exact se_lrng2 c.calm (c.gl hg) (c.blt _ (by decide)) (c.gl hs2.1.1) (c.blt _ (by decide)) h1 h2 ns.1 ns.2.1
              | cons h3 t3 => simp at hs2
        · cases h
      · simp only [Option.map_eq_some_iff] at h
        obtain ⟨x, e1, rfl⟩ := h
        exact bi_of c hg (by simpa using hs.1) rfl (by decide) rfl rfl (.cons (A.e c e1) .nil)
    · split at h
      · rename_i a ea
        split at h
        · rename_i hs2
          simp only [Bool.and_eq_true] at hs2
          simp only [Option.map_eq_some_iff] at h
          obtain ⟨x, e1, rfl⟩ := h
          obtain ⟨p1, p2, rfl, rfl⟩ := lenSet_ok ea
          exact se_lenset c.calm (c.gl hg) (c.blt _ (by decide)) (c.gl hs2.1) (c.blt _ (by decide)) (A.e c e1) hs2.2
        · cases h
      split at h
      · rename_i a ea
        split at h
        · rename_i hs2
          simp only [Bool.and_eq_true] at hs2
          simp only [Option.map_eq_some_iff] at h
          obtain ⟨x, e1, rfl⟩ := h
          obtain ⟨p1, p2, rfl, rfl⟩ := sortSet_ok ea
          exact se_sortset c.calm c.hu (c.gl hg) (c.blt _ (by decide)) (c.gl hs2.1) (c.blt _ (by decide)) (A.e c e1) hs2.2
        · cases h
      split at h
      · rename_i a ea
        split at h
        · rename_i hs2
          simp only [Bool.and_eq_true] at hs2
          simp only [Option.map_eq_some_iff] at h
          obtain ⟨x, e1, rfl⟩ := h
          obtain ⟨p1, p2, rfl, rfl⟩ := tupRg_ok ea
          exact se_trng1 c.calm (c.gl hg) (c.blt _ (by decide)) (c.gl hs2.1) (c.blt _ (by decide)) (A.e c e1) hs2.2
        · cases h
      split at h
      · rename_i b eb
        split at h
        · cases h
        · rename_i h0
          simp only [Option.map_eq_some_iff] at h
          obtain ⟨xs, e1, rfl⟩ := h
          obtain ⟨r1, r2, r3⟩ := bfOf_ok eb
          exact bi_of c hg hs r1 r2 r3 (by simpa using h0) (A.es c e1)
      · split at h
        · rename_i cn ec
          simp only [Option.map_eq_some_iff] at h
          obtain ⟨xs, e1, rfl⟩ := h
          have hp := A.es c e1
          obtain ⟨q1, q2⟩ := sa_of hp hs
          clear e1
          cases hp with
          | nil =>
            have := se_make0 (p := p) (pos := pos) (c.makes f cn ec) c.room c.tk (c.gl hg) (okName_ok hn).1
            rw [← evEs_nil (F := F)] at this
            exact this
          | cons a1 t1 => exact se_make (c.makes f cn ec) c.room c.tk (c.gl hg) q1 (okName_ok hn).1 hs
        · split at h
          · rename_i i ei
            simp only [Option.map_eq_some_iff] at h
            obtain ⟨xs, e1, rfl⟩ := h
            exact call_of c hg hs hn (fnOf_ok ei) (A.es c e1)
          · cases h
theorem lc_succ (A : AllOk cc cl F k n) {elt tg iter : Expr} {ifs : List Expr} {scope : Scope} {ir : IE} {p : Pos} (c : EC cc cl F k X W sc) (h : compLc cc (n + 1) sc elt tg iter ifs scope p = some ir) :
    ∃ al own t it q x, ir = .lc al (own.map (·.2)) t it q x ∧ LcOk X cl W F elt tg iter ifs scope own t it q x := by
  unfold compLc at h
  split at h
  · rename_i hb
    simp only [Bool.and_eq_true, Bool.not_eq_true'] at hb
    simp only [Option.bind_eq_some_iff] at h
    obtain ⟨it, e1, t, e2, h⟩ := h
    split at h
    · rename_i hsl
      simp only [Option.bind_eq_some_iff, Option.some.injEq] at h
      obtain ⟨q, e3, x, e4, rfl⟩ := h
      refine ⟨cc.al p, ownOf cc.N scope, t, it, q, x, rfl, A.i c e1, ?_, tg_blk c e2, fun W' s H C l fp xe tk => A.ifs (c.blk s H scope C l fp tk) e3, fun W' s H C l fp xe tk => A.e (c.blk s H scope C l fp tk) e4, nofold hb.2, fun j hj => ?_⟩
      · rw [c.n, c.sc]; exact blkOk_by hb.1
      · simpa using List.all_eq_true.mp hsl j hj
    · cases h
  · cases h
theorem all_succ (A : AllOk cc cl F k n) : AllOk cc cl F k (n + 1) where
  e := fun c h => comp_succ A c h
  b := fun c h => b_succ A c h
  c := fun c h => c_succ A c h
  d := fun c h => d_succ A c h
  x := fun c h => x_succ A c h
  m := fun c h1 h2 h3 h4 h => m_succ A c h1 h2 h3 h4 h
  call := fun c h1 h2 h3 h => call_succ A c h1 h2 h3 h
  lc := fun c h => lc_succ A c h
  ifs := fun {X W sc es ir} c h => by
    unfold compIf at h
    split at h
    · cases h
      exact ⟨fun pins s σ H Q I hw => pts_nil.run pins s σ H Q I (by
        obtain ⟨B, r, M, s', R, S, o⟩ := hw
        obtain ⟨b, e, q⟩ := Out.here (u := .bl true) o R (.d (.bl _))
        cases e
        exact q)⟩
    · exact pts_one (A.t c h)
    · cases h
  es := fun {X W sc es irs} c h => by
    unfold comps at h
    split at h
    · cases h; exact .nil
    · simp only [Option.bind_eq_some_iff, Option.map_eq_some_iff] at h
      obtain ⟨x, e1, xs, e2, rfl⟩ := h
      exact .cons (A.e c e1) (A.es c e2)
  t := fun {X W sc e ir} c h => by
    unfold compT at h
    split at h
    · simp only [Option.map_eq_some_iff] at h
      obtain ⟨x, e1, rfl⟩ := h
      exact st_not (A.t c e1)
    · simp only [Option.bind_eq_some_iff] at h
      obtain ⟨xs, e1, e2⟩ := h
      exact (bool_w (A.ts c e1) e2).pt
    · cases h
    · exact (A.c c h).2
    · split at h
      · cases h
      · rename_i hs
        simp only [Bool.or_eq_true, not_or, Bool.not_eq_true] at hs
        simp only [Option.bind_eq_some_iff, Option.some.injEq] at h
        obtain ⟨x, e1, y, e2, z, e3, rfl⟩ := h
        exact st_chain c.hu (marks2 hs.1 hs.2) (A.e c e1) (A.e c e2) (A.e c e3)
    · split at h
      · cases h
      · rename_i hs
        simp only [Bool.not_eq_true] at hs
        simp only [Option.bind_eq_some_iff, Option.some.injEq] at h
        obtain ⟨x, e1, y, e2, z, e3, u, e4, rfl⟩ := h
        exact st_chain3 c.hu (marks3 hs) (A.e c e1) (A.e c e2) (A.e c e3) (A.e c e4)
    · cases h
    · rename_i n1 n2 n3 n4 n5 n5' n6
      refine st_val (A.e c h) fun whole => ?_
      cases e with
      | UnaryOp op x p =>
        cases op with
        | Not => exact absurd rfl (n1 x p)
        | _ => rfl
      | BoolOp op vs p => exact absurd rfl (n2 op vs p)
      | IfExp a b d p => exact absurd rfl (n3 a b d p)
      | Compare a ops cs p => exact absurd rfl (n6 a ops cs p)
      | _ => rfl
  ts := fun {X W sc es irs} c h => by
    unfold compTs at h
    split at h
    · cases h; exact .nil
    · simp only [Option.bind_eq_some_iff, Option.map_eq_some_iff] at h
      obtain ⟨x, e1, xs, e2, rfl⟩ := h
      exact .cons (A.t c e1) (A.ts c e2)
  o := fun {X W sc o ir} c h => by
    unfold compO at h
    split at h
    · cases h; exact so_none
    · simp only [Option.map_eq_some_iff] at h
      obtain ⟨x, e1, rfl⟩ := h
      exact so_some (A.e c e1)
  i := fun {X W sc e tg ir} c h => by
    unfold compI at h
    split at h
    · rename_i a es hr
      split at h
      · rename_i hs
        simp only [Bool.and_eq_true, decide_eq_true_eq] at hs
        simp only [Option.map_eq_some_iff] at h
        obtain ⟨xs, e1, rfl⟩ := h
        obtain ⟨p, pos, rfl⟩ := isRange_ok hr
        obtain ⟨q1, q2⟩ := sa_of (A.es c e1) hs.1.2
        have hc := cnt_evEs (F := F) xs
        rw [q2] at hc
        exact si_rng (c.gl hs.1.1) (c.blt _ (by decide)) q1 hs.1.2 hs.2 hc
      · cases h
    · cases h
    · split at h
      · rename_i a ha
        split at h
        · rename_i hs
          simp only [Bool.and_eq_true] at hs
          simp only [Option.map_eq_some_iff] at h
          obtain ⟨x, e1, rfl⟩ := h
          obtain ⟨p, pos, rfl⟩ := isEnum_ok ha
          obtain ⟨es, kk, tp, rfl⟩ := isTupX_ok hs.1.1
          split
          · exact si_cenum (c.gl hs.1.2) (c.blt _ (by decide)) (A.e c e1) hs.2
          · exact si_enum (c.gl hs.1.2) (c.blt _ (by decide)) (A.e c e1) hs.2
        · cases h
      · split at h
        · rename_i a b hz
          split at h
          · rename_i hs
            simp only [Bool.and_eq_true] at hs
            simp only [Option.bind_eq_some_iff, Option.map_eq_some_iff] at h
            obtain ⟨x, e1, y, e2, rfl⟩ := h
            obtain ⟨p, pos, rfl⟩ := isZip_ok hz
            obtain ⟨es, kk, tp, rfl⟩ := isTupX_ok hs.1.1.1
            exact si_zip (c.gl hs.1.1.2) (c.blt _ (by decide)) (A.e c e1) (A.e c e2) hs.1.2 hs.2
          · cases h
        · simp only [Option.map_eq_some_iff] at h
          obtain ⟨x, e1, rfl⟩ := h
          split
          · exact si_cseq (A.e c e1)
          · exact si_seq (A.e c e1)
theorem all_ok : ∀ n, AllOk cc cl F k n
  | 0 => all_zero
  | n + 1 => all_succ (all_ok n)
end
end Gv

namespace Gv
open PySem PySem.Spec L2

theorem sw_no {e : Expr} {t : Option Expr} {l : Nat} {env : Env} (h : isComp e = false) : swapsWith e t l env = pure false := by
  cases e <;> first | rfl | cases h
theorem sws_no {e t : Expr} {l : Nat} {env : Env} (h : isComp e = false) : swapsWithSole [t] e l env = pure false := by
  show swapsWith e (some t) l env = pure false
  exact sw_no h
theorem sw_cell {elt : Expr} {gs : List Comprehension} {scope : Scope} {pos py : Pos} {y : Str} {l : Nat} {env : Env} (hy : env.scope.names.lookup y = some .cell) : swapsWith (.ListComp elt gs scope pos) (some (.Name y py)) l env = pure false := by
  have : (env.kindOf y == some .local) = false := by unfold Env.kindOf; rw [hy]; rfl
  unfold swapsWith
  simp only [this, Bool.and_false, Bool.false_and]
theorem sws_cell {elt : Expr} {gs : List Comprehension} {scope : Scope} {pos py : Pos} {y : Str} {l : Nat} {env : Env} (hy : env.scope.names.lookup y = some .cell) : swapsWithSole [.Name y py] (.ListComp elt gs scope pos) l env = pure false := by
  show swapsWith (.ListComp elt gs scope pos) (some (.Name y py)) l env = pure false
  exact sw_cell hy
theorem ss_none {tg e : Expr} {env : Env} (h : (match tg, e with | .Tuple .., .Tuple .. => true | .List .., .Tuple .. => true | _, _ => false) = false) : swappedStores [tg] e env = pure none := by
  cases tg <;> cases e <;> first | rfl | cases h
def isTup : Expr → Bool
  | .Tuple .. => true
  | _ => false
theorem tup_m {es : List Expr} {k : Nat} {p : Pos} : ∀ {e : Expr}, isTup e = false → (match (Expr.Tuple es k p), e with | .Tuple .., .Tuple .. => true | .List .., .Tuple .. => true | _, _ => false) = false := by
  intro e h
  cases e <;> first | rfl | cases h
theorem ns_m : ∀ {e : Expr}, notStar e = true → (match e with | .Starred .. => true | _ => false) = false := by
  intro e h
  cases e <;> first | rfl | cases h
section
variable (cc : CC)
def swOk (sc : Scope) (y : Str) (py lpos : Pos) (scope : Scope) : Bool :=
  (match sc.kind with | .function => true | _ => false) && (match sc.names.lookup y with | some .local => true | _ => false) && (py.line == lpos.line) && !(scope.names.any fun x => x.1 == y && (x.2 == .local || x.2 == .cell))
def isCell (sc : Scope) (y : Str) : Bool := match sc.names.lookup y with | some .cell => true | _ => false
def isLocal (sc : Scope) (y : Str) : Bool := match sc.names.lookup y with | some .local => true | _ => false
def isFn (sc : Scope) : Bool := match sc.kind with | .function => true | _ => false
def parOk (sc : Scope) (x y : Str) (px py : Pos) (a b : Expr) : Bool := isFn sc && (isLocal sc x && (isLocal sc y && ((py.line == px.line) && (!(x == y) && (notStar a && (notStar b && (!([a, b].all (foldedForSure 8)) && !([a, b].all (constantsAlone 8)))))))))
def isAdd : Operator → Bool
  | .Add => true
  | _ => false
mutual
def compS : CC → Nat → Scope → Stmt → Option IS
  | _, 0, _, _ => none
  | cc, n + 1, sc, st => match st with
    | .Expr (.Call (.Attribute o m apos) [e] [] cpos) _ => if m == "append" && okBase o && apos.endLine == cpos.line && notStar e then (comp cc n sc o).bind fun x => (comp cc n sc e).bind fun y => some (.app x y) else (comp cc n sc (.Call (.Attribute o m apos) [e] [] cpos)).map .expr
    | .Expr e _ => if isComp e then none else (comp cc n sc e).map .expr
    | .Assign [.Name x p] e pos => compA cc n sc x p e
    | .Assign [.Tuple [.Name x px, .Name y py] k p] (.Tuple [a, b] k2 p2) pos => if parOk sc x y px py a b then (slotOf x cc.N).bind fun i => (slotOf y cc.N).bind fun j => if i == j then none else (comp cc n sc a).bind fun u => (comp cc n sc b).bind fun v => some (.par i j u v) else none
    | .Assign [.Tuple [.Attribute o f p1, .Attribute q g p2] k p] e pos => if isComp e || isTup e then none else (fldOf f).bind fun i => (fldOf g).bind fun j => (comp cc n sc o).bind fun x => (comp cc n sc q).bind fun y => (comp cc n sc e).bind fun z => some (.unpat x y i j z)
    | .Assign [.Tuple es k p] e pos => if isComp e || isTup e then none else (tgC cc.N (fun x => isLoc (sc.names.lookup x)) (.Tuple es k p)).bind fun t => (comp cc n sc e).map (.asg t)
    | .Assign [.Subscript o (.Slice lo hi none _) p] e _ => if isComp e then none else (comp cc n sc o).bind fun x => (compO cc n sc lo).bind fun l => (compO cc n sc hi).bind fun h => (comp cc n sc e).bind fun z => some (.setsl x l h z)
    | .Assign [.Subscript o i p] e _ => if isComp e || isSlice i then none else (comp cc n sc o).bind fun x => (comp cc n sc i).bind fun y => (comp cc n sc e).bind fun z => some (.setix x y z)
    | .Assign [.Attribute o f p] e _ => if isComp e then none else (fldOf f).bind fun j => (comp cc n sc o).bind fun x => (comp cc n sc e).bind fun z => some (.setat x j z)
    | .AugAssign (.Name x p) op e _ => if isAdd op then (nmC cc.N (fun x => isLoc (sc.names.lookup x)) x).bind fun i => (comp cc n sc e).map (.aug i op) else none
    | .AugAssign (.Attribute o f p) op e _ => if isAdd op then (fldOf f).bind fun j => (comp cc n sc o).bind fun x => (comp cc n sc e).bind fun z => some (.augat x j op z) else none
    | .Return (some e) _ => (comp cc n sc e).map .ret
    | .If c a b _ => (compT cc n sc c).bind fun z => (compSs cc n sc a).bind fun x => (compSs cc n sc b).bind fun y => some (.ite z x y)
    | .For tg iter body [] p => if isSet iter then none else (tgC cc.N (fun x => isLoc (sc.names.lookup x)) tg).bind fun t => (compI cc n sc tg iter).bind fun it => (compSs cc n sc body).bind fun b => some (.forr t it b (cc.kl p))
    | .While c body [] p => (compT cc n sc c).bind fun z => (compSs cc n sc body).bind fun b => some (.whil z b (cc.kl p))
    | .Pass _ => some .pass
    | .Raise (some (.Call (.Name x _) [.Constant (.str _) _ _] [] _)) none _ => if isGl (sc.names.lookup x) && okName x then (cc.excs.lookup x).bind fun c => if c < 100 then some (.rais c) else none else none
    | .Try body [.ExceptHandler (some (.Name x _)) (some n') [.Assign [.Name y _] (.Name n'' _) _] _] [] [] _ => if n'' == n' && isGl (sc.names.lookup x) && okName x && isLocal sc n' && isLocal sc y && okName n' then (cc.excs.lookup x).bind fun c => (slotOf n' cc.N).bind fun i => (slotOf y cc.N).bind fun j => if i == j then none else (compSs cc.no n sc body).map fun b => .tryas b c i j else none
    | .Try body [.ExceptHandler (some (.Name x _)) none [.Raise (some (.Call (.Name y _) [.Constant (.str _) _ _] [] _)) (some (.Constant .none _ _)) _] _] [] [] _ => if cc.tp && isGl (sc.names.lookup x) && okName x && isGl (sc.names.lookup y) && okName y then (cc.excs.lookup x).bind fun c => (cc.excs.lookup y).bind fun d => (compSs cc.no n sc body).map fun b => .tryr b c d else none
    | _ => none
def compA : CC → Nat → Scope → Str → Pos → Expr → Option IS
  | _, 0, _, _, _, _ => none
  | cc, n + 1, sc, x, p, e => (tgC cc.N (fun x => isLoc (sc.names.lookup x)) (.Name x p)).bind fun t => match e with
    | .ListComp elt [⟨tg, iter, ifs, 0⟩] scope lpos =>
      if swOk sc x p lpos scope || isCell sc x then (compLc cc n sc elt tg iter ifs scope lpos).map (.asg t) else none
    | e => if isComp e then none else (comp cc n sc e).map (.asg t)
def compSs : CC → Nat → Scope → List Stmt → Option (List IS)
  | _, 0, _, _ => none
  | cc, n + 1, sc, sts => match sts with
    | [] => some []
    | s :: r => (compS cc n sc s).bind fun x => (compSs cc n sc r).map (x :: ·)
end
end
structure SC (cc : CC) (cl : Nat → Addr) (F : FEnv) (k : Nat) (X : Cx) (W : WX) (sc : Scope) : Prop extends EC cc cl F k X W sc where
  po : PassesOwn (model X.prog X.w) X.A X.env X.xe
  pa : cc.tp = true → ∀ hd : Option Value, PassesOwnAt (model X.prog X.w) (X.A.mark hd) X.A X.env X.xe
  fn : ∀ x, X.fn x = true
  ex : X.ex = []
  stk : X.stack = X.env :: X.outer
  fr : X.env.frame = some X.env.locals
structure SOk (cc : CC) (cl : Nat → Addr) (F : FEnv) (k wf n : Nat) : Prop where
  s : ∀ {X : Cx} {W : WX} {sc : Scope} {st : Stmt} {ir : IS}, SC cc cl F k X W sc → compS cc n sc st = some ir → SS X cl W st (evS F wf ir)
  a : ∀ {X : Cx} {W : WX} {sc : Scope} {x : Str} {p pos : Pos} {e : Expr} {ir : IS}, SC cc cl F k X W sc → compA cc n sc x p e = some ir → SS X cl W (.Assign [.Name x p] e pos) (evS F wf ir)
  ss : ∀ {X : Cx} {W : WX} {sc : Scope} {st : List Stmt} {ir : List IS}, SC cc cl F k X W sc → compSs cc n sc st = some ir → SSs X cl W st (evSs F wf ir)
section
variable {cc : CC} {cl : Nat → Addr} {F : FEnv} {k wf n : Nat} {X : Cx} {W : WX} {sc : Scope}
theorem SC.takes (c : SC cc cl F k X W sc) : Takes X W := by
  obtain ⟨L, fe, fo, h1, h2, h3, h⟩ := c.tk.ex
  rw [c.fr] at h2
  cases h2
  refine ⟨fun u t' x => h u t' ?_, fun u t' x => h u t' ?_⟩
  · obtain ⟨a, B, sI, pins, σ, H, cls, d, e, I, nb, up, sky, na, os, ag, C, ec, w⟩ := x
    subst ec
    exact ⟨a, B, sI, pins, σ, H, .ref C, d, e, I, nb, up, sky, na, os, ag, w⟩
  · obtain ⟨a, B, sI, pins, σ, H, cls, d, e, I, nb, up, sky, na, os, ag, i, tt, ec, w⟩ := x
    subst ec
    exact ⟨a, B, sI, pins, σ, H, .int i tt, d, e, I, nb, up, sky, na, os, ag, w⟩
theorem SC.tr (c : SC cc cl F k X W sc) {W' : WX} {pn : List (Addr × Obj)} {xe : Value → Shared → Prop} (tk : Takes (X.tr pn xe) W') (po : PassesOwn (model X.prog X.w) X.A X.env xe) : SC cc.no cl F k (X.tr pn xe) W' sc where
  n := c.n
  nd := c.nd
  sc := c.sc
  calm := c.calm
  tk := Tk.of tk c.stk c.fr
  room := c.room
  blt := c.blt
  fns := c.fns
  cons := c.cons
  meths := c.meths
  makes := fun x cc e => let q := c.makes x cc e; ⟨q.g, q.ci, q.ini⟩
  excs := fun x cc e => let q := c.excs x cc e; ⟨q.g, q.ex, q.kp, q.su, q.ty⟩
  tabs := c.tabs
  sub := c.sub
  po := po
  pa := fun h => nomatch h
  fn := c.fn
  ex := c.ex
  stk := c.stk
  fr := c.fr
theorem SC.tg (c : SC cc cl F k X W sc) {tg : Expr} {t : Tg} (h : tgC cc.N (fun x => isLoc (sc.names.lookup x)) tg = some t) : SG X cl tg t := by
  refine tg_ok c.calm c.nd c.n (fun x hx => ⟨?_, .inl (c.fn x)⟩) h
  rw [c.sc]
  unfold isLoc at hx
  split at hx
  · exact .inl (by assumption)
  · exact .inr (by assumption)
  · cases hx
theorem assign_sub {o i : Expr} {p : Pos} {env : Env} (h : isSlice i = false) (v : Value) : assign (.Subscript o i p) env v = (do
      let ov ← holding [v] (eval o env)
      let iv ← holding [v, ov] (eval i env)
      standAt p
      holding [v, ov, iv] (setItem ov iv v)
      release [v, ov, iv] []) := by
  cases i <;> first | rfl | cases h
theorem kind_of {y : Str} (c : SC cc cl F k X W sc) (h : isLocal sc y = true) : X.env.kindOf y = some .local := by
  show X.env.scope.names.lookup y = _
  rw [c.sc]
  unfold isLocal at h
  split at h
  · assumption
  · cases h
theorem isLocal_ok {y : Str} (h : isLocal sc y = true) : sc.names.lookup y = some .local := by
  unfold isLocal at h
  split at h
  · assumption
  · cases h
theorem par_sw {env : Env} {x y : Str} {px py pt : Pos} {kt k2 pt2} {a b : Expr} (h : parOk env.scope x y px py a b = true) : swappedStores [.Tuple [.Name x px, .Name y py] kt pt] (.Tuple [a, b] k2 pt2) env = pure (some [x, y]) := by
  unfold parOk at h
  simp only [Bool.and_eq_true, Bool.not_eq_true'] at h
  obtain ⟨h1, h2, h3, h4, h5, h6, h7, h8, h9⟩ := h
  have hb : env.blockKind = .function := by
    unfold isFn at h1
    split at h1
    · rename_i e; unfold Env.blockKind; rw [e]; rfl
    · cases h1
  have kx : env.kindOf x = some .local := isLocal_ok h2
  have ky : env.kindOf y = some .local := isLocal_ok h3
  have na := ns_m h6
  have nb := ns_m h7
  have h4 : py.line = px.line := by simpa using h4
  have e1 : (Expr.Name x px).pos.line = px.line := rfl
  have hxy : ¬ x = y := by simpa using h5
  have hyx : ¬ y = x := fun e => hxy e.symm
  unfold swappedStores
  simp [hb, kx, ky, h4, e1, h8, h9, List.filterMap_cons]
  rw [if_neg]
  · simp [List.eraseDups_cons, hyx]
  · rintro (q | q)
    · clear h7 nb h8 h9 na
      cases a <;> first | (cases q; done) | (cases h6; done)
    · clear h6 na h8 h9 nb
      cases b <;> first | (cases q; done) | (cases h7; done)
theorem isAdd_ok {op : Operator} (h : isAdd op = true) : op = .Add := by
  cases op <;> first | rfl | cases h
theorem compS_succ (A : SOk cc cl F k wf n) (A0 : SOk cc.no cl F k wf n) {st : Stmt} {ir : IS} (c : SC cc cl F k X W sc) (h : compS cc (n + 1) sc st = some ir) : SS X cl W st (evS F wf ir) := by
  have E := all_ok (cc := cc) (cl := cl) (F := F) (k := k) n
  have ce := c.toEC
  have hu1 : X.A.units + 1 < cLine := by have := ce.hu; omega
  unfold compS at h
  split at h
  · split at h
    · rename_i hs
      simp only [Bool.and_eq_true] at hs
      simp only [Option.bind_eq_some_iff, Option.some.injEq] at h
      obtain ⟨x, e1, y, e2, rfl⟩ := h
      have hm := eq_of_beq hs.1.1.1
      subst hm
      exact ss_app (E.e ce e1) (E.e ce e2) (base_ok hs.1.1.2) hs.1.2 hs.2 rfl
    · simp only [Option.map_eq_some_iff] at h
      obtain ⟨x, e1, rfl⟩ := h
      exact ss_expr (E.e ce e1) rfl
  · split at h
    · cases h
    · rename_i hs
      simp only [Option.map_eq_some_iff] at h
      obtain ⟨x, e1, rfl⟩ := h
      exact ss_expr (E.e ce e1) (sw_no (by simpa using hs))
  · exact A.a c h
  · split at h
    · rename_i hs
      simp only [Option.bind_eq_some_iff] at h
      obtain ⟨i, e1, j, e2, h⟩ := h
      split at h
      · cases h
      · rename_i hij
        simp only [Option.bind_eq_some_iff, Option.some.injEq] at h
        obtain ⟨u, e3, v, e4, rfl⟩ := h
        have hp := hs
        unfold parOk at hs
        simp only [Bool.and_eq_true, Bool.not_eq_true'] at hs
        obtain ⟨h1, h2, h3, h4, h5, h6, h7, h8, h9⟩ := hs
        exact ss_par c.calm c.nd (by rw [c.n]; exact slotOf_ok e1) (by rw [c.n]; exact slotOf_ok e2) (by simpa using hij) (by rw [c.sc]; exact isLocal_ok h2) (by rw [c.sc]; exact isLocal_ok h3) (E.e ce e3) (E.e ce e4) h6 h7 (par_sw (by rw [c.sc]; exact hp))
    · cases h
  · split at h
    · cases h
    · rename_i hs
      simp only [Bool.or_eq_true, not_or, Bool.not_eq_true] at hs
      simp only [Option.bind_eq_some_iff, Option.some.injEq] at h
      obtain ⟨i, e0, j, e0', x, e1, y, e2, z, e3, rfl⟩ := h
      obtain ⟨h1, h2⟩ := fldOf_ok e0
      obtain ⟨h3, h4⟩ := fldOf_ok e0'
      exact ss_unpat c.calm h1 h3 h2 h4 (E.e ce e1) (E.e ce e2) (E.e ce e3) (sws_no hs.1) (ss_none (tup_m hs.2))
  · split at h
    · cases h
    · rename_i hs
      simp only [Bool.or_eq_true, not_or, Bool.not_eq_true] at hs
      simp only [Option.bind_eq_some_iff, Option.map_eq_some_iff] at h
      obtain ⟨t, e1, x, e2, rfl⟩ := h
      exact ss_asg (E.e ce e2) (c.tg e1) (sws_no hs.1) (ss_none (tup_m hs.2)) rfl
  · split at h
    · cases h
    · rename_i hs
      simp only [Option.bind_eq_some_iff, Option.some.injEq] at h
      obtain ⟨x, e1, l, e2, u, e3, z, e4, rfl⟩ := h
      exact ss_setsl (E.e ce e1) (E.o ce e2) (E.o ce e3) (E.e ce e4) (sw_no (by simpa using hs))
  · split at h
    · cases h
    · rename_i hs
      simp only [Bool.or_eq_true, not_or, Bool.not_eq_true] at hs
      simp only [Option.bind_eq_some_iff, Option.some.injEq] at h
      obtain ⟨x, e1, y, e2, z, e3, rfl⟩ := h
      refine ss_setix2 hu1 (E.e ce e3) (E.e ce e1) (E.e ce e2) (assign_sub hs.2) (sws_no hs.1) (ss_none ?_) rfl
      split
      · rename_i heq; cases heq
      · rename_i heq; cases heq
      · rfl
  · split at h
    · cases h
    · rename_i hs
      simp only [Option.bind_eq_some_iff, Option.some.injEq] at h
      obtain ⟨j, e0, x, e1, z, e2, rfl⟩ := h
      obtain ⟨h1, h2⟩ := fldOf_ok e0
      exact ss_setat h1 h2 (E.e ce e1) (E.e ce e2) (sw_no (by simpa using hs))
  · split at h
    · rename_i ho
      simp only [Option.bind_eq_some_iff, Option.map_eq_some_iff] at h
      obtain ⟨i, e0, x, e1, rfl⟩ := h
      obtain ⟨h1, h2⟩ := nm_ok e0
      refine ss_aug (isAdd_ok ho) c.nd (by rw [c.n]; exact h2) ?_ (E.e ce e1) (.inl (c.fn _))
      rw [c.sc]
      unfold isLoc at h1
      split at h1
      · exact .inl (by assumption)
      · exact .inr (by assumption)
      · cases h1
    · cases h
  · split at h
    · rename_i ho
      simp only [Option.bind_eq_some_iff, Option.some.injEq] at h
      obtain ⟨j, e0, x, e1, z, e2, rfl⟩ := h
      obtain ⟨h1, h2⟩ := fldOf_ok e0
      exact ss_augat (isAdd_ok ho) h1 h2 (E.e ce e1) (E.e ce e2)
    · cases h
  · simp only [Option.map_eq_some_iff] at h
    obtain ⟨x, e1, rfl⟩ := h
    exact ss_ret (E.e ce e1)
  · simp only [Option.bind_eq_some_iff, Option.some.injEq] at h
    obtain ⟨z, e1, x, e2, y, e3, rfl⟩ := h
    exact ss_if (E.t ce e1) (A.ss c e2) (A.ss c e3)
  · split at h
    · cases h
    · rename_i hs
      simp only [Option.bind_eq_some_iff, Option.some.injEq] at h
      obtain ⟨t, e1, it, e2, b, e3, rfl⟩ := h
      exact ss_for c.po c.calm (E.i ce e2) (c.tg e1) (A.ss c e3) (nofold (by simpa using hs))
  · simp only [Option.bind_eq_some_iff, Option.some.injEq] at h
    obtain ⟨z, e1, b, e2, rfl⟩ := h
    exact ss_while c.po (E.t ce e1) (A.ss c e2)
  · cases h; exact ss_pass
  · split at h
    · rename_i hs
      simp only [Bool.and_eq_true] at hs
      simp only [Option.bind_eq_some_iff] at h
      obtain ⟨cx, e1, h⟩ := h
      split at h
      · rename_i hlow
        cases h
        exact ss_raise (c.excs _ cx e1) hlow c.calm c.takes (ce.gl hs.1) (okName_ok hs.2).1
      · cases h
    · cases h
  · split at h
    · rename_i hs
      simp only [Bool.and_eq_true] at hs
      obtain ⟨⟨⟨⟨⟨h1, h2⟩, h3⟩, h4⟩, h5⟩, h6⟩ := hs
      have h1 := eq_of_beq h1
      subst h1
      simp only [Option.bind_eq_some_iff] at h
      obtain ⟨cx, e1, i, e2, j, e3, h⟩ := h
      split at h
      · cases h
      · rename_i hij
        simp only [Option.map_eq_some_iff] at h
        obtain ⟨b, e4, rfl⟩ := h
        obtain ⟨d1, d2, _⟩ := okName_ok h6
        exact ss_tryas c.sub (c.excs _ cx e1).g (ce.gl h2) (okName_ok h3).1 c.ex c.stk c.fr c.nd (by rw [c.n]; exact slotOf_ok e2) (by rw [c.n]; exact slotOf_ok e3) (by simpa using hij) (kind_of c h4) (kind_of c h5) c.takes d1 d2 fun W' pn xe tk po => A0.ss (c.tr tk po) e4
    · cases h
  · split at h
    · rename_i hs
      simp only [Bool.and_eq_true] at hs
      obtain ⟨⟨⟨⟨h1, h2⟩, h3⟩, h4⟩, h5⟩ := hs
      simp only [Option.bind_eq_some_iff, Option.map_eq_some_iff] at h
      obtain ⟨cx, e1, dx, e2, b, e3, rfl⟩ := h
      exact ss_tryr c.sub (c.excs _ cx e1).g (ce.gl h2) (okName_ok h3).1 (c.excs _ dx e2) (ce.gl h4) (okName_ok h5).1 c.stk c.fr (c.pa h1) c.takes fun W' pn xe tk po => A0.ss (c.tr tk po) e3
    · cases h
  · cases h
theorem compA_succ (A : SOk cc cl F k wf n) {x : Str} {p pos : Pos} {e : Expr} {ir : IS} (c : SC cc cl F k X W sc) (h : compA cc (n + 1) sc x p e = some ir) : SS X cl W (.Assign [.Name x p] e pos) (evS F wf ir) := by
  have E := all_ok (cc := cc) (cl := cl) (F := F) (k := k) n
  have ce := c.toEC
  unfold compA at h
  simp only [Option.bind_eq_some_iff] at h
  obtain ⟨t, e1, h⟩ := h
  have hg := c.tg e1
  split at h
  · split at h
    · rename_i hs
      simp only [Option.map_eq_some_iff] at h
      obtain ⟨y, e2, rfl⟩ := h
      obtain ⟨al, own, t', it, q, x', rfl, ok⟩ := E.lc ce e2
      simp only [Bool.or_eq_true] at hs
      rcases hs with hs | hs
      · unfold swOk at hs
        simp only [Bool.and_eq_true, Bool.not_eq_true'] at hs
        obtain ⟨⟨⟨h1, h2⟩, h3⟩, h4⟩ := hs
        have hk : X.env.scope.kind = .function := by
          rw [c.sc]
          split at h1
          · assumption
          · cases h1
        have hy : X.env.scope.names.lookup x = some .local := by
          rw [c.sc]
          split at h2
          · assumption
          · cases h2
        simp only [tgC, Option.map_eq_some_iff] at e1
        obtain ⟨i, e3, rfl⟩ := e1
        exact ss_asgLc c.tk c.calm c.nd (by rw [c.n]; exact (nm_ok e3).2) hy (sw_true hk hy h3 h4) ok.hi ok.ok ok.hg ok.ht ok.he ok.hf ok.hs
      · have hy : X.env.scope.names.lookup x = some .cell := by
          rw [c.sc]
          unfold isCell at hs
          split at hs
          · assumption
          · cases hs
        exact ss_asg (lc_se ce ok) hg (sws_cell hy) (ss_none rfl) rfl
    · cases h
  · split at h
    · cases h
    · rename_i hs
      simp only [Option.map_eq_some_iff] at h
      obtain ⟨y, e2, rfl⟩ := h
      refine ss_asg (E.e ce e2) hg (sws_no (by simpa using hs)) (ss_none ?_) rfl
      split
      · rename_i heq _ ; contradiction
      · rename_i heq _; contradiction
      · rfl
theorem sok_all : ∀ (n : Nat) (cc : CC), SOk cc cl F k wf n
  | 0, cc => ⟨fun _ h => by simp [compS] at h, fun _ h => by simp [compA] at h, fun _ h => by simp [compSs] at h⟩
  | n + 1, cc => ⟨fun c h => compS_succ (sok_all n cc) (sok_all n cc.no) c h, fun c h => compA_succ (sok_all n cc) c h, fun {X W sc st ir} c h => by
      unfold compSs at h
      split at h
      · cases h; exact sss_nil
      · simp only [Option.bind_eq_some_iff, Option.map_eq_some_iff] at h
        obtain ⟨x, e1, xs, e2, rfl⟩ := h
        exact sss_cons ((sok_all n cc).s c e1) ((sok_all n cc).ss c e2)⟩
end
end Gv

namespace Gv
open PySem PySem.Spec L2

/-- the text's own classes, by number -/
def clNames : List Str := ["GlowError", "NoFrame", "NoStand", "NoTick", "NoDeed", "Over", "Clash", "NoText", "NoScore", "NoFilm", "NoRow", "Beam", "Reel", "Desk"]
def clN (c : Nat) : Str := clNames.getD c ""
def clA (K : PySem.W.Frag) (c : Nat) : Addr := He.ga K (clN c)
/-- what the text has: its defs' names, its constants, its classes -/
structure Txt where
  fns : List (Str × Nat)
  cons : List (Str × PyData)
  clss : List (Str × Nat)
  excs : List (Str × Nat)
  tabs : List (Str × List (Str × PyData))
  meths : List (Nat × Nat × Nat)
  subs : List (Nat × Nat × Bool)
/-- one def, in both forms -/
structure DefG where
  d : He.DefD
  N : List Str
  ps : List Str
  als : List Pos
  tks : List Pos
  kill : List (Nat × List Nat)
  fn : Fn
def Txt.ccOf (t : Txt) (N : List Str) (als tks : List Pos) (kill : List (Nat × List Nat)) : CC := ⟨N, t.fns, t.cons, t.clss, t.excs, t.tabs, als, tks, kill, true⟩
def Txt.meth (t : Txt) (c m : Nat) : Option Nat := (t.meths.find? fun q => q.1 == c && q.2.1 == m).map (·.2.2)
def Txt.sub (t : Txt) (k c : Nat) : Option Bool := (t.subs.find? fun q => q.1 == k && q.2.1 == c).map (·.2.2)
theorem Txt.meth_ok {t : Txt} {c m f : Nat} (h : t.meth c m = some f) : (c, m, f) ∈ t.meths := by
  unfold Txt.meth at h
  simp only [Option.map_eq_some_iff] at h
  obtain ⟨q, e, rfl⟩ := h
  have h1 := List.find?_some e
  simp only [Bool.and_eq_true] at h1
  have h2 := List.mem_of_find?_eq_some e
  rw [← eq_of_beq h1.1, ← eq_of_beq h1.2]
  exact h2
theorem Txt.sub_ok {t : Txt} {k c : Nat} {b : Bool} (h : t.sub k c = some b) : (k, c, b) ∈ t.subs := by
  unfold Txt.sub at h
  simp only [Option.map_eq_some_iff] at h
  obtain ⟨q, e, rfl⟩ := h
  have h1 := List.find?_some e
  simp only [Bool.and_eq_true] at h1
  have h2 := List.mem_of_find?_eq_some e
  rw [← eq_of_beq h1.1, ← eq_of_beq h1.2]
  exact h2
def Txt.tab (t : Txt) (fn : List Fn) : Tab := ⟨fn, t.sub, t.meth⟩

/-- a def as it lies in the heap, and as the small language has it -/
def BodyOk (K : PySem.W.Frag) (t : Txt) (fn : List Fn) (i : Nat) (f : Addr) (fd : FuncData) (ps : List Str) : Prop :=
  ∃ (x qual : Str) (params : Arguments) (body : List Stmt) (scope : Scope) (N : List Str) (als tks : List Pos) (kill : List (Nat × List Nat)) (fuel : Nat) (g : Fn),
    FunD K x qual params body scope [] [] f fd ∧ FnScope N ps scope ∧ Binds K fd ps [] ∧ fn[i]? = some g ∧ g.ps = ps.length ∧ g.n = N.length ∧ compSs (t.ccOf N als tks kill) fuel scope body = some g.body
structure ExcK (K : PySem.W.Frag) (mg : Str → Option Value) (x : Str) (c : Nat) : Prop where
  g : mg x = some (.ref (clA K c))
  ex : PySem.W.excIn K (clA K c) He.veBase "ValueError.__new__" = true
  kp : PySem.W.keepIn K (.ref (clA K c)) = true
  su : PySem.W.subIn K (.ref (clA K c)) (.type "BaseException") = some true
  ty : PySem.W.typeIn K (.ref (clA K c)) = some (.type "type")
structure ProgOk (w : World) (K : PySem.W.Frag) (mg : Str → Option Value) (t : Txt) (fn : List Fn) : Prop where
  fns : ∀ (i : Nat) (x : Str) (n : Nat), t.fns[i]? = some (x, n) → ∃ f fd ps, mg x = some (.ref f) ∧ ps.length = n ∧ BodyOk K t fn i f fd ps
  mts : ∀ (c m f : Nat), t.meth c m = some f → ∃ fa fd ps, Meth K (clA K c) (methN m) fa ∧ BodyOk K t fn f fa fd ps
  mks : ∀ (x : Str) (c : Nat), t.clss.lookup x = some c → mg x = some (.ref (clA K c)) ∧ InsC K (clA K c) ∧ ∃ f fa fd ps, t.meth c 0 = some f ∧ L2.Mk K (clA K c) fa ∧ BodyOk K t fn f fa fd ps
  blt : ∀ x ∈ bNames, mg x = none
  cons : ∀ (x : Str) (d : PyData), t.cons.lookup x = some d → ∃ u v, mg x = some u ∧ RelV v u ∧ ∀ B r H, DR B r H v d
  excs : ∀ (x : Str) (c : Nat), t.excs.lookup x = some c → ExcK K mg x c
  tabs : ∀ (x : Str) (kvs : List (Str × PyData)), t.tabs.lookup x = some kvs → ∃ ad, mg x = some (.ref ad) ∧ KT K w ad kvs
  sub : SubOk K (clA K) t.sub
section
variable {P : Program} {w : World} {K : PySem.W.Frag} {mg : Str → Option Value} {base : Heap} {t : Txt} {fn : List Fn} {wf : Nat}
theorem callG_eq (T : Tab) (wf : Nat) : ∀ k, callG T wf (k + 1) = callF T wf k
  | 0 => rfl
  | k + 1 => rfl
theorem callF_succ (T : Tab) (wf k : Nat) : callF T wf (k + 2) = call1 T wf (callF T wf (k + 1)) (callF T wf k) := by
  show call1 T wf (callP T wf (k + 1)).1 (callP T wf (k + 1)).2 = _
  have e : (callP T wf (k + 1)).2 = callF T wf k := callG_eq T wf k
  rw [e]; rfl
theorem len_bad {i n : Nat} {g : Fn} {T : Tab} (hT : T.fn[i]? = some g) (e1 : g.ps = n) : ∀ (k : Nat) (vs : List Val) (M : Store), vs.length ≠ n → callF T wf k i vs M = .bad
  | 0, vs, M, h => rfl
  | 1, vs, M, h => rfl
  | k + 2, vs, M, h => by
    rw [callF_succ]
    unfold call1
    rw [hT]
    dsimp only
    rw [if_neg (by rw [e1]; exact h)]
/-- the callees keep their promises at level k -/
def AllFn (P : Program) (w : World) (K : PySem.W.Frag) (mg : Str → Option Value) (base : Heap) (t : Txt) (fn : List Fn) (wf k : Nat) : Prop :=
  ∀ (i : Nat) (f : Addr) (fd : FuncData) (ps : List Str), BodyOk K t fn i f fd ps → FnOk P w K mg base (CXb P w) k f fd ps (spF K (clA K) ps.length (callF (t.tab fn) wf k i))
theorem fn_no {i k : Nat} {f : Addr} {fd : FuncData} {ps : List Str} {g : List Val → Store → R Val} (hg : ∀ vs M, g vs M = .bad) : FnOk P w K mg base (CXb P w) k f fd ps (spF K (clA K) ps.length g) := by
  refine ⟨fun vs H Q E q => q.1, fun A outer s H args us vs Q E hr e0 hb' r q => ?_⟩
  obtain ⟨_, B, r', M, vs', R, hv, o⟩ := q
  rw [hg] at o
  exact o.elim
theorem prog_ok (p : ProgOk w K mg t fn) : ∀ k, AllFn P w K mg base t fn wf k
  | 0, i, f, fd, ps, hB => fn_no (i := 0) fun vs M => rfl
  | 1, i, f, fd, ps, hB => fn_no (i := 0) fun vs M => rfl
  | k + 2, i, f, fd, ps, hB => by
    have ih1 : AllFn P w K mg base t fn wf (k + 1) := prog_ok p (k + 1)
    have ih0 : AllFn P w K mg base t fn wf k := prog_ok p k
    obtain ⟨x, qual, params, body, scope, N, als, tks, kill, fuel, g, F, S, hbd, hT, e1, e3, hcmp⟩ := hB
    obtain ⟨oc, od, dV, kV, doc, pm, an, cdv, ct, osl, rfl, lk, hcd, _, _⟩ := F.ex
    rw [callF_succ]
    refine fn_ok (N := N) (kp := g.keep) (gb := evSs ⟨callF (t.tab fn) wf (k + 1), callF (t.tab fn) wf k, t.sub, t.meth⟩ wf g.body) lk hcd S (fun vs M hl => ?_) fun A outer s H E hr => ?_
    · show (match fn[i]? with
        | none => R.bad
        | some fn_1 => if vs.length = fn_1.ps then finB fn_1.keep M.length (evSs ⟨callF (t.tab fn) wf (k + 1), callF (t.tab fn) wf k, t.sub, t.meth⟩ wf fn_1.body (enter fn_1 vs) M) else .bad) = _
      rw [hT]
      dsimp only
      rw [if_pos (by rw [hl, e1])]
      unfold enter
      rw [e3]
    · refine (sok_all (k := k) fuel (t.ccOf N als tks kill)).ss ?_ hcmp
      exact {
        n := rfl
        nd := S.nd
        sc := rfl
        calm := rfl
        tk := Tk.of (takes_cx rfl rfl rfl rfl) rfl rfl
        room := hr
        blt := p.blt
        fns := fun i x n h => by
          obtain ⟨f, fd, ps, h1, h2, hB⟩ := p.fns i x n h
          have q := ih1 i f fd ps hB
          rw [h2] at q
          obtain ⟨x, qual, params, body, scope, N, als, tks, kill, fuel, g, F, S, hbd, _⟩ := hB
          exact ⟨f, fd, ps, h1, F.kp, hbd, q⟩
        cons := p.cons
        meths := fun c m f h => by
          obtain ⟨fa, fd, ps, h1, hB⟩ := p.mts c m f h
          have q := ih1 f fa fd ps hB
          obtain ⟨x, qual, params, body, scope, N, als, tks, kill, fuel, g, F, S, hbd, hT, e1, _⟩ := hB
          exact ⟨fa, fd, ps, h1, hbd, q, len_bad (T := t.tab fn) hT e1 (k + 1)⟩
        makes := fun x c h => by
          obtain ⟨h1, h2, f, fa, fd, ps, h3, h4, hB⟩ := p.mks x c h
          have q := ih0 f fa fd ps hB
          obtain ⟨x, qual, params, body, scope, N, als, tks, kill, fuel, g, F, S, hbd, hT, e1, _⟩ := hB
          exact ⟨h1, h2, f, fa, fd, ps, h3, h4, hbd, q, len_bad (T := t.tab fn) hT e1 k⟩
        excs := fun x c h => by
          obtain ⟨g, ex, kp, su, ty⟩ := p.excs x c h
          exact ⟨g, ex, kp, su, ty⟩
        tabs := p.tabs
        sub := p.sub
        po := passes_of rfl
        pa := fun _ hd => L2H.passesAt_of rfl hd
        fn := fun _ => rfl
        ex := rfl
        stk := rfl
        fr := rfl }
/-- what any world lets out of a def -/
def CXa (P : Program) : CXT := fun outer H s E u s' => ∃ w, CXb P w outer H s E u s'
theorem cr_any {f : Addr} {fd : FuncData} {k : Nat} {ps : List Str} {sp : Sp} (h : FnOk P w K mg base (CXb P w) k f fd ps sp) : FnOk P w K mg base (CXa P) k f fd ps sp := by
  refine ⟨h.len, fun A outer s H args us vs Q E hr e0 hb r q => codeAny_mono (h.run A outer s H args us vs Q E hr e0 hb r q) fun res s' hres => ?_⟩
  cases res with
  | error e => exact ⟨w, hres⟩
  | ok fl =>
    cases fl with
    | ret u => exact hres
    | next => exact hres
    | brk => exact hres
    | cont => exact hres
theorem cx_no (H : Hp) (s : Shared) (e : Value) (s' : Shared) (h : CXa P [] H s (fun _ _ _ => False) e s') : False := by
  obtain ⟨w, h⟩ := h
  rcases h with ⟨a, B, H', cls, d, h⟩ | ⟨a, B, H', cls, d, h⟩
  · obtain ⟨C, _, z⟩ := h.2.2.2.2.2.2.2
    exact z
  · obtain ⟨i, t, _, z⟩ := h.2.2.2.2.2.2.2
    exact z
theorem law_sp {cl : Nat → Addr} {n : Nat} {g : List Val → Store → R Val} (hg : ∀ ns : List Int, ns.length ≤ n → ∃ M', g [.scr ns] [] = .ok (.d (.bool true)) M') (H : Hp) (a : Addr) (ns : List Int) (hl : ns.length ≤ n) (hS : SqL K H a (ns.map V.int)) :
    spF K cl 1 g [.ref a] H (fun v _ => v = .bl true) (fun _ _ _ => False) := by
  refine ⟨rfl, [], [], [], [.scr ns], ⟨rfl, List.nodup_nil, fun a h => by simp at h, fun a h => by simp at h, fun n c a e => by simp at e⟩, .cons (.scr ?_) .nil, ?_⟩
  · rcases hS with h | h
    · exact .inl ⟨h, by simp, by simp⟩
    · exact .inr fun H' => .inr h
  · obtain ⟨M', e⟩ := hg ns hl
    rw [e]
    exact fun u H' r' g R v => v.bool
end
end Gv

namespace Gv
open PySem PySem.Spec L2

/-! ### what the head must say -/
def dvOf : PyData → He.Dv
  | .int i => .int i
  | .str z => .str z
  | .bool b => .bl b
  | _ => .non
def plainB : PyData → Bool
  | .int _ => true
  | .str _ => true
  | .bool _ => true
  | .none => true
  | _ => false
def conFa (q : Str × PyData) : He.Fa := match q.2 with
  | .int i => .int q.1 i
  | .str z => .str q.1 z
  | _ => .free ""
def conOk (q : Str × PyData) : Bool := match q.2 with
  | .int _ => true
  | .str _ => true
  | _ => false
def clsFa (p : Str × Nat) : List He.Fa := .glo p.1 :: .cls p.1 :: .mkr p.1 :: fldNames.map (.noat p.1)
def excFa (p : Str × Nat) : List He.Fa := [.glo p.1, .exc p.1]
def Txt.fa (t : Txt) : List He.Fa := t.fns.map (fun p => .glo p.1) ++ (bNames.map .free ++ (t.cons.map conFa ++ (t.clss.flatMap clsFa ++ (t.meths.map (fun q => .meth (clN q.1) (methN q.2.1)) ++ (t.excs.flatMap excFa ++ (t.subs.map (fun q => .exm (clN q.1) (clN q.2.1) q.2.2) ++ t.tabs.map (fun p => .glo p.1)))))))
def Txt.ts (t : Txt) : List He.Tab := (t.tabs.filter fun p => !sqB p.2).map fun p => ((fun K => He.ga K p.1), p.2.map (·.1))
def ecB (K : PySem.W.Frag) (D : Addr) : Bool := He.eqO (PySem.W.findIn K (.ref D) "__getattribute__") (some (some (.builtin "BaseException.__getattribute__"))) && (He.eqO (PySem.W.findIn K (.ref D) "__getattr__") (some none) && (decide (PySem.W.subIn K (.ref D) (.type "BaseException") = some true) && (PySem.W.hasDictIn K D && (He.eqO (PySem.W.findIn K (.ref D) "__class__") (some (some (.builtin "object.__class__"))) && (He.eqO (PySem.W.specialIn K (.builtin "object.__class__") "__get__") (some (some (.builtin "getset_descriptor.__get__"))) && (decide (PySem.W.takesIn K (.builtin "object.__class__") = some true) && (decide (PySem.W.mroIn K D (.type "object") = some true) && decide (PySem.W.kitOne K (.ref D) (.type "ValueError") = some true))))))))
theorem ecB_ok {K : PySem.W.Frag} {D : Addr} (h : ecB K D = true) : ExcC K D ∧ PySem.W.kitOne K (.ref D) (.type "ValueError") = some true := by
  obtain ⟨h1, h⟩ := He.ba h
  obtain ⟨h2, h⟩ := He.ba h
  obtain ⟨h3, h⟩ := He.ba h
  obtain ⟨h4, h⟩ := He.ba h
  obtain ⟨h5, h⟩ := He.ba h
  obtain ⟨h6, h⟩ := He.ba h
  obtain ⟨h7, h⟩ := He.ba h
  obtain ⟨h8, h9⟩ := He.ba h
  exact ⟨⟨He.eqO_ok h1, He.eqO_ok h2, of_decide_eq_true h3, h4, He.eqO_ok h5, He.eqO_ok h6, of_decide_eq_true h7, of_decide_eq_true h8⟩, of_decide_eq_true h9⟩
def exSub (K : PySem.W.Frag) (q : Nat × Nat × Bool) : Bool := decide (PySem.W.kitOne K (.ref (clA K q.1)) (.ref (clA K q.2.1)) = some q.2.2)
def strsB : List Value → List Str → Bool
  | [], [] => true
  | .str x _ :: us, k :: ks => decide (x = k) && strsB us ks
  | _, _ => false
theorem strsB_ok : ∀ {us : List Value} {ks : List Str}, strsB us ks = true → Vals (ks.map V.str) us
  | [], [], _ => .nil
  | [], _ :: _, h => by cases h
  | .str x t :: us, k :: ks, h => by
    obtain ⟨h1, h2⟩ := He.ba h
    rw [← of_decide_eq_true h1]
    exact .cons ⟨t, rfl⟩ (strsB_ok h2)
  | .str x t :: us, [], h => by cases h
  | .none :: _, _, h => by simp [strsB] at h
  | .bool _ :: _, _, h => by simp [strsB] at h
  | .int _ _ :: _, _, h => by simp [strsB] at h
  | .ref _ :: _, _, h => by simp [strsB] at h
  | .bytes _ _ :: _, _, h => by simp [strsB] at h
  | .float _ _ :: _, _, h => by simp [strsB] at h
  | .type _ :: _, _, h => by simp [strsB] at h
def exSq (K : PySem.W.Frag) (a : Addr) (ks : List Str) : Bool := match K.lookup a with
  | some o => decide (o.cls = .type "tuple") && (match o.data with | .seq its _ => decide (its.size ≤ sizeLine) && strsB its.toList ks | _ => false)
  | none => false
theorem exSq_ok {K : PySem.W.Frag} {a : Addr} {ks : List Str} (h : exSq K a ks = true) : KSq K a ks := by
  unfold exSq at h
  split at h
  · rename_i o eo
    obtain ⟨h1, h⟩ := He.ba h
    split at h
    · rename_i its n ed
      obtain ⟨h2, h3⟩ := He.ba h
      exact ⟨o, its, n, eo, of_decide_eq_true h1, ed, of_decide_eq_true h2, strsB_ok h3⟩
    · cases h
  · cases h
def exTab (K : PySem.W.Frag) (p : Str × List (Str × PyData)) : Bool := if sqB p.2 = true then exSq K (He.ga K p.1) (p.2.map (·.1)) else He.valsB K (He.ga K p.1) (p.2.map fun q => (q.1, dvOf q.2))
def exExc (K : PySem.W.Frag) (p : Str × Nat) : Bool := ecB K (clA K p.2)
def Txt.exB (t : Txt) (K : PySem.W.Frag) : Bool := t.tabs.all (exTab K) && (t.subs.all (exSub K) && (match t.subs with | [] => true | _ :: _ => t.excs.all (exExc K)))
/-- that the lists fit one another -/
def fnsB : List (Str × Nat) → List DefG → Bool
  | [], _ => true
  | (x, n) :: r, g :: gs => decide (g.d.at_ = (x, none)) && (decide (g.ps.length = n) && fnsB r gs)
  | _ :: _, [] => false
def methB (defs : List DefG) (q : Nat × Nat × Nat) : Bool := match defs[q.2.2]? with
  | some g => decide (g.d.at_ = (clN q.1, some (methN q.2.1)))
  | none => false
def clsB (t : Txt) (p : Str × Nat) : Bool := decide (p.1 = clN p.2) && (t.meth p.2 0).isSome
def Txt.ok (t : Txt) (defs : List DefG) : Bool := fnsB t.fns defs && (t.meths.all (methB defs) && (t.clss.all (clsB t) && (t.cons.all conOk && (t.excs.all (fun p => decide (p.1 = clN p.2)) && (t.tabs.all (fun p => sqB p.2 || p.2.all fun q => plainB q.2) && t.subs.all fun q => t.excs.any fun p => p.2 == q.1)))))
structure DefG.Ok (t : Txt) (g : DefG) : Prop where
  sc : FnScope g.N g.ps g.d.scope
  bd : ∀ (K : PySem.W.Frag) (f : Addr) (fd : FuncData), FunD K g.d.name g.d.qual g.d.params g.d.body g.d.scope [] [] f fd → Binds K fd g.ps []
  e1 : g.fn.ps = g.ps.length
  e3 : g.fn.n = g.N.length
  cmp : ∃ fuel, compSs (t.ccOf g.N g.als g.tks g.kill) fuel g.d.scope g.d.body = some g.fn.body
  df : g.d.dfl = []
  kw : g.d.kwd = []
theorem fnsB_ok : ∀ {l : List (Str × Nat)} {gs : List DefG}, fnsB l gs = true → ∀ (i : Nat) (x : Str) (n : Nat), l[i]? = some (x, n) → ∃ g, gs[i]? = some g ∧ g.d.at_ = (x, none) ∧ g.ps.length = n
  | [], _, _, i, x, n, e => by simp at e
  | (y, m) :: r, [], h, _, _, _, _ => by cases h
  | (y, m) :: r, g :: gs, h, 0, x, n, e => by
    obtain ⟨h1, h⟩ := He.ba h
    obtain ⟨h2, _⟩ := He.ba h
    simp at e
    obtain ⟨rfl, rfl⟩ := e
    exact ⟨g, rfl, of_decide_eq_true h1, of_decide_eq_true h2⟩
  | (y, m) :: r, g :: gs, h, i + 1, x, n, e => by
    obtain ⟨_, h⟩ := He.ba h
    obtain ⟨_, h⟩ := He.ba h
    have := fnsB_ok h i x n (by simpa using e)
    simpa using this
theorem lookup_mem' {α : Type} {x : Str} {d : α} : ∀ {l : List (Str × α)}, l.lookup x = some d → (x, d) ∈ l
  | [], h => by simp at h
  | (y, e) :: r, h => by
    rw [List.lookup_cons] at h
    by_cases q : x == y
    · simp only [q] at h
      cases h
      rw [eq_of_beq q]
      exact List.mem_cons_self
    · simp only [q] at h
      exact List.mem_cons_of_mem _ (lookup_mem' h)
section
variable {K : PySem.W.Frag} {w : World}
theorem find_keys {P : Params} {z : Str} : ∀ {l : List DictEntry} {ks : List Str}, l.map He.keyOf = He.keysIn P ks → (l.find? (·.key.isStr z)).isSome = hasK ks z ∧ l.any (·.refKey) = false
  | [], [], _ => ⟨rfl, rfl⟩
  | [], k :: ks, h => by cases h
  | e :: r, [], h => by cases h
  | e :: r, k :: ks, h => by
    have h1 : He.keyOf e :: r.map He.keyOf = some (k, PyData.keyHash P k) :: He.keysIn P ks := h
    injection h1 with h2 h3
    obtain ⟨i1, i2⟩ := find_keys (z := z) h3
    unfold He.keyOf at h2
    split at h2
    · rename_i x t q
      have h4 := Option.some.inj h2
      obtain ⟨h5, h6⟩ := Prod.mk.inj h4
      subst h5
      have e1 : e.key.isStr z = decide (x = z) := by
        rw [q]
        show (x == z) = _
        by_cases hz : x = z
        · subst hz; simp
        · simp [hz]
      have e2 : e.refKey = false := by unfold DictEntry.refKey; rw [q]
      refine ⟨?_, ?_⟩
      · rw [List.find?_cons, e1]
        unfold hasK
        rw [List.any_cons]
        by_cases hz : x = z
        · simp [hz]
        · simp only [hz, decide_false, Bool.false_or]
          exact i1
      · rw [List.any_cons, e2, i2]; rfl
    · cases h2
theorem dvOf_ok {d : PyData} (h : plainB d = true) (B r : List Addr) (H : Hp) : DR B r H ((dvOf d).v K) d := by
  cases d <;> first | exact .non | exact .bl _ | exact .int _ | exact .str _ | cases h
theorem ktab_of {a : Addr} {kvs : List (Str × PyData)} (h : He.dicW K a = some (He.keysIn w.params (kvs.map (·.1)))) (hv : He.valsB K a (kvs.map fun q => (q.1, dvOf q.2)) = true) (hp : kvs.all (fun q => plainB q.2) = true) : KTab K w a kvs := by
  obtain ⟨es, n, D⟩ := He.dicW_ok h
  refine ⟨⟨es, n, D⟩, fun z => ?_⟩
  have hk : es.toList.map He.keyOf = He.keysIn w.params (kvs.map (·.1)) := by
    unfold He.dicW at h
    rw [D.at_] at h
    dsimp only at h
    rw [D.low] at h
    simpa using h
  obtain ⟨k1, k2⟩ := find_keys (z := z) hk
  have hn : PySem.W.nsIn K a z = some ((es.toList.find? (·.key.isStr z)).map (·.val)) := by
    unfold PySem.W.nsIn
    rw [D.at_]
    dsimp only
    cases q : es.toList.find? (·.key.isStr z) with
    | none => simp only [k2]; rfl
    | some e => rfl
  refine ⟨_, hn, by rw [Option.isSome_map, k1], fun d hd => ?_⟩
  have hm := lookup_mem' hd
  obtain ⟨u, e1, e2⟩ := He.valsB_ok hv (q := (z, dvOf d)) (List.mem_map.mpr ⟨(z, d), hm, rfl⟩)
  rw [hn] at e1
  have e3 := Option.some.inj e1
  exact ⟨u, _, e3, e2, fun B r H => dvOf_ok (List.all_eq_true.mp hp (z, d) hm) B r H⟩
end
section
variable {w : World} {K : PySem.W.Frag} {mg : Str → Option Value} {h : Heap} {t : Txt} {defs : List DefG}
theorem body_of (c : He.SaysD t.fa (defs.map (·.d)) K) (dk : ∀ g ∈ defs, DefG.Ok t g) {i : Nat} {g : DefG} (hg : defs[i]? = some g) : ∃ fd, BodyOk K t (defs.map (·.fn)) i (He.fAd K g.d.at_) fd g.ps := by
  have hm := List.mem_of_getElem? hg
  have o := dk g hm
  obtain ⟨fd, F⟩ := c.defs (List.mem_map.mpr ⟨g, hm, rfl⟩ : g.d ∈ defs.map (·.d))
  have e1 : g.d.dvs K = [] := by unfold He.DefD.dvs; rw [o.df]; rfl
  have e2 : g.d.kws K = [] := by unfold He.DefD.kws; rw [o.kw]; rfl
  rw [e1, e2] at F
  obtain ⟨fuel, e⟩ := o.cmp
  exact ⟨fd, _, _, _, _, _, g.N, g.als, g.tks, g.kill, fuel, g.fn, F, o.sc, o.bd K _ fd F, by rw [List.getElem?_map, hg]; rfl, o.e1, o.e3, e⟩
theorem prog_of (X : K.In h) (G : h.Ns mainGlobals mg) (c : He.SaysX t.fa (defs.map (·.d)) t.ts [] t.exB w h K) (ok : t.ok defs = true) (dk : ∀ g ∈ defs, DefG.Ok t g) : ProgOk w K mg t (defs.map (·.fn)) := by
  have cd := c.t.d
  obtain ⟨o1, o⟩ := He.ba ok
  obtain ⟨o2, o⟩ := He.ba o
  obtain ⟨o3, o⟩ := He.ba o
  obtain ⟨o4, o⟩ := He.ba o
  obtain ⟨o5, o⟩ := He.ba o
  obtain ⟨o6, o7⟩ := He.ba o
  obtain ⟨x1, x⟩ := He.ba c.more
  obtain ⟨x2, x3⟩ := He.ba x
  have fG : ∀ {f : He.Fa}, f ∈ t.fa → f.ok K = true := fun m => cd.facts m
  have mts : ∀ (c m f : Nat), t.meth c m = some f → ∃ fa fd ps, Meth K (clA K c) (methN m) fa ∧ fa = He.ma K (clA K c) (methN m) ∧ BodyOk K t (defs.map (·.fn)) f fa fd ps := by
    intro c m f e
    have hm := Txt.meth_ok e
    have h1 := List.all_eq_true.mp o2 _ hm
    unfold methB at h1
    cases q : defs[f]? with
    | none => rw [q] at h1; cases h1
    | some g =>
      rw [q] at h1
      have h2 : g.d.at_ = (clN c, some (methN m)) := of_decide_eq_true h1
      obtain ⟨fd, hB⟩ := body_of cd dk q
      rw [h2] at hB
      exact ⟨_, fd, g.ps, He.meth_ok (fG (by unfold Txt.fa; simp only [List.mem_append]; exact .inr (.inr (.inr (.inr (.inl (List.mem_map.mpr ⟨_, hm, rfl⟩)))))) : (He.Fa.meth (clN c) (methN m)).ok K = true), rfl, hB⟩
  refine ⟨fun i x n e => ?_, fun c m f e => ?_, fun x c e => ?_, fun x hx => ?_, fun x d e => ?_, fun x c e => ?_, fun x kvs e => ?_, ?_⟩
  · obtain ⟨g, h1, h2, h3⟩ := fnsB_ok o1 i x n e
    obtain ⟨fd, hB⟩ := body_of cd dk h1
    rw [h2] at hB
    exact ⟨_, fd, g.ps, He.glo_ok X G (fG (by unfold Txt.fa; simp only [List.mem_append]; exact .inl (List.mem_map.mpr ⟨_, List.mem_of_getElem? e, rfl⟩))), h3, hB⟩
  · obtain ⟨fa, fd, ps, h1, _, h2⟩ := mts c m f e
    exact ⟨fa, fd, ps, h1, h2⟩
  · have hm := lookup_mem' e
    obtain ⟨k1, k2⟩ := He.ba (List.all_eq_true.mp o3 _ hm)
    have k3 : x = clN c := of_decide_eq_true k1
    subst k3
    have fC : ∀ f ∈ clsFa (clN c, c), f.ok K = true := fun f hf => fG (by unfold Txt.fa; simp only [List.mem_append]; exact .inr (.inr (.inr (.inl (List.mem_flatMap.mpr ⟨_, hm, hf⟩)))))
    refine ⟨He.glo_ok X G (fC _ List.mem_cons_self), ⟨He.cls_ok (fC _ (List.mem_cons_of_mem _ List.mem_cons_self)), fun j hj => He.noat_ok (fC _ ?_)⟩, ?_⟩
    · refine List.mem_cons_of_mem _ (List.mem_cons_of_mem _ (List.mem_cons_of_mem _ (List.mem_map.mpr ⟨_, ?_, rfl⟩)))
      unfold fldN
      rw [List.getD_eq_getElem?_getD, List.getElem?_eq_getElem (h := by exact hj)]
      exact List.getElem_mem _
    · cases q : t.meth c 0 with
      | none => rw [q] at k2; cases k2
      | some f =>
        obtain ⟨fa, fd, ps, h1, h2, hB⟩ := mts c 0 f q
        refine ⟨f, fa, fd, ps, rfl, ?_, hB⟩
        rw [h2]
        exact He.mkr_ok (fC _ (List.mem_cons_of_mem _ (List.mem_cons_of_mem _ List.mem_cons_self)))
  · exact He.free_ok X G (fG (by unfold Txt.fa; simp only [List.mem_append]; exact .inr (.inl (List.mem_map.mpr ⟨x, hx, rfl⟩))))
  · have hm := lookup_mem' e
    have hk := List.all_eq_true.mp o4 _ hm
    have hf : (conFa (x, d)).ok K = true := fG (by unfold Txt.fa; simp only [List.mem_append]; exact .inr (.inr (.inl (List.mem_map.mpr ⟨_, hm, rfl⟩))))
    cases d <;> first | cases hk | skip
    · obtain ⟨t, e⟩ := He.int_ok X G hf
      exact ⟨_, .int _, e, ⟨t, rfl⟩, fun _ _ _ => .int _⟩
    · obtain ⟨t, e⟩ := He.str_ok X G hf
      exact ⟨_, .str _, e, ⟨t, rfl⟩, fun _ _ _ => .str _⟩
  · have hm := lookup_mem' e
    have k3 : x = clN c := of_decide_eq_true (List.all_eq_true.mp o5 _ hm)
    subst k3
    have fC : ∀ f ∈ excFa (clN c, c), f.ok K = true := fun f hf => fG (by unfold Txt.fa; simp only [List.mem_append]; exact .inr (.inr (.inr (.inr (.inr (.inl (List.mem_flatMap.mpr ⟨_, hm, hf⟩)))))))
    obtain ⟨h1, h2, h3, h4⟩ := He.exc_ok (fC _ (List.mem_cons_of_mem _ List.mem_cons_self))
    exact ⟨He.glo_ok X G (fC _ List.mem_cons_self), h1, h2, h3, h4⟩
  · have hm := lookup_mem' e
    have hg := He.glo_ok X G (x := x) (fG (by unfold Txt.fa; simp only [List.mem_append]; exact .inr (.inr (.inr (.inr (.inr (.inr (.inr (List.mem_map.mpr ⟨_, hm, rfl⟩)))))))))
    have y1 : exTab K (x, kvs) = true := List.all_eq_true.mp x1 _ hm
    have y2 : (sqB kvs || kvs.all fun q => plainB q.2) = true := List.all_eq_true.mp o6 _ hm
    unfold exTab at y1
    dsimp only at y1
    refine ⟨_, hg, ?_⟩
    unfold KT
    by_cases sq : sqB kvs = true
    · rw [if_pos sq] at y1 ⊢
      exact exSq_ok y1
    rw [if_neg sq] at y1 ⊢
    have sq' : sqB kvs = false := by simpa using sq
    rw [sq', Bool.false_or] at y2
    have hm : (x, kvs) ∈ t.tabs.filter fun p => !sqB p.2 := List.mem_filter.mpr ⟨hm, by simp [sq']⟩
    refine ktab_of ?_ y1 y2
    have e0 : t.ts.map (fun t => He.dicW K (t.1 K)) = t.ts.map fun t => some (He.keysIn w.params t.2) := congrArg (fun z : He.AlT => z.2) c.t
    obtain ⟨i, hi⟩ := List.mem_iff_getElem?.mp hm
    have e2 : (t.ts.map fun t => He.dicW K (t.1 K))[i]? = (t.ts.map fun t => some (He.keysIn w.params t.2))[i]? := by rw [e0]
    unfold Txt.ts at e2
    simp only [List.getElem?_map, hi, Option.map_some] at e2
    exact Option.some.inj e2
  · have key : ∀ k c b, t.sub k c = some b → (k, c, b) ∈ t.subs ∧ ExcC K (clA K k) ∧ PySem.W.kitOne K (.ref (clA K k)) (.type "ValueError") = some true := by
      intro k c b e
      have hm := Txt.sub_ok e
      refine ⟨hm, ?_⟩
      have h1 := List.all_eq_true.mp o7 _ hm
      obtain ⟨p, hp, hk⟩ := List.any_eq_true.mp h1
      have x4 : t.excs.all (exExc K) = true := by
        cases q : t.subs with
        | nil => rw [q] at hm; cases hm
        | cons a b => rw [q] at x3; exact x3
      have h2 := List.all_eq_true.mp x4 _ hp
      have := ecB_ok h2
      rw [eq_of_beq hk] at this
      exact this
    refine ⟨fun k c b e => ?_, fun k c b e => ?_, fun k c b e => (key k c b e).2.2, fun k c b e => (key k c b e).2.1⟩
    · exact He.exm_ok (fG (f := He.Fa.exm (clN k) (clN c) b) (by unfold Txt.fa; simp only [List.mem_append]; exact .inr (.inr (.inr (.inr (.inr (.inr (.inl (List.mem_map.mpr ⟨_, (key k c b e).1, rfl⟩)))))))))
    · exact of_decide_eq_true (List.all_eq_true.mp x2 _ (key k c b e).1)
/-- the law's end -/
theorem law_end {P : Program} {i k wf : Nat} {fa : Addr} {g : DefG} (X : K.In h) (G : h.Ns mainGlobals mg) (hfa : mg ("law" : Str) = some (.ref fa)) (c : He.SaysX t.fa (defs.map (·.d)) t.ts [] t.exB w h K) (ok : t.ok defs = true) (dk : ∀ g ∈ defs, DefG.Ok t g)
    (hg : defs[i]? = some g) (hfn : t.fns[i]? = some (("law" : Str), 1)) (hps : g.ps = [("script" : Str)])
    (hbd : ∀ (K : PySem.W.Frag) (f : Addr) (fd : FuncData), FunD K g.d.name g.d.qual g.d.params g.d.body g.d.scope [] [] f fd → ∀ (s : Shared) (u : Value), BindsTo s fd ⟨[u], []⟩ [("script", u)])
    (main : ∀ ns : List Int, ns.length ≤ 63 → ∃ M', callF (t.tab (defs.map (·.fn))) wf k i [.scr ns] [] = .ok (.d (.bool true)) M') :
    ∃ (K' : PySem.W.Frag) (fd : FuncData) (sp : Sp), K'.In h ∧ (∀ (s : Shared) (u : Value), BindsTo s fd ⟨[u], []⟩ [("script", u)]) ∧
      (∀ (H : Hp) (a : Addr) (ns : List Int), ns.length ≤ 63 → Only H → SqL K' H a (ns.map V.int) → sp [.ref a] H (fun v _ => v = .bl true) fun _ _ _ => False) ∧
      ∀ base : Heap, K'.In base → base.Ns mainGlobals mg → FnOk P w K' mg base (CXa P) k fa fd ["script"] sp := by
  have p := prog_of X G c ok dk
  have cd := c.t.d
  obtain ⟨g', h1, h2, h3⟩ := fnsB_ok (He.ba ok).1 i "law" 1 hfn
  have eg : g' = g := Option.some.inj (h1.symm.trans hg)
  subst eg
  have hm := List.mem_of_getElem? hg
  have o := dk g' hm
  obtain ⟨fd, F⟩ := cd.defs (List.mem_map.mpr ⟨g', hm, rfl⟩ : g'.d ∈ defs.map (·.d))
  have e1 : g'.d.dvs K = [] := by unfold He.DefD.dvs; rw [o.df]; rfl
  have e2 : g'.d.kws K = [] := by unfold He.DefD.kws; rw [o.kw]; rfl
  rw [e1, e2] at F
  obtain ⟨fuel, e⟩ := o.cmp
  have hB : BodyOk K t (defs.map (·.fn)) i (He.fAd K g'.d.at_) fd g'.ps := ⟨_, _, _, _, _, g'.N, g'.als, g'.tks, g'.kill, fuel, g'.fn, F, o.sc, o.bd K _ fd F, by rw [List.getElem?_map, hg]; rfl, o.e1, o.e3, e⟩
  have hgl : mg ("law" : Str) = some (.ref (He.ga K "law")) := He.glo_ok X G (cd.facts (by unfold Txt.fa; simp only [List.mem_append]; exact .inl (List.mem_map.mpr ⟨_, List.mem_of_getElem? hfn, rfl⟩)))
  have efa : fa = He.ga K "law" := by
    have := hfa.symm.trans hgl
    cases this; rfl
  rw [h2, hps] at hB
  rw [efa]
  refine ⟨K, fd, spF K (clA K) 1 (callF (t.tab (defs.map (·.fn))) wf k i), X, hbd K _ fd F, fun H a ns hl _ hS => law_sp (cl := clA K) main H a ns hl hS, fun base _ _ => cr_any ?_⟩
  exact prog_ok p k i _ fd ["script"] hB
end
end Gv

namespace Gv
open PySem PySem.Spec L2
/-! the head's looks, part by part -/
theorem obs_app {n : Nat} {fa1 fa2 : List He.Fa} {fn1 fn2 : List He.DefD} {ts : List He.Tab} {tf : List He.Defn} {ex : PySem.W.Frag → Bool} {g : Addr → Option Obj} {w : World} (h1 : He.obsX n fa1 fn1 [] [] (fun _ => true) g = He.valX fn1 [] w) (h2 : He.obsX n fa2 fn2 ts tf ex g = He.valX fn2 ts w) :
    He.obsX n (fa1 ++ fa2) (fn1 ++ fn2) ts tf ex g = He.valX (fn1 ++ fn2) ts w := by
  unfold He.obsX He.valX He.obsT He.valT He.obsD He.valD at *
  simp only [Prod.mk.injEq] at h1 h2 ⊢
  obtain ⟨⟨⟨a1, a2⟩, _⟩, _⟩ := h1
  obtain ⟨⟨⟨b1, b2⟩, b3⟩, b4⟩ := h2
  refine ⟨⟨⟨?_, ?_⟩, b3⟩, b4⟩
  · simp only [Bool.and_eq_true] at a1 b1
    rw [List.all_append, List.all_append, a1.1, a1.2, b1.1, b1.2]; rfl
  · rw [List.map_append, List.map_append, a2, b2]
theorem map_app {o : Option PySem.W.SharedT} {n : Nat} {fa1 fa2 : List He.Fa} {fn1 fn2 : List He.DefD} {ts : List He.Tab} {tf : List He.Defn} {ex : PySem.W.Frag → Bool} {w : World} (h1 : o.map (fun s => He.obsX n fa1 fn1 [] [] (fun _ => true) (HandSHeadRun.getT s)) = some (He.valX fn1 [] w)) (h2 : o.map (fun s => He.obsX n fa2 fn2 ts tf ex (HandSHeadRun.getT s)) = some (He.valX fn2 ts w)) :
    o.map (fun s => He.obsX n (fa1 ++ fa2) (fn1 ++ fn2) ts tf ex (HandSHeadRun.getT s)) = some (He.valX (fn1 ++ fn2) ts w) := by
  cases o with
  | none => cases h1
  | some x =>
    simp only [Option.map_some, Option.some.injEq] at h1 h2 ⊢
    exact obs_app h1 h2
theorem map_three {α β γ δ : Type} {o : Option α} {f : α → β} {g : α → γ} {h : α → δ} {a : β} {b : γ} {c : δ} (h1 : o.map f = some a) (h2 : o.map g = some b) (h3 : o.map h = some c) : o.map (fun s => (f s, g s, h s)) = some (a, b, c) := by
  cases o with
  | none => cases h1
  | some x =>
    simp only [Option.map_some, Option.some.injEq] at h1 h2 h3 ⊢
    rw [h1, h2, h3]
end Gv

namespace Gv
open PySem PySem.Spec L2
/-! the head's looks at a given list of addresses -/
def obsL (as0 : List Addr) (fa : List He.Fa) (fn : List He.DefD) (ts : List He.Tab) (ex : PySem.W.Frag → Bool) (g : Addr → Option Obj) : He.AlX := (He.obsT fa fn ts (He.frT g as0), ex (He.frT g as0))
theorem saysL_of {as0 : List Addr} {fa : List He.Fa} {fn : List He.DefD} {ts : List He.Tab} {ex : PySem.W.Frag → Bool} {w : World} {h : Heap} (e : obsL as0 fa fn ts ex h.get? = He.valX fn ts w) : He.SaysX fa fn ts [] ex w h (He.frT h.get? as0) :=
  ⟨congrArg (fun z : He.AlX => z.1) e, congrArg (fun z : He.AlX => z.2) e, (fun _ h => nomatch h), (fun _ h => nomatch h), (fun _ h => nomatch h)⟩
def hookL (as0 : List Addr) (fa : List He.Fa) (fn : List He.DefD) (ts : List He.Tab) (ex : PySem.W.Frag → Bool) : PySem.W.Hook where
  α := He.AlX
  obs := fun s => obsL as0 fa fn ts ex s.heap.get?
  val := fun w => He.valX fn ts w
  says := fun w h => ∃ K : PySem.W.Frag, K.In h ∧ He.SaysX fa fn ts [] ex w h K
  of := fun _ _ e => ⟨_, He.frT_in, saysL_of e⟩
  keeps := fun _ _ _ ⟨K, hK, c⟩ k => ⟨K, PySem.W.Frag.In.keeps hK k, ⟨c.t, c.more, c.hd, c.out, fun p hp => k _ _ (c.empty p hp)⟩⟩
theorem obsL_eq {as0 : List Addr} {fa : List He.Fa} {fn : List He.DefD} {ts : List He.Tab} {ex : PySem.W.Frag → Bool} {g : Addr → Option Obj} {s : Shared} (h : ∀ a, g a = s.heap.get? a) : obsL as0 fa fn ts ex g = (hookL as0 fa fn ts ex).obs s := by
  have e : g = s.heap.get? := funext h
  rw [e] <;> rfl
theorem obsL_app {as0 : List Addr} {fa1 fa2 : List He.Fa} {fn1 fn2 : List He.DefD} {ts : List He.Tab} {ex : PySem.W.Frag → Bool} {g : Addr → Option Obj} {w : World} (h1 : obsL as0 fa1 fn1 [] (fun _ => true) g = He.valX fn1 [] w) (h2 : obsL as0 fa2 fn2 ts ex g = He.valX fn2 ts w) :
    obsL as0 (fa1 ++ fa2) (fn1 ++ fn2) ts ex g = He.valX (fn1 ++ fn2) ts w := by
  unfold obsL He.valX He.obsT He.valT He.obsD He.valD at *
  simp only [Prod.mk.injEq] at h1 h2 ⊢
  obtain ⟨⟨⟨a1, a2⟩, _⟩, _⟩ := h1
  obtain ⟨⟨⟨b1, b2⟩, b3⟩, b4⟩ := h2
  refine ⟨⟨⟨?_, ?_⟩, b3⟩, b4⟩
  · simp only [Bool.and_eq_true] at a1 b1
    rw [List.all_append, List.all_append, a1.1, a1.2, b1.1, b1.2]; rfl
  · rw [List.map_append, List.map_append, a2, b2]
theorem mapL_app {o : Option PySem.W.SharedT} {as0 : List Addr} {fa1 fa2 : List He.Fa} {fn1 fn2 : List He.DefD} {ts : List He.Tab} {ex : PySem.W.Frag → Bool} {w : World} (h1 : o.map (fun s => obsL as0 fa1 fn1 [] (fun _ => true) (HandSHeadRun.getT s)) = some (He.valX fn1 [] w)) (h2 : o.map (fun s => obsL as0 fa2 fn2 ts ex (HandSHeadRun.getT s)) = some (He.valX fn2 ts w)) :
    o.map (fun s => obsL as0 (fa1 ++ fa2) (fn1 ++ fn2) ts ex (HandSHeadRun.getT s)) = some (He.valX (fn1 ++ fn2) ts w) := by
  cases o with
  | none => cases h1
  | some x =>
    simp only [Option.map_some, Option.some.injEq] at h1 h2 ⊢
    exact obsL_app h1 h2
end Gv

namespace Gv
open PySem

theorem bind_k {α β : Type} (a : α) (M : Store) (f : α → Store → R β) : (R.ok a M).bind f = f a M := (rfl)
theorem toS_k (a : Val) (M : Store) (s : Slots) (f : Val → Store → SR) : (R.ok a M).toS s f = f a M := (rfl)
theorem ofOpt_k {α : Type} (a : α) (M : Store) : ofOpt (some a) M = .ok a M := (rfl)
/-! ### one expression at a time -/
section
variable {F : FEnv} {s : Slots} {M : Store}
def lcE (F : FEnv) (c e : IE) (tg : Tg) (s : Slots) (vs : List Val) (M : Store) : R (List Val) := lcL (evE F c) (evE F e) tg s vs M
def lcSE (F : FEnv) (c e : IE) (tg : Tg) (s : Slots) (J : Src) (M : Store) : R (List Val) := lcS (evE F c) (evE F e) tg s J M
theorem lcSE_vs {c e : IE} {tg : Tg} {l : List Val} : lcSE F c e tg s (.vs l) M = lcE F c e tg s l M := (rfl)
theorem ev_lit (x : PyData) : evE F (.lit x) s M = .ok (.d x) M := (rfl)
theorem ev_var (i : Nat) : evE F (.var i) s M = (match s[i]? with | some (some v) => .ok v M | _ => .bad) := (rfl)
theorem ev_bin (al : Bool) (op : Operator) (a b : IE) : evE F (.bin al op a b) s M = (evE F a s M).bind fun x M => (evE F b s M).bind fun y M => binD al M op x y := (rfl)
def negR (x : Val) (M : Store) : R Val := match x with | .d (.int i) => .ok (.d (.int (-i))) M | _ => .bad
theorem ev_neg (a : IE) : evE F (.neg a) s M = (evE F a s M).bind fun x M => negR x M := (rfl)
theorem negR_k {i : Int} : negR (.d (.int i)) M = .ok (.d (.int (-i))) M := (rfl)
def notR (x : Val) (M : Store) : R Val := match x with | .d (.bool b) => bl (!b) M | _ => .bad
theorem ev_not (a : IE) : evE F (.not a) s M = (evE F a s M).bind fun x M => notR x M := (rfl)
theorem notR_k {b : Bool} : notR (.d (.bool b)) M = bl (!b) M := (rfl)
theorem ev_and (a b : IE) : evE F (.and a b) s M = (evE F a s M).bind fun x M => brV x M (fun M => evE F b s M) (fun M => bl false M) := (rfl)
theorem ev_or (a b : IE) : evE F (.or a b) s M = (evE F a s M).bind fun x M => brV x M (fun M => bl true M) (fun M => evE F b s M) := (rfl)
theorem ev_cmp (op : CmpOp) (a b : IE) : evE F (.cmp op a b) s M = (evE F a s M).bind fun x M => (evE F b s M).bind fun y M => cmpD M op x y := (rfl)
theorem ev_chain (op op' : CmpOp) (a b c : IE) : evE F (.chain op op' a b c) s M = (evE F a s M).bind fun x M => (evE F b s M).bind fun y M => (cmpD M op x y).bind fun z M => brV z M (fun M => (evE F c s M).bind fun w M => cmpD M op' y w) (fun M => bl false M) := (rfl)
theorem ev_chain3 (op op' op2 : CmpOp) (a b c d : IE) : evE F (.chain3 op op' op2 a b c d) s M = (evE F a s M).bind fun x M => (evE F b s M).bind fun y M => (cmpD M op x y).bind fun z M => brV z M (fun M => (evE F c s M).bind fun w M => (cmpD M op' y w).bind fun z M => brV z M (fun M => (evE F d s M).bind fun u M => cmpD M op2 w u) (fun M => bl false M)) (fun M => bl false M) := (rfl)
theorem ev_ifx (c a b : IE) : evE F (.ifx c a b) s M = (evE F c s M).bind fun x M => brV x M (fun M => evE F a s M) (fun M => evE F b s M) := (rfl)
def tupR (o : Option (List PyData)) (vs : List Val) (M : Store) : R Val := match o with | some ds => .ok (.d (.tuple ds)) M | none => .ok (.ref M.length) (M ++ [.tup vs])
theorem ev_tup (es : List IE) : evE F (.tup es) s M = (evEs F es s M).bind fun vs M => tupR (allD vs) vs M := (rfl)
theorem tupR_k {ds : List PyData} {vs : List Val} : tupR (some ds) vs M = .ok (.d (.tuple ds)) M := (rfl)
theorem tupR_n {vs : List Val} : tupR none vs M = .ok (.ref M.length) (M ++ [.tup vs]) := (rfl)
theorem ev_lst (al : Bool) (es : List IE) : evE F (.lst al es) s M = (evEs F es s M).bind fun vs M => mkLV al vs M := (rfl)
theorem ev_idx (a i : IE) : evE F (.idx a i) s M = (evE F a s M).bind fun x M => (evE F i s M).bind fun y M => idxD M x y := (rfl)
def toIR (x : Val) (M : Store) : R Val := match x with | .d (.int i) => .ok (.d (.int i)) M | _ => .bad
theorem ev_toI (a : IE) : evE F (.toI a) s M = (evE F a s M).bind fun v M => toIR v M := (rfl)
theorem toIR_k {i : Int} : toIR (.d (.int i)) M = .ok (.d (.int i)) M := (rfl)
theorem ev_sl (al : Bool) (a lo hi : IE) : evE F (.sl al a lo hi) s M = (evE F a s M).bind fun x M => (evE F lo s M).bind fun l M => (ofOpt (part l) M).bind fun l M => (evE F hi s M).bind fun h M => (ofOpt (part h) M).bind fun h M => slD al M x l h := (rfl)
theorem ev_rev (al : Bool) (a : IE) : evE F (.rev al a) s M = (evE F a s M).bind fun x M => revD al M x := (rfl)
theorem ev_bi (al : Bool) (f : Bf) (es : List IE) : evE F (.bi al f es) s M = (evEs F es s M).bind fun vs M => biD al f vs M := (rfl)
def isiR (o : Option Bool) (M : Store) : R Val := match o with | some b => bl b M | none => .bad
theorem ev_isi (a : IE) (t : Ty) : evE F (.isi a t) s M = (evE F a s M).bind fun x M => isiR (isiD F.sub M x t) M := (rfl)
theorem isiR_k {b : Bool} : isiR (some b) M = bl b M := (rfl)
theorem ev_call (f : Nat) (es : List IE) : evE F (.call f es) s M = (evEs F es s M).bind fun vs M => callV F f vs M := (rfl)
theorem ev_lc (al : Bool) (own : List Nat) (tg : Tg) (it c e : IE) : evE F (.lc al own tg it c e) s M = (evI F it s M).bind fun vs M => (lcSE F c e tg (wipe s own) vs M).bind fun ys M => mkLV al ys M := (rfl)
theorem ev_mt (al : Bool) (m : Mt) (o : IE) (es : List IE) : evE F (.mt al m o es) s M = (evE F o s M).bind fun x M => if rcv M m x then (evEs F es s M).bind fun vs M => mtD al m x vs M else .bad := (rfl)
theorem ev_dct (tk : Bool) (es : List IE) : evE F (.dct tk es) s M = (evEs F es s (M ++ [.dct tk []])).bind fun vs M' => dctFin M.length tk vs M' := (rfl)
def attrS (o : Option (Nat × Nat × List (Nat × Val))) (f : Nat) (M : Store) : R Val := match o with
      | some (_, _, fs) => (match fs.lookup f with | some v => .ok v M | none => .bad)
      | none => .bad
theorem ev_attr (o : IE) (f : Nat) : evE F (.attr o f) s M = (evE F o s M).bind fun x M => attrS (insAt M x) f M := (rfl)
theorem attrS_k {a c f : Nat} {fs : List (Nat × Val)} {v : Val} (h : fs.lookup f = some v) : attrS (some (a, c, fs)) f M = .ok v M := by
  show (match fs.lookup f with | some v => R.ok v M | none => .bad) = _
  rw [h]
def methS (F : FEnv) (m : Nat) (o : Option (Nat × Nat × List (Nat × Val))) (g : Unit → R (List Val)) : R Val := match o with
      | some (a, c, _) => (match F.meth c m with
          | some f => (g ()).bind fun vs M => F.call f (.ref a :: vs) M
          | none => .bad)
      | none => .bad
theorem ev_meth (m : Nat) (o : IE) (es : List IE) : evE F (.meth m o es) s M = (evE F o s M).bind fun x M => methS F m (insAt M x) fun _ => evEs F es s M := (rfl)
theorem methS_k {m a c f : Nat} {fs : List (Nat × Val)} {g : Unit → R (List Val)} (h : F.meth c m = some f) : methS F m (some (a, c, fs)) g = (g ()).bind fun vs M => F.call f (.ref a :: vs) M := by
  show (match F.meth c m with | some f => (g ()).bind fun vs M => F.call f (.ref a :: vs) M | none => .bad) = _
  rw [h]
def makeS (F : FEnv) (o : Option Nat) (c : Nat) (vs : List Val) (M : Store) : R Val := match o with
      | some f => (F.call0 f (.ref M.length :: vs) (M ++ [.ins c []])).bind fun v M' => (match v with | .d .none => .ok (.ref M.length) M' | _ => .bad)
      | none => .bad
theorem ev_make (c : Nat) (es : List IE) : evE F (.make c es) s M = (evEs F es s M).bind fun vs M => makeS F (F.meth c 0) c vs M := (rfl)
theorem makeS_k {c f : Nat} {vs : List Val} {M' : Store} (h : F.call0 f (.ref M.length :: vs) (M ++ [.ins c []]) = .ok (.d .none) M') : makeS F (some f) c vs M = .ok (.ref M.length) M' := by
  show (F.call0 f (.ref M.length :: vs) (M ++ [.ins c []])).bind _ = _
  rw [h]; rfl
def orS (o : Option Bool) (x : Val) (M : Store) (g : Unit → R Val) : R Val := match o with
      | some true => .ok x M
      | some false => g ()
      | none => .bad
theorem ev_orT (a b : IE) : evE F (.orT a b) s M = (evE F a s M).bind fun x M => orS (truV M x) x M fun _ => evE F b s M := (rfl)
theorem orS_k (b : Bool) (x : Val) (g : Unit → R Val) : orS (some b) x M g = if b then .ok x M else g () := by cases b <;> rfl
def ginR (neg : Bool) (ks : List Str) (x : Val) (M : Store) : R Val := match x with | .d (.str z) => bl (if neg then !hasK ks z else hasK ks z) M | _ => .bad
theorem ev_gin (neg : Bool) (ks : List Str) (a : IE) : evE F (.gin neg ks a) s M = (evE F a s M).bind fun x M => ginR neg ks x M := (rfl)
theorem ginR_k {neg : Bool} {ks : List Str} {z : Str} : ginR neg ks (.d (.str z)) M = bl (if neg then !hasK ks z else hasK ks z) M := (rfl)
def ggetR (kvs : List (Str × PyData)) (x : Val) (M : Store) : R Val := match x with | .d (.str z) => (match kvs.lookup z with | some d => .ok (.d d) M | none => .bad) | _ => .bad
theorem ev_gget (kvs : List (Str × PyData)) (a : IE) : evE F (.gget kvs a) s M = (evE F a s M).bind fun x M => ggetR kvs x M := (rfl)
theorem ggetR_k {kvs : List (Str × PyData)} {z : Str} {d : PyData} (h : kvs.lookup z = some d) : ggetR kvs (.d (.str z)) M = .ok (.d d) M := by
  show (match kvs.lookup z with | some d => R.ok (Val.d d) M | none => .bad) = _
  rw [h]
def lrS (al : Bool) (o : Option (List PyData)) (M : Store) : R Val := match o with | some ds => mkL al ds M | none => .bad
theorem lrS_ok (al : Bool) (ds : List PyData) (M : Store) : lrS al (some ds) M = mkL al ds M := (rfl)
def trS (o : Option (List PyData)) (M : Store) : R Val := match o with | some ds => .ok (.d (.tuple ds)) M | none => .bad
theorem trS_ok (ds : List PyData) (M : Store) : trS (some ds) M = .ok (.d (.tuple ds)) M := (rfl)
theorem ev_trng (es : List IE) : evE F (.trng es) s M = (evEs F es s M).bind fun vs M => trS ((rngD vs).bind allD) M := (rfl)
theorem ev_lrng (al : Bool) (es : List IE) : evE F (.lrng al es) s M = (evEs F es s M).bind fun vs M => lrS al ((rngD vs).bind allD) M := (rfl)
theorem evs_nil : evEs F [] s M = .ok [] M := (rfl)
theorem evs_cons (e : IE) (es : List IE) : evEs F (e :: es) s M = (evE F e s M).bind fun v M => (evEs F es s M).bind fun vs M => .ok (v :: vs) M := (rfl)
theorem evi_rng (es : List IE) : evI F (.rng es) s M = (evEs F es s M).bind fun vs M => ofOpt ((rngD vs).map .vs) M := (rfl)
theorem evi_seq (a : IE) : evI F (.seq a) s M = (evE F a s M).bind fun v M => ofOpt ((seqD v).map .vs) M := (rfl)
theorem evi_cseq (en : Bool) (a : IE) : evI F (.cseq en a) s M = (evE F a s M).bind fun v M => srcC en v M := (rfl)
theorem evi_enum (a : IE) : evI F (.enum a) s M = (evE F a s M).bind fun v M => ofOpt ((enumD v).map .vs) M := (rfl)
theorem evi_zip (a b : IE) : evI F (.zip a b) s M = (evE F a s M).bind fun v M => (evE F b s M).bind fun w M => ofOpt (zipS M v w) M := (rfl)
/-- a slot -/
theorem slot_ok {v : Val} {i : Nat} (h : s[i]? = some (some v)) : evE F (.var i) s M = .ok v M := by rw [ev_var, h]
end
/-! ### operations, one by one -/
section
variable {M : Store} {al : Bool} {i j : Int} {a b : Bool} {x y : Val} {xs ys : List PyData} {z : Str}
theorem add_ii : binD al M .Add (.d (.int i)) (.d (.int j)) = .ok (.d (.int (i + j))) M := (rfl)
theorem sub_ii : binD al M .Sub (.d (.int i)) (.d (.int j)) = .ok (.d (.int (i - j))) M := (rfl)
theorem mul_ii (h : mulOk i j = true) : binD al M .Mult (.d (.int i)) (.d (.int j)) = .ok (.d (.int (i * j))) M := by
  show (if mulOk i j then R.ok (Val.d (.int (i * j))) M else .bad) = _
  rw [if_pos h]
theorem div_ii (h0 : 0 < j) (h1 : j < bigB) : binD al M .FloorDiv (.d (.int i)) (.d (.int j)) = .ok (.d (.int (i / j))) M := by
  show (if decide (0 < j) && decide (j < bigB) then R.ok (Val.d (.int (i / j))) M else .bad) = _
  rw [if_pos (by simp [h0, h1])]
theorem mod_ii (h0 : 0 < j) : binD al M .Mod (.d (.int i)) (.d (.int j)) = .ok (.d (.int (i % j))) M := by
  show (if 0 < j then R.ok (Val.d (.int (i % j))) M else .bad) = _
  rw [if_pos h0]
theorem pow_ii (h0 : 0 ≤ j) (h1 : j ≤ 1000) (h2 : i.natAbs ≤ 1000) : binD al M .Pow (.d (.int i)) (.d (.int j)) = .ok (.d (.int (i ^ j.toNat))) M := by
  show (if decide (0 ≤ j) && decide (j ≤ 1000) && decide (i.natAbs ≤ 1000) then R.ok (Val.d (.int (i ^ j.toNat))) M else .bad) = _
  rw [if_pos (by simp [h0, h1, h2])]
theorem add_tt (h : xs.length + ys.length ≤ lim) : binD al M .Add (.d (.tuple xs)) (.d (.tuple ys)) = .ok (.d (.tuple (xs ++ ys))) M := by
  show (if xs.length + ys.length ≤ lim then R.ok (Val.d (.tuple (xs ++ ys))) M else .bad) = _
  rw [if_pos h]
theorem add_ll (h : xs.length + ys.length ≤ lim) : binD al M .Add (.d (.list xs)) (.d (.list ys)) = mkL al (xs ++ ys) M := by
  show (if xs.length + ys.length ≤ lim then mkL al (xs ++ ys) M else .bad) = _
  rw [if_pos h]
theorem lt_ii : cmpD M .Lt (.d (.int i)) (.d (.int j)) = bl (decide (i < j)) M := (rfl)
theorem le_ii : cmpD M .LtE (.d (.int i)) (.d (.int j)) = bl (decide (i ≤ j)) M := (rfl)
theorem gt_ii : cmpD M .Gt (.d (.int i)) (.d (.int j)) = bl (decide (j < i)) M := (rfl)
theorem ge_ii : cmpD M .GtE (.d (.int i)) (.d (.int j)) = bl (decide (j ≤ i)) M := (rfl)
theorem eqD_int {M : Store} {a b : Int} : eqD M (.d (.int a)) (.d (.int b)) = some (decide (a = b)) := by
  simp [eqD, okD, PyData.eqv]
  exact Bool.beq_eq_decide_eq a b
theorem eq_ii : cmpD M .Eq (.d (.int i)) (.d (.int j)) = bl (decide (i = j)) M := by
  show (match eqD M (.d (.int i)) (.d (.int j)) with | some b => bl b M | none => .bad) = _
  rw [eqD_int]
theorem ne_ii : cmpD M .NotEq (.d (.int i)) (.d (.int j)) = bl (decide (¬ i = j)) M := by
  show (match eqD M (.d (.int i)) (.d (.int j)) with | some b => bl (!b) M | none => .bad) = _
  rw [eqD_int]
  simp
theorem is_none : cmpD M .Is x (.d .none) = bl (isNone x) M := by
  show (match x, (.d .none : Val) with | x, .d .none => bl (isNone x) M | .d (.bool a), .d (.bool b) => bl (decide (a = b)) M | _, _ => .bad) = _
  rfl
theorem isnot_none : cmpD M .IsNot x (.d .none) = bl (!isNone x) M := (rfl)
theorem is_bb : cmpD M .Is (.d (.bool a)) (.d (.bool b)) = bl (decide (a = b)) M := (rfl)
theorem isnot_bb : cmpD M .IsNot (.d (.bool a)) (.d (.bool b)) = bl (!decide (a = b)) M := (rfl)
theorem len_t : biD al .len [.d (.tuple xs)] M = .ok (.d (.int xs.length)) M := (rfl)
theorem len_l : biD al .len [.d (.list xs)] M = .ok (.d (.int xs.length)) M := (rfl)
theorem tuple_l : biD al .tuple [.d (.list xs)] M = .ok (.d (.tuple xs)) M := (rfl)
theorem tuple_t : biD al .tuple [.d (.tuple xs)] M = .ok (.d (.tuple xs)) M := (rfl)
theorem list_l : biD al .list [.d (.list xs)] M = mkL al xs M := (rfl)
theorem list_t : biD al .list [.d (.tuple xs)] M = mkL al xs M := (rfl)
theorem int_i : biD al .int [.d (.int i)] M = .ok (.d (.int i)) M := (rfl)
theorem int_b : biD al .int [.d (.bool a)] M = .ok (.d (.int (if a then 1 else 0))) M := (rfl)
theorem min_ii : biD al .min2 [.d (.int i), .d (.int j)] M = .ok (.d (.int (if j < i then j else i))) M := (rfl)
theorem max_ii : biD al .max2 [.d (.int i), .d (.int j)] M = .ok (.d (.int (if j > i then j else i))) M := (rfl)
theorem idx_t {v : PyData} (h : atI xs i = some v) : idxD M (.d (.tuple xs)) (.d (.int i)) = .ok (.d v) M := by
  show (match atI xs i with | some v => R.ok (Val.d v) M | none => .bad) = _
  rw [h]
theorem idx_l {v : PyData} (h : atI xs i = some v) : idxD M (.d (.list xs)) (.d (.int i)) = .ok (.d v) M := by
  show (match atI xs i with | some v => R.ok (Val.d v) M | none => .bad) = _
  rw [h]
theorem rev_t : revD al M (.d (.tuple xs)) = .ok (.d (.tuple xs.reverse)) M := (rfl)
theorem seq_l : seqD (.d (.list xs)) = some (xs.map .d) := (rfl)
theorem seq_t : seqD (.d (.tuple xs)) = some (xs.map .d) := (rfl)

theorem at_in {α : Type} {l : List α} {d : α} (h0 : 0 ≤ i) (h1 : i < l.length) : atI l i = some (l.getD i.toNat d) := by
  unfold atI ixN
  rw [if_pos h0, if_pos h1]
  have h3 : i.toNat < l.length := by omega
  simp [List.getElem?_eq_getElem, h3, List.getD_eq_getElem?_getD]
theorem at_neg {α : Type} {l : List α} {d : α} (h0 : i < 0) (h1 : -(l.length : Int) ≤ i) : atI l i = some (l.getD (i + l.length).toNat d) := by
  unfold atI ixN
  rw [if_neg (by omega), if_pos h1]
  have h3 : (i + l.length).toNat < l.length := by omega
  simp [List.getElem?_eq_getElem, h3, List.getD_eq_getElem?_getD]
end
/-! ### one statement at a time -/
section
variable {F : FEnv} {wf : Nat} {s : Slots} {M : Store} {r : List IS}
theorem ss0 : evSs F wf [] s M = .next s M := (rfl)
theorem ss_app0 (a b : List IS) (s : Slots) (M : Store) : evSs F wf (a ++ b) s M = (match evSs F wf a s M with | .next s1 M1 => evSs F wf b s1 M1 | x => x) := by
  induction a generalizing s M with
  | nil => rfl
  | cons st a ih =>
    show (match evS F wf st s M with | .next s1 M1 => evSs F wf (a ++ b) s1 M1 | x => x) = _
    show _ = (match (match evS F wf st s M with | .next s1 M1 => evSs F wf a s1 M1 | x => x) with | .next s1 M1 => evSs F wf b s1 M1 | x => x)
    cases evS F wf st s M with
    | next s1 M1 => exact ih s1 M1
    | _ => rfl
def cont (F : FEnv) (wf : Nat) (r : List IS) (x : SR) : SR := match x with | .next s1 M1 => evSs F wf r s1 M1 | x => x
theorem cont_next (s : Slots) (M : Store) : cont F wf r (.next s M) = evSs F wf r s M := (rfl)
theorem cont_ret (v : Val) (M : Store) : cont F wf r (.ret v M) = .ret v M := (rfl)
theorem cont_exc (c : Nat) (s : Slots) (M : Store) : cont F wf r (.exc c s M) = .exc c s M := (rfl)
theorem ss_asg1 (t : Tg) (e : IE) : evSs F wf (.asg t e :: r) s M = (evE F e s M).toS s fun v M => (match asgT t v s with | some s' => evSs F wf r s' M | none => .bad) := by
  show (match (evE F e s M).toS s (fun v M => (match asgT t v s with | some s' => SR.next s' M | none => .bad)) with | .next s1 M1 => evSs F wf r s1 M1 | x => x) = _
  cases evE F e s M with
  | ok v M1 =>
    simp only [R.toS_ok]
    cases asgT t v s <;> rfl
  | exc c M1 => rfl
  | bad => rfl
theorem ss_expr1 (e : IE) : evSs F wf (.expr e :: r) s M = (evE F e s M).toS s fun _ M => evSs F wf r s M := by
  show (match (evE F e s M).toS s (fun v M => SR.next s M) with | .next s1 M1 => evSs F wf r s1 M1 | x => x) = _
  cases evE F e s M <;> rfl
theorem ss_ret1 (e : IE) : evSs F wf (.ret e :: r) s M = (evE F e s M).toS s fun v M => .ret v M := by
  show (match (evE F e s M).toS s (fun v M => SR.ret v M) with | .next s1 M1 => evSs F wf r s1 M1 | x => x) = _
  cases evE F e s M <;> rfl
def brS (F : FEnv) (wf : Nat) (a b : List IS) (s : Slots) (x : Val) (M : Store) : SR := match x with | .d (.bool true) => evSs F wf a s M | .d (.bool false) => evSs F wf b s M | _ => .bad
theorem ss_ite1 (c : IE) (a b : List IS) : evSs F wf (.ite c a b :: r) s M = (evE F c s M).toS s fun x M => brS F wf (a ++ r) (b ++ r) s x M := by
  show (match (evE F c s M).toS s (fun x M => (match x with | .d (.bool true) => evSs F wf a s M | .d (.bool false) => evSs F wf b s M | _ => .bad)) with | .next s1 M1 => evSs F wf r s1 M1 | x => x) = _
  cases evE F c s M with
  | exc c M1 => rfl
  | bad => rfl
  | ok v M1 =>
    cases v with
    | d y =>
      cases y with
      | bool q => cases q <;> (simp only [R.toS_ok, brS]; rw [ss_app0])
      | _ => rfl
    | _ => rfl
theorem brS_dec {p : Prop} [Decidable p] {a b : List IS} : brS F wf a b s (.d (.bool (decide p))) M = if p then evSs F wf a s M else evSs F wf b s M := by
  by_cases h : p <;> simp [h, brS]
theorem brS_b {x : Bool} {a b : List IS} : brS F wf a b s (.d (.bool x)) M = if x then evSs F wf a s M else evSs F wf b s M := by cases x <;> rfl
theorem brS_T {a b : List IS} : brS F wf a b s (.d (.bool true)) M = evSs F wf a s M := (rfl)
theorem brS_F {a b : List IS} : brS F wf a b s (.d (.bool false)) M = evSs F wf b s M := (rfl)
theorem ss_setix1 (o i e : IE) : evSs F wf (.setix o i e :: r) s M = (evE F e s M).toS s fun v M => (evE F o s M).toS s fun x M => (evE F i s M).toS s fun y M => (setD M x y v).toS s fun _ M => evSs F wf r s M := by
  show cont F wf r (evS F wf (.setix o i e) s M) = _
  unfold evS
  cases evE F e s M with
  | exc c M1 => rfl
  | bad => rfl
  | ok v M1 =>
    simp only [R.toS_ok]
    cases evE F o s M1 with
    | exc c M1 => rfl
    | bad => rfl
    | ok x M2 =>
      simp only [R.toS_ok]
      cases evE F i s M2 with
      | exc c M1 => rfl
      | bad => rfl
      | ok y M3 =>
        simp only [R.toS_ok]
        cases setD M3 x y v <;> rfl
theorem ss_unpat1 (o q : IE) (f g : Nat) (e : IE) : evSs F wf (.unpat o q f g e :: r) s M = (evE F e s M).toS s fun v M => (match v with
      | .d (.tuple [u, w]) => (evE F o s M).toS s fun x M => (putAt M x f (.d u)).toS s fun _ M => (evE F q s M).toS s fun y M => (putAt M y g (.d w)).toS s fun _ M => evSs F wf r s M
      | _ => .bad) := by
  show cont F wf r (evS F wf (.unpat o q f g e) s M) = _
  unfold evS
  cases evE F e s M with
  | exc c M1 => rfl
  | bad => rfl
  | ok v M1 =>
    simp only [R.toS_ok]
    split
    · rename_i u w
      cases evE F o s M1 with
      | exc c M1 => rfl
      | bad => rfl
      | ok x M2 =>
        simp only [R.toS_ok]
        cases putAt M2 x f (.d u) with
        | exc c M1 => rfl
        | bad => rfl
        | ok _ M3 =>
          simp only [R.toS_ok]
          cases evE F q s M3 with
          | exc c M1 => rfl
          | bad => rfl
          | ok y M4 =>
            simp only [R.toS_ok]
            cases putAt M4 y g (.d w) <;> rfl
    · rename_i hno
      first
        | rfl
        | (split
           · rename_i u w
             exact (hno u w rfl).elim
           · rfl)
theorem ss_setat1 (o : IE) (f : Nat) (e : IE) : evSs F wf (.setat o f e :: r) s M = (evE F e s M).toS s fun v M => (evE F o s M).toS s fun x M => (putAt M x f v).toS s fun _ M => evSs F wf r s M := by
  show cont F wf r (evS F wf (.setat o f e) s M) = _
  unfold evS
  cases evE F e s M with
  | exc c M1 => rfl
  | bad => rfl
  | ok v M1 =>
    simp only [R.toS_ok]
    cases evE F o s M1 with
    | exc c M1 => rfl
    | bad => rfl
    | ok x M2 =>
      simp only [R.toS_ok]
      cases putAt M2 x f v <;> rfl
theorem ss_aug1 (i : Nat) (op : Operator) (e : IE) : evSs F wf (.aug i op e :: r) s M = (match s[i]? with
      | some (some x) => (evE F e s M).toS s fun y M => (augD M op x y).toS s fun z M => evSs F wf r (s.set i (some z)) M
      | _ => .bad) := by
  show cont F wf r (evS F wf (.aug i op e) s M) = _
  unfold evS
  cases s[i]? with
  | none => rfl
  | some o =>
    cases o with
    | none => rfl
    | some x =>
      dsimp only
      cases evE F e s M with
      | exc c M1 => rfl
      | bad => rfl
      | ok y M1 =>
        simp only [R.toS_ok]
        cases augD M1 op x y <;> rfl
theorem ss_rais1 (c : Nat) : evSs F wf (.rais c :: r) s M = .exc c s M := (rfl)
theorem ss_pass1 : evSs F wf (.pass :: r) s M = evSs F wf r s M := (rfl)
/-- what a try makes of its body's end -/
def tryS (F : FEnv) (c i j : Nat) (x : SR) : SR := match x with
  | .exc k s1 M1 => (match F.sub (bsc k) c with
    | some true => .next ((s1.set j (some (.exc (bsc k)))).set i none) M1
    | some false => .exc (bsc k + 100) s1 M1
    | none => .bad)
  | r => r
def trrS (F : FEnv) (c d : Nat) (x : SR) : SR := match x with
  | .exc k s1 M1 => if k < 100 then (match F.sub k c with
    | some true => .exc (d + 100) s1 M1
    | _ => .bad) else .bad
  | r => r
theorem ss_tryr1 (b : List IS) (c d : Nat) : evSs F wf (.tryr b c d :: r) s M = cont F wf r (trrS F c d (evSs F wf b s M)) := by
  show cont F wf r (evS F wf (.tryr b c d) s M) = _
  unfold evS
  cases evSs F wf b s M <;> rfl
theorem trrS_next (c d : Nat) (s : Slots) (M : Store) : trrS F c d (.next s M) = .next s M := (rfl)
theorem trrS_ret (c d : Nat) (v : Val) (M : Store) : trrS F c d (.ret v M) = .ret v M := (rfl)
theorem trrS_exc {k c d : Nat} {s : Slots} {M : Store} (h : F.sub k c = some true) (hk : k < 100 := by decide) : trrS F c d (.exc k s M) = .exc (d + 100) s M := by
  show (if k < 100 then (match F.sub k c with
    | some true => SR.exc (d + 100) s M
    | _ => .bad) else .bad) = _
  rw [if_pos hk, h]
theorem ss_try1 (b : List IS) (c i j : Nat) : evSs F wf (.tryas b c i j :: r) s M = cont F wf r (tryS F c i j (evSs F wf b s M)) := by
  show cont F wf r (evS F wf (.tryas b c i j) s M) = _
  unfold evS
  cases evSs F wf b s M <;> rfl
theorem tryS_next (c i j : Nat) (s : Slots) (M : Store) : tryS F c i j (.next s M) = .next s M := (rfl)
theorem tryS_ret (c i j : Nat) (v : Val) (M : Store) : tryS F c i j (.ret v M) = .ret v M := (rfl)
theorem tryS_exc {k c i j : Nat} {s : Slots} {M : Store} (h : F.sub k c = some true) (hk : k < 100 := by decide) : tryS F c i j (.exc k s M) = .next ((s.set j (some (.exc k))).set i none) M := by
  show (match F.sub (bsc k) c with
    | some true => SR.next ((s.set j (some (.exc (bsc k)))).set i none) M
    | some false => .exc (bsc k + 100) s M
    | none => .bad) = _
  rw [show bsc k = k from if_pos hk, h]
theorem tryS_late {k c i j : Nat} {s : Slots} {M : Store} (h : F.sub k c = some true) : tryS F c i j (.exc (k + 100) s M) = .next ((s.set j (some (.exc k))).set i none) M := by
  show (match F.sub (bsc (k + 100)) c with
    | some true => SR.next ((s.set j (some (.exc (bsc (k + 100))))).set i none) M
    | some false => .exc (bsc (k + 100) + 100) s M
    | none => .bad) = _
  rw [show bsc (k + 100) = k from by unfold bsc; rw [if_neg (by omega)]; omega, h]
def forS (F : FEnv) (wf : Nat) (r : List IS) (t : Tg) (b : List IS) (kl : List Nat) (s : Slots) (x : R Src) : SR := match x with
      | .ok vs M => cont F wf r (forT (evSs F wf b) t kl vs (wipe s kl) M)
      | .exc c M => .exc c s M
      | .bad => .bad
theorem forS_ok (t : Tg) (b : List IS) (kl : List Nat) (vs : Src) : forS F wf r t b kl s (.ok vs M) = cont F wf r (forT (evSs F wf b) t kl vs (wipe s kl) M) := (rfl)
theorem forT_vs {body : Slots → Store → SR} {tg : Tg} {kl : List Nat} {l : List Val} : forT body tg kl (.vs l) s M = forL body tg kl l s M := (rfl)
theorem ss_for1 (t : Tg) (it : IE) (b : List IS) (kl : List Nat) : evSs F wf (.forr t it b kl :: r) s M = forS F wf r t b kl s (evI F it s M) := by
  show cont F wf r (evS F wf (.forr t it b kl) s M) = _
  unfold evS
  cases evI F it s M <;> rfl
end
theorem brV_dec {p : Prop} [Decidable p] {M : Store} {f g : Store → R Val} : brV (.d (.bool (decide p))) M f g = if p then f M else g M := by
  by_cases h : p <;> simp [h, brV]
theorem brV_b {b : Bool} {M : Store} {f g : Store → R Val} : brV (.d (.bool b)) M f g = if b then f M else g M := by cases b <;> rfl
theorem brV_T {M : Store} {f g : Store → R Val} : brV (.d (.bool true)) M f g = f M := (rfl)
theorem brV_F {M : Store} {f g : Store → R Val} : brV (.d (.bool false)) M f g = g M := (rfl)
theorem bind_ite {α β : Type} {p : Prop} [Decidable p] {a b : R α} {f : α → Store → R β} : (if p then a else b).bind f = if p then a.bind f else b.bind f := by
  by_cases h : p <;> simp [h]
theorem toS_ite {p : Prop} [Decidable p] {a b : R Val} {s : Slots} {f : Val → Store → SR} : (if p then a else b).toS s f = if p then a.toS s f else b.toS s f := by
  by_cases h : p <;> simp [h]
theorem or_dec {p q : Prop} [Decidable p] [Decidable q] {M : Store} : (if p then bl true M else bl (decide q) M) = bl (decide (p ∨ q)) M := by
  by_cases h : p <;> simp [h]
theorem and_dec {p q : Prop} [Decidable p] [Decidable q] {M : Store} : (if p then bl (decide q) M else bl false M) = bl (decide (p ∧ q)) M := by
  by_cases h : p <;> simp [h]
theorem bl_bind {β : Type} {b : Bool} {M : Store} {f : Val → Store → R β} : (bl b M).bind f = f (.d (.bool b)) M := (rfl)
theorem bl_toS {b : Bool} {M : Store} {s : Slots} {f : Val → Store → SR} : (bl b M).toS s f = f (.d (.bool b)) M := (rfl)
theorem not_dec {p : Prop} [Decidable p] : (!decide p) = decide (¬ p) := by simp
theorem fin_ret (n0 : Nat) (v : Val) (M : Store) : fin n0 (.ret v M) = exitV n0 v M := (rfl)
theorem fin_exc (n0 c : Nat) (s : Slots) (M : Store) : fin n0 (.exc c s M) = exitX n0 c M := (rfl)
theorem exitX_same {n0 c : Nat} {M : Store} (h : M.length = n0) : exitX n0 c M = .exc c M := by
  unfold exitX
  subst h
  simp
theorem fin_next (n0 : Nat) (s : Slots) (M : Store) : fin n0 (.next s M) = exitV n0 (.d .none) M := (rfl)
theorem exit_same {n0 : Nat} {x : PyData} {M : Store} (h : M.length = n0) : exitV n0 (.d x) M = .ok (.d x) M := by
  unfold exitV
  subst h
  simp
theorem asg_one (i : Nat) (v : Val) (s : Slots) : asgT (.one i) v s = some (s.set i (some v)) := (rfl)
theorem asg_many (is : List Nat) (xs : List PyData) (s : Slots) : asgT (.many is) (.d (.tuple xs)) s = setAll is (xs.map .d) s := (rfl)
theorem setAll_n (s : Slots) : setAll [] (([] : List PyData).map .d) s = some s := (rfl)
theorem setAll_c (i : Nat) (is : List Nat) (x : PyData) (xs : List PyData) (s : Slots) : setAll (i :: is) ((x :: xs).map .d) s = setAll is (xs.map .d) (s.set i (some (.d x))) := (rfl)
theorem setD_l {M : Store} {a : Nat} {vs : List Val} {k : Int} {v : Val} {j : Nat} (h1 : M[a]? = some (.lst vs)) (h2 : ixN vs.length k = some j) : setD M (.ref a) (.d (.int k)) v = .ok (.d .none) (M.set a (.lst (vs.set j v))) := by
  unfold setD
  dsimp only
  rw [h1]
  dsimp only
  rw [h2]
theorem wipe_n (s : Slots) : wipe s [] = s := (rfl)
theorem wipe_c (s : Slots) (v : Nat) (vs : List Nat) : wipe s (v :: vs) = (wipe s vs).set v none := (rfl)
theorem exit_any (n0 : Nat) (x : PyData) (M : Store) : ∃ M', exitV n0 (.d x) M = .ok (.d x) M' := by
  unfold exitV
  by_cases h : (M.take n0).all (Cell.below n0) = true
  · rw [if_pos h]
    exact ⟨_, rfl⟩
  · rw [if_neg h]
    exact ⟨_, rfl⟩
theorem call_fn {T : Tab} {wf k f : Nat} {vs : List Val} {M : Store} {fn : Fn} (h : T.fn[f]? = some fn) (hl : vs.length = fn.ps) (hk : fn.keep = false := by rfl) :
    callF T wf (k + 2) f vs M = fin M.length (evSs ⟨callF T wf (k + 1), callF T wf k, T.sub, T.meth⟩ wf fn.body (enter fn vs) M) := by
  rw [callF_succ]
  show (match T.fn[f]? with | none => R.bad | some fn => if vs.length = fn.ps then finB fn.keep M.length (evSs ⟨callF T wf (k + 1), callF T wf k, T.sub, T.meth⟩ wf fn.body (enter fn vs) M) else .bad) = _
  rw [h]
  dsimp only
  rw [if_pos hl, hk]
  rfl
theorem call_fnK {T : Tab} {wf k f : Nat} {vs : List Val} {M : Store} {fn : Fn} (h : T.fn[f]? = some fn) (hl : vs.length = fn.ps) (hk : fn.keep = true := by rfl) :
    callF T wf (k + 2) f vs M = finK (evSs ⟨callF T wf (k + 1), callF T wf k, T.sub, T.meth⟩ wf fn.body (enter fn vs) M) := by
  rw [callF_succ]
  show (match T.fn[f]? with | none => R.bad | some fn => if vs.length = fn.ps then finB fn.keep M.length (evSs ⟨callF T wf (k + 1), callF T wf k, T.sub, T.meth⟩ wf fn.body (enter fn vs) M) else .bad) = _
  rw [h]
  dsimp only
  rw [if_pos hl, hk]
  rfl
theorem finK_ret (v : Val) (M : Store) : finK (.ret v M) = .ok v M := (rfl)
/-- a call with data alone -/
theorem callV_d {F : FEnv} {f : Nat} {ds : List PyData} {M : Store} {d : PyData} (h : F.call f (ds.map .d) [] = .ok (.d d) []) : callV F f (ds.map .d) M = .ok (.d d) M := by
  unfold callV
  rw [allD_map]
  simp only [h, Val.shift, List.map_nil, List.append_nil]
theorem lc_map {cond elt : Slots → Store → R Val} {s : Slots} {i : Nat} {M : Store} {f : Val → Val} : ∀ {vs : List Val}, (∀ v ∈ vs, cond (s.set i (some v)) M = .ok (.d (.bool true)) M) → (∀ v ∈ vs, elt (s.set i (some v)) M = .ok (f v) M) → lcL cond elt (.one i) s vs M = .ok (vs.map f) M
  | [], _, _ => rfl
  | v :: vs, h1, h2 => by
    unfold lcL
    simp only [asgT]
    rw [h1 v (by simp)]
    dsimp only
    rw [h2 v (by simp)]
    simp only [R.noexc_ok, R.bind_ok]
    rw [lc_map (fun w hw => h1 w (by simp [hw])) (fun w hw => h2 w (by simp [hw]))]
    rfl
theorem lc_mapE {F : FEnv} {c e : IE} {s : Slots} {i : Nat} {M : Store} {f : Val → Val} {vs : List Val} (h1 : ∀ v ∈ vs, evE F c (s.set i (some v)) M = .ok (.d (.bool true)) M) (h2 : ∀ v ∈ vs, evE F e (s.set i (some v)) M = .ok (f v) M) : lcE F c e (.one i) s vs M = .ok (vs.map f) M := by
  unfold lcE
  exact lc_map h1 h2
/-! ### loops -/
def wipeS (kl : List Nat) (x : SR) : SR := match x with
  | .next s M => .next (wipe s kl) M
  | r => r
theorem wipeS_next (kl : List Nat) (s : Slots) (M : Store) : wipeS kl (.next s M) = .next (wipe s kl) M := (rfl)
theorem wipeS_ret (kl : List Nat) (v : Val) (M : Store) : wipeS kl (.ret v M) = .ret v M := (rfl)
theorem wipeS_exc (kl : List Nat) (c : Nat) (s : Slots) (M : Store) : wipeS kl (.exc c s M) = .exc c s M := (rfl)
/-- one turn of a for -/
def turn (body : Slots → Store → SR) (tg : Tg) (kl : List Nat) (v : Val) (s : Slots) (M : Store) : SR := match asgT tg v s with
    | none => .bad
    | some s1 => wipeS kl (body s1 M)
theorem turn_one {body : Slots → Store → SR} {i : Nat} {kl : List Nat} {v : Val} {s : Slots} {M : Store} : turn body (.one i) kl v s M = wipeS kl (body (s.set i (some v)) M) := (rfl)
theorem turn_two {body : Slots → Store → SR} {i j : Nat} {kl : List Nat} {x y : PyData} {s : Slots} {M : Store} : turn body (.many [i, j]) kl (.d (.tuple [x, y])) s M = wipeS kl (body ((s.set i (some (.d x))).set j (some (.d y))) M) := (rfl)
theorem turn_three {body : Slots → Store → SR} {i j k : Nat} {kl : List Nat} {x y z : PyData} {s : Slots} {M : Store} : turn body (.many [i, j, k]) kl (.d (.tuple [x, y, z])) s M = wipeS kl (body (((s.set i (some (.d x))).set j (some (.d y))).set k (some (.d z))) M) := (rfl)
def thenS (x : SR) (f : Slots → Store → SR) : SR := match x with
  | .next s M => f s M
  | r => r
theorem forL_nil {body : Slots → Store → SR} {tg : Tg} {kl : List Nat} {s : Slots} {M : Store} : forL body tg kl [] s M = .next s M := (rfl)
theorem forL_cons {body : Slots → Store → SR} {tg : Tg} {kl : List Nat} {v : Val} {vs : List Val} {s : Slots} {M : Store} : forL body tg kl (v :: vs) s M = thenS (turn body tg kl v s M) (forL body tg kl vs) := by
  show (match asgT tg v s with
    | none => SR.bad
    | some s1 => match body s1 M with
      | .next s2 M2 => forL body tg kl vs (wipe s2 kl) M2
      | r => r) = _
  unfold turn
  cases asgT tg v s with
  | none => rfl
  | some s1 =>
    dsimp only
    cases body s1 M <;> rfl
/-- a for that folds: the state by b -/
theorem for_run {α β : Type} {body : Slots → Store → SR} {tg : Tg} {kl : List Nat} (emb : α → Val) (S : β → Slots) (Z : β → Store) (step : β → α → β) (P : β → Prop) : ∀ {xs : List α} {b : β}, P b →
    (∀ x ∈ xs, ∀ b, P b → turn body tg kl (emb x) (S b) (Z b) = .next (S (step b x)) (Z (step b x)) ∧ P (step b x)) →
    forL body tg kl (xs.map emb) (S b) (Z b) = .next (S (xs.foldl step b)) (Z (xs.foldl step b)) ∧ P (xs.foldl step b)
  | [], b, p, _ => ⟨rfl, p⟩
  | x :: xs, b, p, h => by
    obtain ⟨e, q⟩ := h x (by simp) b p
    rw [List.map_cons, forL_cons, e]
    exact for_run emb S Z step P (xs := xs) q fun y hy => h y (by simp [hy])
/-- .. by the number of turns -/
theorem for_to {α β : Type} {body : Slots → Store → SR} {tg : Tg} {kl : List Nat} (emb : α → Val) (S : β → Slots) (Z : β → Store) : ∀ {xs : List α} (P : Nat → β → Prop) {b : β}, P 0 b →
    (∀ (i : Nat) (x : α), xs[i]? = some x → ∀ b, P i b → ∃ b', turn body tg kl (emb x) (S b) (Z b) = .next (S b') (Z b') ∧ P (i + 1) b') →
    ∃ b', forL body tg kl (xs.map emb) (S b) (Z b) = .next (S b') (Z b') ∧ P xs.length b'
  | [], P, b, p, _ => ⟨b, rfl, p⟩
  | x :: xs, P, b, p, h => by
    obtain ⟨b1, e, q⟩ := h 0 x rfl b p
    obtain ⟨b2, e2, q2⟩ := for_to emb S Z (xs := xs) (fun i => P (i + 1)) q fun i y hy => h (i + 1) y (by simpa using hy)
    refine ⟨b2, ?_, q2⟩
    rw [List.map_cons, forL_cons, e]
    exact e2
/-- a for that only looks: till one is not p -/
theorem for_all {α : Type} {body : Slots → Store → SR} {tg : Tg} {kl : List Nat} {s : Slots} {M : Store} (emb : α → Val) (p : α → Bool) (r : α → SR) (hr : ∀ x f, thenS (r x) f = r x) : ∀ {xs : List α},
    (∀ x ∈ xs, turn body tg kl (emb x) s M = if p x then .next s M else r x) →
    forL body tg kl (xs.map emb) s M = (match xs.find? (fun x => !p x) with | none => .next s M | some x => r x)
  | [], _ => rfl
  | x :: xs, h => by
    rw [List.map_cons, forL_cons, h x (by simp), List.find?_cons]
    by_cases q : p x = true
    · rw [if_pos q, q]
      exact for_all emb p r hr fun y hy => h y (by simp [hy])
    · rw [if_neg q, hr]
      simp only [Bool.not_eq_true] at q
      rw [q]; rfl
theorem for_allB {α : Type} {body : Slots → Store → SR} {tg : Tg} {kl : List Nat} {s : Slots} {M : Store} (emb : α → Val) (p : α → Bool) (v : Val) {xs : List α} (h : ∀ x ∈ xs, turn body tg kl (emb x) s M = if p x then .next s M else .ret v M) :
    forL body tg kl (xs.map emb) s M = if xs.all p then .next s M else .ret v M := by
  rw [for_all emb p (fun _ => .ret v M) (fun _ _ => rfl) h]
  cases q : xs.find? fun x => !p x with
  | none =>
    have : xs.all p = true := by
      rw [List.all_eq_true]
      intro x hx
      have := List.find?_eq_none.mp q x hx
      simpa using this
    rw [if_pos this]
  | some y =>
    have h1 := List.find?_some q
    have h2 := List.mem_of_find?_eq_some q
    have : ¬ xs.all p = true := fun z => by
      have := List.all_eq_true.mp z y h2
      rw [this] at h1; cases h1
    rw [if_neg this]
def turnC (kl : List Nat) (x : SR) : SR := wipeS kl x
theorem while_to {β : Type} {c : Slots → Store → R Val} {body : Slots → Store → SR} {kl : List Nat} (S : β → Slots) (Z : β → Store) (P : β → Prop) (cond : β → Bool) (m : β → Nat) : ∀ {n : Nat} {b : β}, P b → m b < n →
    (∀ b, P b → c (S b) (Z b) = .ok (.d (.bool (cond b))) (Z b)) → (∀ b, P b → cond b = true → ∃ b', wipeS kl (body (S b) (Z b)) = .next (S b') (Z b') ∧ P b' ∧ m b' < m b) →
    ∃ b', whileL c body kl n (S b) (Z b) = .next (S b') (Z b') ∧ P b' ∧ cond b' = false
  | 0, b, p, hm, _, _ => by omega
  | n + 1, b, p, hm, hc, hb => by
    have e := hc b p
    cases q : cond b with
    | false =>
      rw [q] at e
      refine ⟨b, ?_, p, q⟩
      unfold whileL
      rw [e]
    | true =>
      rw [q] at e
      obtain ⟨b1, e1, p1, m1⟩ := hb b p q
      obtain ⟨b2, e2, p2, q2⟩ := while_to S Z P cond m (n := n) p1 (by omega) hc hb
      refine ⟨b2, ?_, p2, q2⟩
      unfold whileL
      rw [e]
      dsimp only
      cases z : body (S b) (Z b) with
      | next s M =>
        rw [z] at e1
        have e3 : SR.next (wipe s kl) M = .next (S b1) (Z b1) := e1
        injection e3 with e4 e5
        dsimp only
        rw [e4, e5]
        exact e2
      | ret v M => rw [z] at e1; cases e1
      | exc c s M => rw [z] at e1; cases e1
      | bad => rw [z] at e1; cases e1
theorem mkLV_d {al : Bool} {xs : List PyData} {M : Store} : mkLV al (xs.map .d) M = mkL al xs M := by
  unfold mkLV
  rw [allD_map]
theorem mkL_F {xs : List PyData} {M : Store} : mkL false xs M = .ok (.d (.list xs)) M := (rfl)
theorem mkL_T {xs : List PyData} {M : Store} : mkL true xs M = .ok (.ref M.length) (M ++ [.lst (xs.map .d)]) := (rfl)
theorem mkLV_T {vs : List Val} {M : Store} : mkLV true vs M = .ok (.ref M.length) (M ++ [.lst vs]) := by
  unfold mkLV
  cases h : allD vs with
  | none => rfl
  | some ds =>
    have e : vs = ds.map .d := by
      induction vs generalizing ds with
      | nil => simp [allD] at h; subst h; rfl
      | cons v vs ih =>
        cases v with
        | d x =>
          simp only [allD] at h
          cases h2 : allD vs with
          | none => rw [h2] at h; simp at h
          | some es => rw [h2] at h; simp at h; subst h; simp [← ih es h2]
        | _ => simp [allD] at h
    subst e
    rfl
def mkLVs (al : Bool) (o : Option (List PyData)) (vs : List Val) (M : Store) : R Val := match o with | some ds => mkL al ds M | none => .ok (.ref M.length) (M ++ [.lst vs])
theorem mkLV_o {al : Bool} {vs : List Val} {M : Store} : mkLV al vs M = mkLVs al (allD vs) vs M := (rfl)
theorem mkLVs_k {al : Bool} {ds : List PyData} {vs : List Val} {M : Store} : mkLVs al (some ds) vs M = mkL al ds M := (rfl)
theorem mkLVs_n {al : Bool} {vs : List Val} {M : Store} : mkLVs al none vs M = .ok (.ref M.length) (M ++ [.lst vs]) := (rfl)
theorem mkLV_Fd {vs : List Val} {M : Store} : mkLV false vs M = (match allD vs with | some ds => .ok (.d (.list ds)) M | none => .ok (.ref M.length) (M ++ [.lst vs])) := (rfl)
theorem allD_cons_d (x : PyData) (r : List Val) : allD (.d x :: r) = (allD r).map (x :: ·) := (rfl)
theorem allD_nil : allD [] = some [] := (rfl)
theorem allD_cons_r (n : Nat) (r : List Val) : allD (.ref n :: r) = none := (rfl)
theorem allD3 (a b c : PyData) : allD [.d a, .d b, .d c] = some [a, b, c] := (rfl)
theorem allD2 (a b : PyData) : allD [.d a, .d b] = some [a, b] := (rfl)
theorem allD1 (a : PyData) : allD [.d a] = some [a] := (rfl)
theorem callV_r {F : FEnv} {f n : Nat} {r : List Val} {M : Store} : callV F f (.ref n :: r) M = F.call f (.ref n :: r) M := (rfl)
theorem callV_dd {F : FEnv} {f : Nat} {vs : List Val} {ds : List PyData} {M : Store} {d : PyData} (hd : allD vs = some ds) (h : F.call f vs [] = .ok (.d d) []) : callV F f vs M = .ok (.d d) M := by
  unfold callV
  rw [hd]
  simp only [h, Val.shift, List.map_nil, List.append_nil]
theorem upTo_length (i : Int) (n : Nat) : (upTo i n).length = n := by simp [upTo]
theorem mem_upTo {i : Int} {n : Nat} {v : Val} (h : v ∈ upTo i n) : ∃ k : Nat, k < n ∧ v = .d (.int (i + (k : Int))) := by
  unfold upTo at h
  simp only [List.mem_map, List.mem_range] at h
  obtain ⟨k, h1, h2⟩ := h
  exact ⟨k, h1, h2.symm⟩
theorem rng1_ok {n : Int} (h : n < 16777216) (h2 : -4611686018427387904 ≤ n) : rngD [.d (.int n)] = some (upTo 0 n.toNat) := by
  unfold rngD
  have e1 : ((2 : Int) ^ 24) = 16777216 := by decide
  have e2 : (-(2 : Int) ^ 62) = -4611686018427387904 := by decide
  simp only [e1, h, decide_true, Bool.true_and]
  rw [if_pos (decide_eq_true (by rw [e2]; exact h2))]
mutual
def okDeep : PyData → Bool
  | .list xs => okDeeps xs
  | .tuple xs => okDeeps xs
  | .dict _ => false
  | _ => true
def okDeeps : List PyData → Bool
  | [] => true
  | x :: xs => okDeep x && okDeeps xs
end
mutual
theorem eqv_refl : ∀ d : PyData, (∀ kvs, d ≠ .dict kvs) → okDeep d = true → PyData.eqv d d = true
  | .none, _, _ => by simp [PyData.eqv]
  | .bool b, _, _ => by simp [PyData.eqv]
  | .int i, _, _ => by simp [PyData.eqv]
  | .str x, _, _ => by simp [PyData.eqv]
  | .list xs, _, h => by simp only [PyData.eqv]; exact eqvAll_refl xs (by simpa [okDeep] using h)
  | .tuple xs, _, h => by simp only [PyData.eqv]; exact eqvAll_refl xs (by simpa [okDeep] using h)
  | .dict kvs, h, _ => absurd rfl (h kvs)
theorem eqvAll_refl : ∀ xs : List PyData, okDeeps xs = true → PyData.eqvAll xs xs = true
  | [], _ => by simp [PyData.eqvAll]
  | x :: xs, h => by
    simp only [okDeeps, Bool.and_eq_true] at h
    simp only [PyData.eqvAll, Bool.and_eq_true]
    exact ⟨eqv_refl x (fun kvs e => by subst e; simp [okDeep] at h) h.1, eqvAll_refl xs h.2⟩
end
theorem okDeep_of : ∀ (n : Nat) (d : PyData), okD n d = true → okDeep d = true
  | _, .none, _ => rfl
  | _, .bool _, _ => rfl
  | _, .int _, _ => rfl
  | _, .str _, _ => rfl
  | 0, .list xs, h => by simp [okD] at h
  | 0, .tuple xs, h => by simp [okD] at h
  | n + 1, .list xs, h => by
    have h' : ∀ x ∈ xs, okD n x = true := by simpa [okD, List.all_eq_true] using h
    have : ∀ ys : List PyData, (∀ x ∈ ys, okD n x = true) → okDeeps ys = true := by
      intro ys
      induction ys with
      | nil => intro _; rfl
      | cons y ys ih => intro hy; simp [okDeeps, okDeep_of n y (hy y (by simp)), ih fun x hx => hy x (by simp [hx])]
    exact this xs h'
  | n + 1, .tuple xs, h => by
    have h' : ∀ x ∈ xs, okD n x = true := by simpa [okD, List.all_eq_true] using h
    have : ∀ ys : List PyData, (∀ x ∈ ys, okD n x = true) → okDeeps ys = true := by
      intro ys
      induction ys with
      | nil => intro _; rfl
      | cons y ys ih => intro hy; simp [okDeeps, okDeep_of n y (hy y (by simp)), ih fun x hx => hy x (by simp [hx])]
    exact this xs h'
  | n, .dict _, h => by cases n <;> simp [okD] at h
theorem eqv_self {n : Nat} {d : PyData} (h : okD n d = true) : PyData.eqv d d = true :=
  eqv_refl d (fun kvs e => by subst e; cases n <;> simp [okD] at h) (okDeep_of n d h)
theorem eqD_self {M : Store} {d : PyData} (h : okD 30 d = true) : eqD M (.d d) (.d d) = some true := by
  simp [eqD, h, eqv_self h]
end Gv

namespace Gv
open PySem
theorem frz_map {n0 n : Nat} {M : Store} (ds : List PyData) : (ds.map Val.d).mapM (frz n0 n M) = some ds := by
  induction ds with
  | nil => rfl
  | cons x ds ih =>
    rw [List.map_cons, List.mapM_cons, ih]
    cases n <;> rfl
theorem idx_r {M : Store} {a : Nat} {vs : List Val} {i : Int} {v : Val} (h1 : M[a]? = some (.lst vs)) (h2 : atI vs i = some v) : idxD M (.ref a) (.d (.int i)) = .ok v M := by
  unfold idxD
  dsimp only
  rw [h1]
  dsimp only
  rw [h2]
theorem at_last {α : Type} (l : List α) (x : α) : atI (l ++ [x]) (-1) = some x := by
  rw [at_neg (d := x) (by decide) (by simp; omega)]
  have e : (-1 + ((l ++ [x]).length : Int)).toNat = l.length := by simp; omega
  rw [e]
  simp
theorem exit_frz {n0 a : Nat} {M : Store} {ds : List PyData} (h1 : (M.take n0).all (Cell.below n0) = true) (h2 : n0 ≤ a) (h3 : M[a]? = some (.lst (ds.map .d))) : exitV n0 (.ref a) M = .ok (.d (.list ds)) (M.take n0) := by
  unfold exitV
  rw [if_pos h1]
  dsimp only
  rw [if_neg (by omega)]
  have e : frz n0 8 M (.ref a) = some (.list ds) := by
    show (if a < n0 then none else match M[a]? with | some (.lst vs) => (vs.mapM (frz n0 7 M)).map PyData.list | some (.tup vs) => (vs.mapM (frz n0 7 M)).map PyData.tuple | _ => none) = _
    rw [if_neg (by omega), h3]
    dsimp only
    rw [frz_map]
    rfl
  rw [e]
theorem ss_app1 {F : FEnv} {wf : Nat} {s : Slots} {M : Store} {r : List IS} (o e : IE) : evSs F wf (.app o e :: r) s M = (evE F o s M).toS s fun x M => (match x with
      | .ref a => (match M[a]? with
        | some (.lst _) => (evE F e s M).toS s fun v M => (match M[a]? with
          | some (.lst vs) => if vs.length < lim then evSs F wf r s (M.set a (.lst (vs ++ [v]))) else .bad
          | _ => .bad)
        | _ => .bad)
      | _ => .bad) := by
  show cont F wf r (evS F wf (.app o e) s M) = _
  unfold evS
  cases evE F o s M with
  | exc c M1 => rfl
  | bad => rfl
  | ok x M1 =>
    simp only [R.toS_ok]
    cases x with
    | ref a =>
      dsimp only
      cases M1[a]? with
      | none => rfl
      | some c =>
        cases c with
        | lst vs0 =>
          dsimp only
          cases evE F e s M1 with
          | exc c M1 => rfl
          | bad => rfl
          | ok v M2 =>
            simp only [R.toS_ok]
            cases M2[a]? with
            | none => rfl
            | some c =>
              cases c with
              | lst vs =>
                dsimp only
                by_cases h : vs.length < lim
                · rw [if_pos h, if_pos h]; rfl
                · rw [if_neg h, if_neg h]; rfl
              | _ => rfl
        | _ => rfl
    | _ => rfl
theorem ss_whil1 {F : FEnv} {wf : Nat} {s : Slots} {M : Store} {r : List IS} (c : IE) (b : List IS) (kl : List Nat) : evSs F wf (.whil c b kl :: r) s M = cont F wf r (whileL (evE F c) (evSs F wf b) kl wf (wipe s kl) M) := by
  show cont F wf r (evS F wf (.whil c b kl) s M) = _
  unfold evS
  rfl
theorem callV_x {F : FEnv} {f c : Nat} {vs : List Val} {ds : List PyData} {M M' : Store} (hd : allD vs = some ds) (h : F.call f vs [] = .exc c M') : callV F f vs M = .exc c M := by
  unfold callV
  rw [hd]
  simp only [h]
theorem eqv_nil (xs : List PyData) : PyData.eqv (.list xs) (.list []) = decide (xs = []) := by
  cases xs <;> simp [PyData.eqv, PyData.eqvAll]
theorem okD_ints (n : Nat) (q : List Int) : okD (n + 1) (.list (q.map .int)) = true := by simp [okD]
theorem eq_nil {M : Store} (q : List Int) : cmpD M .Eq (.d (.list (q.map .int))) (.d (.list [])) = bl (decide (q = [])) M := by
  show (match eqD M (.d (.list (q.map .int))) (.d (.list [])) with | some b => bl b M | none => .bad) = _
  have : eqD M (.d (.list (q.map .int))) (.d (.list [])) = some (decide (q = [])) := by
    unfold eqD
    simp only [view_d]
    rw [okD_ints 29 q, if_pos (by rfl), eqv_nil]
    simp
  rw [this]
theorem sl_t {al : Bool} {M : Store} {xs : List PyData} {lo hi : Option Int} : slD al M (.d (.tuple xs)) lo hi = .ok (.d (.tuple (cut xs lo hi))) M := (rfl)
theorem sl_l {M : Store} {xs : List PyData} {lo hi : Option Int} : slD false M (.d (.list xs)) lo hi = .ok (.d (.list (cut xs lo hi))) M := (rfl)
theorem part_n : part (.d .none) = some none := (rfl)
theorem part_i {i : Int} : part (.d (.int i)) = some (some i) := (rfl)
theorem cut_1 {α : Type} (x : α) (xs : List α) : cut (x :: xs) (some 1) none = xs := by
  simp [cut, sIx]
theorem cut_lo {α : Type} (xs : List α) {i : Int} (h0 : 0 ≤ i) (h1 : i ≤ xs.length) : cut xs (some i) none = xs.drop i.toNat := by
  unfold cut sIx
  dsimp only
  rw [if_neg (by omega)]
  have : min i.toNat xs.length = i.toNat := by omega
  rw [this, ← List.length_drop]
  exact List.take_length
theorem cut_hi {α : Type} (xs : List α) {i : Int} (h0 : 0 ≤ i) (h1 : i ≤ xs.length) : cut xs none (some i) = xs.take i.toNat := by
  unfold cut sIx
  dsimp only
  rw [if_neg (by omega)]
  have : min i.toNat xs.length = i.toNat := by omega
  rw [this]
  simp
theorem lc_pure {F : FEnv} {e : IE} {s : Slots} {i : Nat} {M : Store} {xs : List PyData} {g : PyData → PyData} (h : ∀ x ∈ xs, evE F e (s.set i (some (.d x))) M = .ok (.d (g x)) M) :
    lcE F (.lit (.bool true)) e (.one i) s (xs.map .d) M = .ok ((xs.map g).map .d) M := by
  rw [lc_mapE (f := fun v => match v with | .d x => .d (g x) | v => v) (fun v hv => ev_lit _)]
  · rw [List.map_map, List.map_map]
    rfl
  · intro v hv
    obtain ⟨x, hx, rfl⟩ := List.mem_map.mp hv
    exact h x hx
theorem at_zero {α : Type} (x : α) (xs : List α) : atI (x :: xs) 0 = some x := by
  unfold atI ixN
  rw [if_pos (by decide), if_pos (by simp)]
  rfl
theorem allB_map (bs : List Bool) : allB (bs.map PyData.bool) = some bs := by
  induction bs with
  | nil => rfl
  | cons b bs ih => simp [allB, ih]
theorem all_b {al : Bool} {M : Store} {α : Type} {xs : List α} {p : α → Bool} : biD al .all [.d (.list (xs.map fun x => .bool (p x)))] M = bl (xs.all p) M := by
  show (match (lstD M (.d (.list (xs.map fun x => .bool (p x))))).bind allB with | some bs => bl (bs.all id) M | none => .bad) = _
  have e : (xs.map fun x => PyData.bool (p x)) = (xs.map p).map PyData.bool := by simp
  show (match allB (xs.map fun x => PyData.bool (p x)) with | some bs => bl (bs.all id) M | none => .bad) = _
  rw [e, allB_map]
  simp [List.all_map]
theorem rng2_ok {i j : Int} (h0 : -1000000 ≤ i) (h1 : i < 1000000) (h2 : -1000000 ≤ j) (h3 : j < 1000000) : rngD [.d (.int i), .d (.int j)] = some (upTo i (j - i).toNat) := by
  unfold rngD
  have e1 : ((2 : Int) ^ 24) = 16777216 := by decide
  have e2 : ((2 : Int) ^ 62) = 4611686018427387904 := by decide
  simp only [e1, e2]
  rw [if_pos (by simp only [Bool.and_eq_true, decide_eq_true_eq]; omega)]
theorem ne_self {M : Store} {d : PyData} (h : okD 30 d = true) : cmpD M .NotEq (.d d) (.d d) = bl false M := by
  show (match eqD M (.d d) (.d d) with | some b => bl (!b) M | none => .bad) = _
  rw [eqD_self h]
  rfl
theorem list_s {ns : List Int} {M : Store} {al : Bool} (h : ns.length ≤ lim) : biD al .list [.scr ns] M = mkL al (ns.map .int) M := by
  show (if ns.length ≤ lim then mkL al (ns.map .int) M else .bad) = _
  rw [if_pos h]
theorem fold_filter {α : Type} (p : α → Bool) : ∀ (l acc : List α), l.foldl (fun a x => if p x then a ++ [x] else a) acc = acc ++ l.filter p
  | [], acc => by simp
  | x :: l, acc => by
    rw [List.foldl_cons, fold_filter p l]
    by_cases h : p x = true
    · simp [h]
    · simp [h]
theorem enum_map {α : Type} (emb : α → PyData) (d : α) (xs : List α) : (List.range (xs.map emb).length).zipWith (fun (k : Nat) x => Val.d (.tuple [.int (k : Int), x])) (xs.map emb) = (List.range xs.length).map fun k : Nat => Val.d (.tuple [.int (k : Int), emb (xs.getD k d)]) := by
  apply List.ext_getElem?
  intro j
  rw [List.getElem?_zipWith, List.getElem?_map, List.getElem?_map]
  by_cases hj : j < xs.length
  · rw [List.getElem?_range (by simpa using hj), List.getElem?_range hj, List.getElem?_eq_getElem hj]
    simp [List.getD_eq_getElem?_getD, hj]
  · have h1 : (List.range xs.length)[j]? = none := List.getElem?_eq_none (by simpa using hj)
    have h2 : xs[j]? = none := List.getElem?_eq_none (by omega)
    rw [List.length_map, h1, h2]
    rfl
theorem len_map_t {α : Type} {al : Bool} {M : Store} (emb : α → PyData) (xs : List α) : biD al .len [.d (.tuple (xs.map emb))] M = .ok (.d (.int xs.length)) M := by rw [len_t, List.length_map]
theorem map_at {α : Type} (emb : α → PyData) (xs : List α) (d : α) {i : Int} (h0 : 0 ≤ i) (h1 : i < xs.length) : atI (xs.map emb) i = some (emb (xs.getD i.toNat d)) := by
  unfold atI ixN
  rw [List.length_map, if_pos h0, if_pos h1]
  have h3 : i.toNat < xs.length := by omega
  simp [List.getElem?_eq_getElem, h3, List.getD_eq_getElem?_getD]
theorem getD_mem {α : Type} {l : List α} {k : Nat} {d : α} (h : k < l.length) : l.getD k d ∈ l := by
  rw [List.getD_eq_getElem?_getD, List.getElem?_eq_getElem h]
  exact List.getElem_mem h
theorem getD_all {α : Type} {d : α} {l : List α} (P : α → Bool) (h : l.all P = true) (hd : P d = true) (i : Nat) : P (l.getD i d) = true := by
  rw [List.getD_eq_getElem?_getD]
  by_cases hi : i < l.length
  · rw [List.getElem?_eq_getElem hi]
    exact List.all_eq_true.mp h _ (List.getElem_mem hi)
  · rw [List.getElem?_eq_none (by omega)]
    exact hd
theorem at2 {α : Type} (a b : α) {i : Int} (h0 : 0 ≤ i) (h1 : i < 2) : atI [a, b] i = some (if i = 0 then a else b) := by
  have : i = 0 ∨ i = 1 := by omega
  rcases this with rfl | rfl <;> rfl
theorem ite_int (p : Prop) [Decidable p] (a b : Int) : (if p then PyData.int a else PyData.int b) = PyData.int (if p then a else b) := by split <;> rfl
def pick3 {α : Type} (a b c : α) (i : Int) : α := if i = 0 then a else if i = 1 then b else c
theorem at3 {α : Type} (a b c : α) {i : Int} (h0 : 0 ≤ i) (h1 : i < 3) : atI [a, b, c] i = some (pick3 a b c i) := by
  have : i = 0 ∨ i = 1 ∨ i = 2 := by omega
  rcases this with rfl | rfl | rfl <;> rfl
theorem pick3_map {α β : Type} (f : α → β) (a b c : α) (i : Int) : pick3 (f a) (f b) (f c) i = f (pick3 a b c i) := by
  unfold pick3
  split
  · rfl
  · split <;> rfl
theorem pick3_all {α : Type} {P : α → Prop} {a b c : α} (i : Int) (ha : P a) (hb : P b) (hc : P c) : P (pick3 a b c i) := by
  unfold pick3
  split
  · exact ha
  · split
    · exact hb
    · exact hc
theorem mkLV_3 {M : Store} (a b c : PyData) : mkLV false [.d a, .d b, .d c] M = .ok (.d (.list [a, b, c])) M := (rfl)
theorem range_at {α : Type} {f : Nat → α} {n i : Nat} {v : α} (h : ((List.range n).map f)[i]? = some v) : i < n ∧ v = f i := by
  rw [List.getElem?_map, Option.map_eq_some_iff] at h
  obtain ⟨k, e, rfl⟩ := h
  rw [List.getElem?_eq_some_iff] at e
  obtain ⟨h1, h2⟩ := e
  simp at h1 h2
  subst h2
  exact ⟨h1, rfl⟩
theorem filter_succ (p : Nat → Bool) (i : Nat) : (List.range (i + 1)).filter p = (List.range i).filter p ++ (if p i then [i] else []) := by
  rw [List.range_succ, List.filter_append]
  by_cases h : p i = true <;> simp [h]
theorem ix1_0 {M : Store} {a : PyData} : idxD M (.d (.tuple [a])) (.d (.int 0)) = .ok (.d a) M := (rfl)
theorem ixl1_0 {M : Store} {a : PyData} : idxD M (.d (.list [a])) (.d (.int 0)) = .ok (.d a) M := (rfl)
theorem ix2_0 {M : Store} {a b : PyData} : idxD M (.d (.tuple [a, b])) (.d (.int 0)) = .ok (.d a) M := (rfl)
theorem ixl2_0 {M : Store} {a b : PyData} : idxD M (.d (.list [a, b])) (.d (.int 0)) = .ok (.d a) M := (rfl)
theorem ix2_1 {M : Store} {a b : PyData} : idxD M (.d (.tuple [a, b])) (.d (.int 1)) = .ok (.d b) M := (rfl)
theorem ixl2_1 {M : Store} {a b : PyData} : idxD M (.d (.list [a, b])) (.d (.int 1)) = .ok (.d b) M := (rfl)
theorem ix3_0 {M : Store} {a b c : PyData} : idxD M (.d (.tuple [a, b, c])) (.d (.int 0)) = .ok (.d a) M := (rfl)
theorem ixl3_0 {M : Store} {a b c : PyData} : idxD M (.d (.list [a, b, c])) (.d (.int 0)) = .ok (.d a) M := (rfl)
theorem ix3_1 {M : Store} {a b c : PyData} : idxD M (.d (.tuple [a, b, c])) (.d (.int 1)) = .ok (.d b) M := (rfl)
theorem ixl3_1 {M : Store} {a b c : PyData} : idxD M (.d (.list [a, b, c])) (.d (.int 1)) = .ok (.d b) M := (rfl)
theorem ix3_2 {M : Store} {a b c : PyData} : idxD M (.d (.tuple [a, b, c])) (.d (.int 2)) = .ok (.d c) M := (rfl)
theorem ixl3_2 {M : Store} {a b c : PyData} : idxD M (.d (.list [a, b, c])) (.d (.int 2)) = .ok (.d c) M := (rfl)
theorem ix4_0 {M : Store} {a b c d : PyData} : idxD M (.d (.tuple [a, b, c, d])) (.d (.int 0)) = .ok (.d a) M := (rfl)
theorem ixl4_0 {M : Store} {a b c d : PyData} : idxD M (.d (.list [a, b, c, d])) (.d (.int 0)) = .ok (.d a) M := (rfl)
theorem ix4_1 {M : Store} {a b c d : PyData} : idxD M (.d (.tuple [a, b, c, d])) (.d (.int 1)) = .ok (.d b) M := (rfl)
theorem ixl4_1 {M : Store} {a b c d : PyData} : idxD M (.d (.list [a, b, c, d])) (.d (.int 1)) = .ok (.d b) M := (rfl)
theorem ix4_2 {M : Store} {a b c d : PyData} : idxD M (.d (.tuple [a, b, c, d])) (.d (.int 2)) = .ok (.d c) M := (rfl)
theorem ixl4_2 {M : Store} {a b c d : PyData} : idxD M (.d (.list [a, b, c, d])) (.d (.int 2)) = .ok (.d c) M := (rfl)
theorem ix4_3 {M : Store} {a b c d : PyData} : idxD M (.d (.tuple [a, b, c, d])) (.d (.int 3)) = .ok (.d d) M := (rfl)
theorem ixl4_3 {M : Store} {a b c d : PyData} : idxD M (.d (.list [a, b, c, d])) (.d (.int 3)) = .ok (.d d) M := (rfl)
theorem ix5_0 {M : Store} {a b c d e : PyData} : idxD M (.d (.tuple [a, b, c, d, e])) (.d (.int 0)) = .ok (.d a) M := (rfl)
theorem ixl5_0 {M : Store} {a b c d e : PyData} : idxD M (.d (.list [a, b, c, d, e])) (.d (.int 0)) = .ok (.d a) M := (rfl)
theorem ix5_1 {M : Store} {a b c d e : PyData} : idxD M (.d (.tuple [a, b, c, d, e])) (.d (.int 1)) = .ok (.d b) M := (rfl)
theorem ixl5_1 {M : Store} {a b c d e : PyData} : idxD M (.d (.list [a, b, c, d, e])) (.d (.int 1)) = .ok (.d b) M := (rfl)
theorem ix5_2 {M : Store} {a b c d e : PyData} : idxD M (.d (.tuple [a, b, c, d, e])) (.d (.int 2)) = .ok (.d c) M := (rfl)
theorem ixl5_2 {M : Store} {a b c d e : PyData} : idxD M (.d (.list [a, b, c, d, e])) (.d (.int 2)) = .ok (.d c) M := (rfl)
theorem ix5_3 {M : Store} {a b c d e : PyData} : idxD M (.d (.tuple [a, b, c, d, e])) (.d (.int 3)) = .ok (.d d) M := (rfl)
theorem ixl5_3 {M : Store} {a b c d e : PyData} : idxD M (.d (.list [a, b, c, d, e])) (.d (.int 3)) = .ok (.d d) M := (rfl)
theorem ix5_4 {M : Store} {a b c d e : PyData} : idxD M (.d (.tuple [a, b, c, d, e])) (.d (.int 4)) = .ok (.d e) M := (rfl)
theorem ixl5_4 {M : Store} {a b c d e : PyData} : idxD M (.d (.list [a, b, c, d, e])) (.d (.int 4)) = .ok (.d e) M := (rfl)
end Gv

namespace Gv
open PySem
/-! ### what holds behind a walk -/
def WS (P : SR → Prop) (x : SR) : Prop := P x
def WR {α : Type} (P : R α → Prop) (x : R α) : Prop := P x
theorem bind_bind {α β γ : Type} (r : R α) (f : α → Store → R β) (g : β → Store → R γ) : (r.bind f).bind g = r.bind fun v M => (f v M).bind g := by cases r <;> rfl
theorem bind_toS {α : Type} (r : R α) (f : α → Store → R Val) (s : Slots) (g : Val → Store → SR) : (r.bind f).toS s g = (match r with | .ok v M => (f v M).toS s g | .exc c M => .exc c s M | .bad => .bad) := by cases r <;> rfl
/-- any answer, in a suite -/
def R.toT {α : Type} (r : R α) (s : Slots) (f : α → Store → SR) : SR := match r with
  | .ok v M => f v M
  | .exc c M => .exc c s M
  | .bad => .bad
theorem bind_toT {α : Type} (r : R α) (f : α → Store → R Val) (s : Slots) (g : Val → Store → SR) : (r.bind f).toS s g = r.toT s fun v M => (f v M).toS s g := by cases r <;> rfl
theorem bind_toT2 {α β : Type} (r : R α) (f : α → Store → R β) (s : Slots) (g : β → Store → SR) : (r.bind f).toT s g = r.toT s fun v M => (f v M).toT s g := by cases r <;> rfl
theorem toT_k {α : Type} (a : α) (M : Store) (s : Slots) (f : α → Store → SR) : (R.ok a M).toT s f = f a M := (rfl)
theorem toT_x {α : Type} (c : Nat) (M : Store) (s : Slots) (f : α → Store → SR) : (R.exc c M : R α).toT s f = .exc c s M := (rfl)
theorem toS_x (c : Nat) (M : Store) (s : Slots) (f : Val → Store → SR) : (R.exc c M : R Val).toS s f = .exc c s M := (rfl)
theorem bind_x {α β : Type} (c : Nat) (M : Store) (f : α → Store → R β) : (R.exc c M : R α).bind f = .exc c M := (rfl)
theorem toS_T (r : R Val) (s : Slots) (f : Val → Store → SR) : r.toS s f = r.toT s f := by cases r <;> rfl
theorem fin_d {n0 : Nat} {S : Val → Store → Prop} {d : PyData} {M : Store} (hl : M.length = n0) (h : S (.d d) M) : WS (fun x => ∃ v M', fin n0 x = .ok v M' ∧ S v M') (.ret (.d d) M) := ⟨_, _, by rw [fin_ret, exit_same hl], h⟩
theorem idx_l2p {M : Store} {a b i : Int} (h0 : 0 ≤ i) (h1 : i < 2) : idxD M (.d (.list [.int a, .int b])) (.d (.int i)) = .ok (.d (.int (if i = 0 then a else b))) M := by
  have : i = 0 ∨ i = 1 := by omega
  rcases this with rfl | rfl <;> rfl
theorem idx_l3p {M : Store} {a b c i : Int} (h0 : 0 ≤ i) (h1 : i < 3) : idxD M (.d (.list [.int a, .int b, .int c])) (.d (.int i)) = .ok (.d (.int (if i = 0 then a else if i = 1 then b else c))) M := by
  have : i = 0 ∨ i = 1 ∨ i = 2 := by omega
  rcases this with rfl | rfl | rfl <;> rfl
theorem callV_ok {c c0 : Nat → List Val → Store → R Val} {su : Nat → Nat → Option Bool} {me : Nat → Nat → Option Nat} {f : Nat} {vs : List Val} {ds : List PyData} {M : Store} {d : PyData} (h : c f vs [] = .ok (.d d) []) (hd : allD vs = some ds) : callV ⟨c, c0, su, me⟩ f vs M = .ok (.d d) M := callV_dd hd h
theorem isi_ii {sub : Nat → Nat → Option Bool} {M : Store} {i : Int} : isiD sub M (.d (.int i)) .int = some true := (rfl)
theorem isi_ib {sub : Nat → Nat → Option Bool} {M : Store} {i : Int} : isiD sub M (.d (.int i)) .bool = some false := (rfl)
theorem isi_tt {sub : Nat → Nat → Option Bool} {M : Store} {xs : List PyData} : isiD sub M (.d (.tuple xs)) .tuple = some true := (rfl)
theorem isi_xc {sub : Nat → Nat → Option Bool} {M : Store} {c k : Nat} : isiD sub M (.exc c) (.cls k) = sub c k := (rfl)
theorem ret_dec {p q : Prop} [Decidable p] [Decidable q] {M : Store} : (if p then SR.ret (.d (.bool false)) M else SR.ret (.d (.bool (decide q))) M) = .ret (.d (.bool (decide (¬ p ∧ q)))) M := by
  by_cases h : p <;> simp [h]
theorem ret_decT {p q : Prop} [Decidable p] [Decidable q] {M : Store} : (if p then SR.ret (.d (.bool true)) M else SR.ret (.d (.bool (decide q))) M) = .ret (.d (.bool (decide (p ∨ q)))) M := by
  by_cases h : p <;> simp [h]
theorem fin_bl {p q : Prop} [Decidable p] [Decidable q] {M : Store} (h : p ↔ q) : fin M.length (.ret (.d (.bool (decide p))) M) = .ok (.d (.bool (decide q))) M := by
  rw [fin_ret, exit_same rfl, decide_eq_decide.mpr h]
theorem fin_r {d : PyData} {M : Store} : fin M.length (.ret (.d d) M) = .ok (.d d) M := by rw [fin_ret, exit_same rfl]
theorem fin_x {c : Nat} {s : Slots} {M : Store} : fin M.length (.exc c s M) = .exc c M := by rw [fin_exc, exitX_same rfl]
theorem callV_bl {c c0 : Nat → List Val → Store → R Val} {su : Nat → Nat → Option Bool} {me : Nat → Nat → Option Nat} {f : Nat} {vs : List Val} {ds : List PyData} {M : Store} {b : Bool} (h : c f vs [] = .ok (.d (.bool b)) []) (hd : allD vs = some ds) : callV ⟨c, c0, su, me⟩ f vs M = bl b M := callV_dd hd h
theorem callV_xc {c c0 : Nat → List Val → Store → R Val} {su : Nat → Nat → Option Bool} {me : Nat → Nat → Option Nat} {f k : Nat} {vs : List Val} {ds : List PyData} {M M' : Store} (h : c f vs [] = .exc k M') (hd : allD vs = some ds) : callV ⟨c, c0, su, me⟩ f vs M = .exc k M := callV_x hd h
theorem toT_ite {α : Type} {p : Prop} [Decidable p] {a b : R α} {s : Slots} {f : α → Store → SR} : (if p then a else b).toT s f = if p then a.toT s f else b.toT s f := by
  by_cases h : p <;> simp [h]
theorem divmod_ii {al : Bool} {M : Store} {i j : Int} (h0 : 0 < j) (h1 : j < 1073741824) : biD al .divmod [.d (.int i), .d (.int j)] M = .ok (.d (.tuple [.int (i / j), .int (i % j)])) M := by
  show (if decide (0 < j) && decide (j < 1073741824) then R.ok (Val.d (.tuple [.int (i / j), .int (i % j)])) M else .bad) = _
  rw [if_pos (by simp [h0, h1])]
theorem forS_T {F : FEnv} {wf : Nat} {r : List IS} {t : Tg} {b : List IS} {kl : List Nat} {s : Slots} {x : R Src} : forS F wf r t b kl s x = x.toT s fun vs M => cont F wf r (forT (evSs F wf b) t kl vs (wipe s kl) M) := by cases x <;> rfl
theorem add_lls {al : Bool} {M : Store} {xs ys : List PyData} (h : xs.length + ys.length ≤ 16777216) : binD al M .Add (.d (.list xs)) (.d (.list ys)) = mkL al (xs ++ ys) M := add_ll h
theorem add_tts {al : Bool} {M : Store} {xs ys : List PyData} (h : xs.length + ys.length ≤ 16777216) : binD al M .Add (.d (.tuple xs)) (.d (.tuple ys)) = .ok (.d (.tuple (xs ++ ys))) M := add_tt h
theorem of_ret {r : R Val} {v : Val} {M : Store} (h : (r.toT [] fun v M => SR.ret v M) = .ret v M) : r = .ok v M := by
  cases r with
  | ok v' M' =>
    have h' : SR.ret v' M' = .ret v M := h
    cases h'; rfl
  | exc c M' => cases h
  | bad => cases h
theorem bl_toT {b : Bool} {M : Store} {s : Slots} {f : Val → Store → SR} : (bl b M).toT s f = f (.d (.bool b)) M := (rfl)
theorem mul_il {al : Bool} {M : Store} {i j : Int} (h1 : -18446744073709551616 < i) (h2 : i < 18446744073709551616) : binD al M .Mult (.d (.int i)) (.d (.int j)) = .ok (.d (.int (i * j))) M := by
  apply mul_ii
  unfold mulOk
  have e : ((2 : Int) ^ 64) = 18446744073709551616 := by decide
  rw [e]
  simp [h1, h2]
theorem mul_ir {al : Bool} {M : Store} {i j : Int} (h1 : -18446744073709551616 < j) (h2 : j < 18446744073709551616) : binD al M .Mult (.d (.int i)) (.d (.int j)) = .ok (.d (.int (i * j))) M := by
  apply mul_ii
  unfold mulOk
  have e : ((2 : Int) ^ 64) = 18446744073709551616 := by decide
  rw [e]
  simp [h1, h2]
theorem bigB_gt : (1000000000000000000000000000000000000000000000000000000000000 : Int) < bigB := by unfold bigB; decide
theorem div_iis {al : Bool} {M : Store} {i j : Int} (h0 : 0 < j) (h1 : j ≤ 1000000000000000000000000000000000000000000000000000000000000) : binD al M .FloorDiv (.d (.int i)) (.d (.int j)) = .ok (.d (.int (i / j))) M := div_ii h0 (Int.lt_of_le_of_lt h1 bigB_gt)
theorem pow_iis {al : Bool} {M : Store} {i j : Int} (h0 : 0 ≤ j) (h1 : j ≤ 1000) (h2 : 0 ≤ i) (h3 : i ≤ 1000) : binD al M .Pow (.d (.int i)) (.d (.int j)) = .ok (.d (.int (i ^ j.toNat))) M := pow_ii h0 h1 (by omega)
section
variable {P : SR → Prop} {s : Slots}
theorem ws_toS {r : R Val} {f : Val → Store → SR} {S : Val → Store → Prop} (h : ∃ v M, r = .ok v M ∧ S v M) (k : ∀ v M, S v M → WS P (f v M)) : WS P (r.toS s f) := by
  obtain ⟨v, M, rfl, q⟩ := h
  exact k v M q
theorem ws_toT {α : Type} {r : R α} {f : α → Store → SR} {S : α → Store → Prop} (h : ∃ v M, r = .ok v M ∧ S v M) (k : ∀ v M, S v M → WS P (f v M)) : WS P (r.toT s f) := by
  obtain ⟨v, M, rfl, q⟩ := h
  exact k v M q
theorem wr_bind {α β : Type} {P : R β → Prop} {r : R α} {f : α → Store → R β} {S : α → Store → Prop} (h : ∃ v M, r = .ok v M ∧ S v M) (k : ∀ v M, S v M → WR P (f v M)) : WR P (r.bind f) := by
  obtain ⟨v, M, rfl, q⟩ := h
  exact k v M q
theorem ws_ite {p : Prop} [Decidable p] {a b : SR} (h1 : p → WS P a) (h2 : ¬ p → WS P b) : WS P (if p then a else b) := by
  by_cases h : p
  · rw [if_pos h]; exact h1 h
  · rw [if_neg h]; exact h2 h
theorem wr_ite {α : Type} {P : R α → Prop} {p : Prop} [Decidable p] {a b : R α} (h1 : p → WR P a) (h2 : ¬ p → WR P b) : WR P (if p then a else b) := by
  by_cases h : p
  · rw [if_pos h]; exact h1 h
  · rw [if_neg h]; exact h2 h
theorem ws_cont {F : FEnv} {wf : Nat} {r : List IS} {x : SR} {S : Slots → Store → Prop} (h : ∃ s M, x = .next s M ∧ S s M) (k : ∀ s M, S s M → WS P (evSs F wf r s M)) : WS P (cont F wf r x) := by
  obtain ⟨s, M, rfl, q⟩ := h
  exact k s M q
end
theorem call_ws {T : Tab} {wf k f : Nat} {vs : List Val} {M : Store} (fn : Fn) {S : Val → Store → Prop} (h : T.fn[f]? = some fn) (hl : vs.length = fn.ps) (hk : fn.keep = false)
    (w : WS (fun x => ∃ v M', fin M.length x = .ok v M' ∧ S v M') (evSs ⟨callF T wf (k + 1), callF T wf k, T.sub, T.meth⟩ wf fn.body (enter fn vs) M)) : ∃ v M', callF T wf (k + 2) f vs M = .ok v M' ∧ S v M' := by
  rw [call_fn h hl hk]
  exact w
/-- calls with data alone -/
theorem callV_ex {F : FEnv} {f : Nat} {vs : List Val} {ds : List PyData} {M : Store} {S : PyData → Prop} (hd : allD vs = some ds) (h : ∃ v M', F.call f vs [] = .ok v M' ∧ M' = [] ∧ ∃ d, v = .d d ∧ S d) : ∃ v M', callV F f vs M = .ok v M' ∧ M' = M ∧ ∃ d, v = .d d ∧ S d := by
  obtain ⟨v, M', e, rfl, d, rfl, q⟩ := h
  exact ⟨_, _, callV_dd hd e, rfl, d, rfl, q⟩
theorem lc_ex {α β : Type} {cond elt : Slots → Store → R Val} {tg : Tg} {s : Slots} (emb : α → Val) (out : β → Val) (I : Store → Prop) (P : α → β → Prop) : ∀ {xs : List α} {M : Store}, I M →
    (∀ x ∈ xs, ∀ M, I M → ∃ s1, asgT tg (emb x) s = some s1 ∧ cond s1 M = .ok (.d (.bool true)) M ∧ ∃ v M', elt s1 M = .ok v M' ∧ I M' ∧ ∃ y, v = out y ∧ P x y) →
    ∃ vs M', lcL cond elt tg s (xs.map emb) M = .ok vs M' ∧ I M' ∧ ∃ ys : List β, vs = ys.map out ∧ ys.length = xs.length ∧ (∀ y ∈ ys, ∃ x ∈ xs, P x y)
  | [], M, i, _ => ⟨[], M, rfl, i, [], rfl, rfl, fun y hy => by simp at hy⟩
  | x :: xs, M, i, h => by
    obtain ⟨s1, e1, e2, v, M1, e3, i1, y, rfl, p⟩ := h x (by simp) M i
    obtain ⟨vs, M2, e4, i2, ys, rfl, hl, q⟩ := lc_ex emb out I P (xs := xs) (M := M1) i1 fun z hz => h z (by simp [hz])
    refine ⟨out y :: ys.map out, M2, ?_, i2, y :: ys, rfl, by simp [hl], fun z hz => ?_⟩
    · rw [List.map_cons]
      unfold lcL
      rw [e1]
      dsimp only
      rw [e2]
      dsimp only
      rw [e3]
      simp only [R.noexc_ok, R.bind_ok]
      rw [e4]
      rfl
    · simp only [List.mem_cons] at hz
      rcases hz with rfl | hz
      · exact ⟨x, by simp, p⟩
      · obtain ⟨x', hx, q'⟩ := q z hz
        exact ⟨x', by simp [hx], q'⟩
/-! ### loops, behind which P holds -/
theorem ws_for {α β : Type} {P : SR → Prop} {F : FEnv} {wf : Nat} {r b : List IS} {tg : Tg} {kl : List Nat} {s : Slots} {M : Store} (emb : α → Val) (S : β → Slots) (Z : β → Store) (I : Nat → β → Prop) {xs : List α} (b0 : β) (es : s = S b0) (eM : M = Z b0) (h0 : I 0 b0)
    (hb : ∀ (i : Nat) (x : α), xs[i]? = some x → ∀ b', I i b' → WS (fun y => ∃ b2, y = .next (S b2) (Z b2) ∧ I (i + 1) b2) (turn (evSs F wf b) tg kl (emb x) (S b') (Z b')))
    (hk : ∀ b', I xs.length b' → WS P (evSs F wf r (S b') (Z b'))) : WS P (cont F wf r (forL (evSs F wf b) tg kl (xs.map emb) s M)) := by
  subst es eM
  obtain ⟨b1, e, q⟩ := for_to emb S Z I h0 hb
  rw [e]
  exact hk b1 q
theorem ws_lcp {α β : Type} {P : SR → Prop} {F : FEnv} {e : IE} {i : Nat} {s s0 : Slots} {M : Store} {emb : α → Val} (g : α → PyData) {xs : List α} {f : List Val → Store → SR}
    (he : ∀ x ∈ xs, evE F e (s0.set i (some (emb x))) M = .ok (.d (g x)) M) (H : WS P (f ((xs.map g).map .d) M)) : WS P ((lcE F (.lit (.bool true)) e (.one i) s0 (xs.map emb) M).toT s f) := by
  have : lcE F (.lit (.bool true)) e (.one i) s0 (xs.map emb) M = .ok ((xs.map g).map .d) M := by
    unfold lcE
    clear H
    induction xs with
    | nil => rfl
    | cons x xs ih =>
      rw [List.map_cons]
      unfold lcL
      simp only [asgT]
      rw [ev_lit]
      dsimp only
      rw [he x (by simp)]
      simp only [R.noexc_ok, R.bind_ok]
      rw [ih fun y hy => he y (by simp [hy])]
      rfl
  rw [this]
  exact H
theorem ws_wipe {P : SR → Prop} {kl : List Nat} {x : SR} (h : WS (fun y => P (wipeS kl y)) x) : WS P (wipeS kl x) := h
theorem idx_mem {xs : List PyData} {i : Int} (h0 : 0 ≤ i) (h1 : i < xs.length) : ∃ d ∈ xs, atI xs i = some d := by
  refine ⟨xs.getD i.toNat .none, getD_mem (by omega), at_in h0 h1⟩
theorem ws_idxL {P : SR → Prop} {s : Slots} {M : Store} {xs : List PyData} {i : Int} {f : Val → Store → SR} (h0 : 0 ≤ i) (h1 : i < xs.length) (H : ∀ d ∈ xs, WS P (f (.d d) M)) : WS P ((idxD M (.d (.list xs)) (.d (.int i))).toT s f) := by
  obtain ⟨d, hd, e⟩ := idx_mem h0 h1
  rw [idx_l e]
  exact H d hd
theorem ws_idxT {P : SR → Prop} {s : Slots} {M : Store} {xs : List PyData} {i : Int} {f : Val → Store → SR} (h0 : 0 ≤ i) (h1 : i < xs.length) (H : ∀ d ∈ xs, WS P (f (.d d) M)) : WS P ((idxD M (.d (.tuple xs)) (.d (.int i))).toT s f) := by
  obtain ⟨d, hd, e⟩ := idx_mem h0 h1
  rw [idx_t e]
  exact H d hd
theorem while_ex {β : Type} {c : Slots → Store → R Val} {body : Slots → Store → SR} {kl : List Nat} (S : β → Slots) (Z : β → Store) (I J : β → Prop) (m : β → Nat)
    (step : ∀ b, I b → WS (fun y => ∃ cb b1, y = .ret (.d (.bool cb)) (Z b1) ∧ S b1 = S b ∧ (cb = false → J b1) ∧ (cb = true → WS (fun z => ∃ b2, wipeS kl z = .next (S b2) (Z b2) ∧ I b2 ∧ m b2 < m b) (body (S b) (Z b1)))) ((c (S b) (Z b)).toT [] fun v M => .ret v M)) :
    ∀ {n : Nat} {b : β}, I b → m b < n → ∃ b', whileL c body kl n (S b) (Z b) = .next (S b') (Z b') ∧ J b'
  | 0, b, p, hm => by omega
  | n + 1, b, p, hm => by
    obtain ⟨cb, b1, e, es, h1, h2⟩ := step b p
    have e := of_ret e
    unfold whileL
    rw [e]
    cases cb with
    | false => exact ⟨b1, by rw [es], h1 rfl⟩
    | true =>
      obtain ⟨b2, e2, p2, m2⟩ := h2 rfl
      obtain ⟨b3, e3, j3⟩ := while_ex S Z I J m step (n := n) p2 (by omega)
      refine ⟨b3, ?_, j3⟩
      dsimp only
      cases z : body (S b) (Z b1) with
      | next s M =>
        rw [z] at e2
        have e3' : SR.next (wipe s kl) M = .next (S b2) (Z b2) := e2
        injection e3' with e4 e5
        dsimp only
        rw [e4, e5]
        exact e3
      | ret v M => rw [z] at e2; cases e2
      | exc c s M => rw [z] at e2; cases e2
      | bad => rw [z] at e2; cases e2
theorem ws_while {β : Type} {P : SR → Prop} {F : FEnv} {wf n : Nat} {r b : List IS} {c : IE} {kl : List Nat} {s : Slots} {M : Store} (S : β → Slots) (Z : β → Store) (I J : β → Prop) (m : β → Nat) (b0 : β) (es : s = S b0) (eM : M = Z b0) (h0 : I b0) (hm : m b0 < n)
    (step : ∀ b', I b' → WS (fun y => ∃ cb b1, y = .ret (.d (.bool cb)) (Z b1) ∧ S b1 = S b' ∧ (cb = false → J b1) ∧ (cb = true → WS (fun z => ∃ b2, wipeS kl z = .next (S b2) (Z b2) ∧ I b2 ∧ m b2 < m b') (evSs F wf b (S b') (Z b1)))) ((evE F c (S b') (Z b')).toT [] fun v M => .ret v M))
    (hk : ∀ b', J b' → WS P (evSs F wf r (S b') (Z b'))) : WS P (cont F wf r (whileL (evE F c) (evSs F wf b) kl n s M)) := by
  subst es eM
  obtain ⟨b1, e, q⟩ := while_ex S Z I J m step h0 hm
  rw [e]
  exact hk b1 q
def setslR (M : Store) (x l h v : Val) : R Val := setSl M x l h v
theorem ss_setsl1 {F : FEnv} {wf : Nat} {s : Slots} {M : Store} {r : List IS} (o lo hi e : IE) : evSs F wf (.setsl o lo hi e :: r) s M = (evE F e s M).toS s fun v M => (evE F o s M).toS s fun x M => (evE F lo s M).toS s fun l M => if (part l).isSome then (evE F hi s M).toS s fun h M => (setSl M x l h v).toS s fun _ M => evSs F wf r s M else .bad := by
  show cont F wf r (evS F wf (.setsl o lo hi e) s M) = _
  unfold evS
  cases evE F e s M with
  | exc c M1 => rfl
  | bad => rfl
  | ok v M1 =>
    simp only [R.toS_ok]
    cases evE F o s M1 with
    | exc c M1 => rfl
    | bad => rfl
    | ok x M2 =>
      simp only [R.toS_ok]
      cases evE F lo s M2 with
      | exc c M1 => rfl
      | bad => rfl
      | ok l M3 =>
        simp only [R.toS_ok]
        by_cases hp : (part l).isSome = true
        · rw [if_pos hp, if_pos hp]
          cases evE F hi s M3 with
          | exc c M1 => rfl
          | bad => rfl
          | ok h M4 =>
            simp only [R.toS_ok]
            cases setSl M4 x l h v <;> rfl
        · rw [if_neg hp, if_neg hp]; rfl
theorem fin_0 {d : PyData} {M : Store} : fin 0 (.ret (.d d) M) = .ok (.d d) [] := by
  rw [fin_ret]
  unfold exitV
  simp
theorem upTo_eq (i : Int) (n : Nat) : upTo i n = (List.range n).map fun k : Nat => .d (.int (i + (k : Int))) := (rfl)
theorem okD_map {α : Type} {n : Nat} {f : α → PyData} (h : ∀ x, okD n (f x) = true) (xs : List α) : okD (n + 1) (.list (xs.map f)) = true := by
  simp [okD, h]
theorem ne_ints {α : Type} {M : Store} {f : α → Int} {xs : List α} : cmpD M .NotEq (.d (.list (xs.map fun x => .int (f x)))) (.d (.list (xs.map fun x => .int (f x)))) = bl false M := ne_self (okD_map (n := 29) (fun _ => rfl) _)
theorem okD_mapT {α : Type} {n : Nat} {f : α → PyData} (h : ∀ x, okD n (f x) = true) (xs : List α) : okD (n + 1) (.tuple (xs.map f)) = true := by
  simp [okD, h]
end Gv

namespace Gv
open PySem
theorem turn_four {body : Slots → Store → SR} {i j k l : Nat} {kl : List Nat} {x y z w : PyData} {s : Slots} {M : Store} : turn body (.many [i, j, k, l]) kl (.d (.tuple [x, y, z, w])) s M = wipeS kl (body ((((s.set i (some (.d x))).set j (some (.d y))).set k (some (.d z))).set l (some (.d w))) M) := (rfl)
theorem turn_five {body : Slots → Store → SR} {i j k l m : Nat} {kl : List Nat} {x y z w v : PyData} {s : Slots} {M : Store} : turn body (.many [i, j, k, l, m]) kl (.d (.tuple [x, y, z, w, v])) s M = wipeS kl (body (((((s.set i (some (.d x))).set j (some (.d y))).set k (some (.d z))).set l (some (.d w))).set m (some (.d v))) M) := (rfl)
theorem mkL_n {M : Store} : mkL true [] M = .ok (.ref M.length) (M ++ [.lst []]) := (rfl)
theorem snocRec {α : Type} {P : List α → Prop} (nil : P []) (snoc : ∀ (l : List α) (a : α), P l → P (l ++ [a])) : ∀ l : List α, P l := by
  intro l
  have : ∀ m : List α, P m.reverse := by
    intro m
    induction m with
    | nil => exact nil
    | cons a m ih => rw [List.reverse_cons]; exact snoc _ _ ih
  have h := this l.reverse
  rwa [List.reverse_reverse] at h
theorem rng_at {n i k : Nat} (h : (List.range n)[i]? = some k) : i < n ∧ k = i := by
  rw [List.getElem?_eq_some_iff] at h
  obtain ⟨h1, h2⟩ := h
  simp at h1 h2
  exact ⟨h1, h2.symm⟩
theorem thenS_next {s : Slots} {M : Store} {f : Slots → Store → SR} : thenS (.next s M) f = f s M := (rfl)
theorem thenS_ret {v : Val} {M : Store} {f : Slots → Store → SR} : thenS (.ret v M) f = .ret v M := (rfl)
theorem thenS_exc {c : Nat} {s : Slots} {M : Store} {f : Slots → Store → SR} : thenS (.exc c s M) f = .exc c s M := (rfl)
/-! ### append -/
def appP (M : Store) (a : Nat) : Option Cell → R Val
  | some (.lst _) => .ok (.ref a) M
  | _ => .bad
def appA (M : Store) : Val → R Val
  | .ref a => appP M a M[a]?
  | _ => .bad
def appC (M : Store) (a : Nat) (v : Val) : Option Cell → R Val
  | some (.lst vs) => if vs.length < lim then .ok (.d .none) (M.set a (.lst (vs ++ [v]))) else .bad
  | _ => .bad
def appB (M : Store) (v : Val) : Val → R Val
  | .ref a => appC M a v M[a]?
  | _ => .bad
theorem ss_app2 {F : FEnv} {wf : Nat} {s : Slots} {M : Store} {r : List IS} (o e : IE) : evSs F wf (.app o e :: r) s M = (evE F o s M).toT s fun x M => (appA M x).toT s fun x M => (evE F e s M).toT s fun v M => (appB M v x).toT s fun _ M => evSs F wf r s M := by
  rw [ss_app1]
  cases evE F o s M with
  | exc c M1 => rfl
  | bad => rfl
  | ok x M1 =>
    rw [R.toS_ok, toT_k]
    cases x with
    | ref a =>
      unfold appA
      dsimp only
      cases h : M1[a]? with
      | none => rfl
      | some c =>
        cases c with
        | lst vs0 =>
          unfold appP
          rw [toT_k]
          dsimp only
          cases evE F e s M1 with
          | exc c M1 => rfl
          | bad => rfl
          | ok v M2 =>
            rw [R.toS_ok, toT_k]
            unfold appB
            dsimp only
            cases h : M2[a]? with
            | none => rfl
            | some c =>
              cases c with
              | lst vs =>
                unfold appC
                dsimp only
                by_cases h : vs.length < lim
                · rw [if_pos h, if_pos h]; rfl
                · rw [if_neg h, if_neg h]; rfl
              | _ => rfl
        | _ => rfl
    | _ => rfl
theorem appA_r {M : Store} {a : Nat} : appA M (.ref a) = appP M a M[a]? := (rfl)
theorem appP_k {M : Store} {a : Nat} {vs : List Val} : appP M a (some (.lst vs)) = .ok (.ref a) M := (rfl)
theorem appB_r {M : Store} {a : Nat} {v : Val} : appB M v (.ref a) = appC M a v M[a]? := (rfl)
theorem appC_k {M : Store} {a : Nat} {v : Val} {vs : List Val} (h : vs.length < 16777216) : appC M a v (some (.lst vs)) = .ok (.d .none) (M.set a (.lst (vs ++ [v]))) := by
  show (if vs.length < lim then R.ok (Val.d .none) (M.set a (.lst (vs ++ [v]))) else .bad) = _
  rw [if_pos (show vs.length < lim from h)]
theorem get_last {α : Type} (Q : List α) (x : α) : (Q ++ [x])[Q.length]? = some x := by simp
theorem set_last {α : Type} (Q : List α) (x y : α) : (Q ++ [x]).set Q.length y = Q ++ [y] := by simp
/-! ### what is read off a cell -/
def tupC (M : Store) : Option Cell → R Val
  | some (.lst vs) => (match allD vs with | some ds => .ok (.d (.tuple ds)) M | none => .bad)
  | _ => .bad
theorem tup_rr {al : Bool} {M : Store} {a : Nat} : biD al .tuple [.ref a] M = tupC M M[a]? := by
  show (match lstD M (.ref a) with | some xs => R.ok (Val.d (.tuple xs)) M | none => .bad) = _
  unfold lstD
  dsimp only
  cases M[a]? with
  | none => rfl
  | some c => cases c <;> rfl
theorem tupC_k {M : Store} {ds : List PyData} : tupC M (some (.lst (ds.map .d))) = .ok (.d (.tuple ds)) M := by
  unfold tupC
  dsimp only
  rw [allD_map]
theorem tupC_0 {M : Store} : tupC M (some (.lst [])) = .ok (.d (.tuple [])) M := (rfl)
def lenC (M : Store) : Option Cell → R Val
  | some (.lst vs) => .ok (.d (.int vs.length)) M
  | some (.dct _ kvs) => .ok (.d (.int kvs.length)) M
  | _ => .bad
theorem len_rr {al : Bool} {M : Store} {a : Nat} : biD al .len [.ref a] M = lenC M M[a]? := by
  show (match lenD M (.ref a) with | some n => R.ok (Val.d (.int n)) M | none => .bad) = _
  unfold lenD
  dsimp only
  cases M[a]? with
  | none => rfl
  | some c => cases c <;> rfl
theorem lenC_k {M : Store} {vs : List Val} : lenC M (some (.lst vs)) = .ok (.d (.int vs.length)) M := (rfl)
theorem lenC_d {M : Store} {t : Bool} {kvs : List (KK × Val)} : lenC M (some (.dct t kvs)) = .ok (.d (.int kvs.length)) M := (rfl)
/-! ### loops that put together a list -/
theorem for_fm {α : Type} {body : Slots → Store → SR} {tg : Tg} {kl : List Nat} {s : Slots} (M : Store) (emb : α → Val) (g : α → Option PyData) (Z : List PyData → Store) {xs : List α} (eM : M = Z []) (hl : xs.length ≤ 1000000)
    (h : ∀ x ∈ xs, ∀ acc : List PyData, acc.length < 1000000 → turn body tg kl (emb x) s (Z acc) = .next s (Z (acc ++ (g x).toList))) :
    forL body tg kl (xs.map emb) s M = .next s (Z (xs.filterMap g)) := by
  subst eM
  obtain ⟨b, e, q⟩ := for_to (body := body) (tg := tg) (kl := kl) emb (fun _ : List PyData => s) Z (xs := xs) (fun i b => b = (xs.take i).filterMap g) (b := []) rfl (fun i x hx b hb => by
    obtain ⟨hi, _⟩ := List.getElem?_eq_some_iff.mp hx
    have hlen : b.length < 1000000 := by
      rw [hb]
      have := List.length_filterMap_le g (xs.take i)
      rw [List.length_take] at this
      omega
    refine ⟨b ++ (g x).toList, h x (List.mem_of_getElem? hx) b hlen, ?_⟩
    rw [hb, List.take_add_one, hx, List.filterMap_append]
    show _ = _ ++ List.filterMap g [x]
    cases hgx : g x with
    | none => simp [hgx]
    | some y => simp [hgx])
  rw [List.take_length] at q
  rw [e, q]
theorem fin_fl {n0 : Nat} {M : Store} {ds : List PyData} {d : PyData} : fin M.length (.ret (.d d) (M ++ [.lst (ds.map .d)])) = (if M.all (Cell.below M.length) then .ok (.d d) M else .ok (.d d) (M ++ [.lst (ds.map .d)])) := by
  rw [fin_ret]
  unfold exitV
  simp
theorem fin_l0 {ds : List PyData} {Q : Store} : fin 0 (.ret (.ref 0) (.lst (ds.map .d) :: Q)) = .ok (.d (.list ds)) [] := by
  rw [fin_ret]
  exact exit_frz rfl (Nat.zero_le _) rfl
/-! ### items by their places -/
theorem idx_ti {M : Store} {xs : List Int} {i : Int} (h0 : 0 ≤ i) (h1 : i < xs.length) : idxD M (.d (.tuple (xs.map .int))) (.d (.int i)) = .ok (.d (.int (xs.getD i.toNat 0))) M := idx_t (map_at PyData.int xs 0 h0 h1)
theorem idx_li {M : Store} {xs : List Int} {i : Int} (h0 : 0 ≤ i) (h1 : i < xs.length) : idxD M (.d (.list (xs.map .int))) (.d (.int i)) = .ok (.d (.int (xs.getD i.toNat 0))) M := idx_l (map_at PyData.int xs 0 h0 h1)
/-- a list of those that a test lets through -/
theorem lc_filter {α : Type} {F : FEnv} {c e : IE} {i : Nat} {s0 : Slots} {M : Store} {emb : α → Val} (p : α → Bool) (g : α → PyData) : ∀ {xs : List α},
    (∀ x ∈ xs, evE F c (s0.set i (some (emb x))) M = bl (p x) M) → (∀ x ∈ xs, p x = true → evE F e (s0.set i (some (emb x))) M = .ok (.d (g x)) M) → lcE F c e (.one i) s0 (xs.map emb) M = .ok (((xs.filter p).map g).map .d) M
  | [], _, _ => rfl
  | x :: xs, hc, he => by
    have ih := lc_filter p g (xs := xs) (fun y hy => hc y (by simp [hy])) (fun y hy => he y (by simp [hy]))
    unfold lcE at ih ⊢
    rw [List.map_cons]
    unfold lcL
    simp only [asgT]
    rw [hc x (by simp)]
    cases hp : p x with
    | true =>
      simp only [bl]
      rw [he x (by simp) hp]
      simp only [R.noexc_ok, R.bind_ok]
      rw [ih]
      simp [hp]
    | false =>
      simp only [bl]
      rw [ih]
      simp [hp]
theorem lc_eq {α : Type} {F : FEnv} {e : IE} {i : Nat} {s0 : Slots} {M : Store} {emb : α → Val} (g : α → PyData) {xs : List α} (h : ∀ x ∈ xs, evE F e (s0.set i (some (emb x))) M = .ok (.d (g x)) M) : lcE F (.lit (.bool true)) e (.one i) s0 (xs.map emb) M = .ok ((xs.map g).map .d) M := by
  have := lc_filter (F := F) (c := .lit (.bool true)) (e := e) (i := i) (s0 := s0) (M := M) (emb := emb) (fun _ => true) g (xs := xs) (fun x _ => rfl) (fun x hx _ => h x hx)
  have e : xs.filter (fun _ => true) = xs := List.filter_eq_self.mpr fun _ _ => rfl
  rwa [e] at this
theorem idx_rr {M : Store} {a : Nat} {α : Type} {f : α → Val} {xs : List α} {d : α} {i : Int} (h : M[a]? = some (.lst (xs.map f))) (h0 : 0 ≤ i) (h1 : i < xs.length) : idxD M (.ref a) (.d (.int i)) = .ok (f (xs.getD i.toNat d)) M := by
  refine idx_r h ?_
  unfold atI ixN
  rw [List.length_map, if_pos h0, if_pos h1]
  have h3 : i.toNat < xs.length := by omega
  simp [List.getElem?_eq_getElem, h3, List.getD_eq_getElem?_getD]
theorem ixN_in {n : Nat} {i : Int} (h0 : 0 ≤ i) (h1 : i < n) : ixN n i = some i.toNat := by
  unfold ixN
  rw [if_pos h0, if_pos h1]
/-! ### lists that may change, walked -/
def srcCC (en : Bool) (n : Nat) (M : Store) : Option Cell → R Src
  | some (.lst _) => .ok (.cel n en) M
  | _ => .bad
theorem srcC_r {en : Bool} {n : Nat} {M : Store} : srcC en (.ref n) M = srcCC en n M M[n]? := by
  show (match M[n]? with | some (.lst _) => R.ok (Src.cel n en) M | _ => .bad) = _
  cases M[n]? with
  | none => rfl
  | some c => cases c <;> rfl
theorem srcCC_k {en : Bool} {n : Nat} {M : Store} {vs : List Val} : srcCC en n M (some (.lst vs)) = .ok (.cel n en) M := (rfl)
theorem srcC_l {M : Store} {xs : List PyData} : srcC false (.d (.list xs)) M = .ok (.vs (xs.map .d)) M := (rfl)
theorem srcC_t {M : Store} {xs : List PyData} : srcC false (.d (.tuple xs)) M = .ok (.vs (xs.map .d)) M := (rfl)
theorem srcC_s {M : Store} {z : Str} (h : z.length ≤ 16777216) : srcC false (.d (.str z)) M = .ok (.vs (z.cps.toList.map fun c => .d (.str ⟨#[c]⟩))) M := by
  have h' : z.length ≤ lim := h
  simp [srcC, seqD, h']
theorem srcC_el {M : Store} {xs : List PyData} : srcC true (.d (.list xs)) M = .ok (.vs ((List.range xs.length).zipWith (fun (k : Nat) x => Val.d (.tuple [.int (k : Int), x])) xs)) M := (rfl)
theorem srcC_et {M : Store} {xs : List PyData} : srcC true (.d (.tuple xs)) M = .ok (.vs ((List.range xs.length).zipWith (fun (k : Nat) x => Val.d (.tuple [.int (k : Int), x])) xs)) M := (rfl)
theorem forC_run {α β : Type} {body : Slots → Store → SR} {tg : Tg} {kl : List Nat} {n : Nat} {en : Bool} (emb : α → Val) (w : Nat → α → Val) (S : β → Slots) (Z : β → Store) (I : Nat → β → Prop) {xs : List α} (ew : ∀ i x, enV en i (emb x) = some (w i x)) (hZ : ∀ i b, I i b → (Z b)[n]? = some (.lst (xs.map emb)))
    (hb : ∀ (i : Nat) (x : α), xs[i]? = some x → ∀ b, I i b → ∃ b', turn body tg kl (w i x) (S b) (Z b) = .next (S b') (Z b') ∧ I (i + 1) b') :
    ∀ (f i : Nat) (b : β), i ≤ xs.length → xs.length - i < f → I i b → ∃ b', forC body tg kl n en f i (S b) (Z b) = .next (S b') (Z b') ∧ I xs.length b'
  | 0, i, b, _, h, _ => by omega
  | f + 1, i, b, hi, hf, p => by
    have hc : cellAt (Z b) n i = some (xs[i]?.map emb) := by
      unfold cellAt
      rw [hZ i b p]
      simp
    unfold forC
    rw [hc]
    by_cases hlt : i < xs.length
    · have hx : xs[i]? = some xs[i] := by simp [hlt]
      obtain ⟨b1, e1, p1⟩ := hb i _ hx b p
      rw [hx]
      simp only [Option.map_some]
      rw [asgE_of (ew i xs[i])]
      obtain ⟨b2, e2, p2⟩ := forC_run emb w S Z I ew hZ hb f (i + 1) b1 (by omega) (by omega) p1
      refine ⟨b2, ?_, p2⟩
      unfold turn at e1
      cases ea : asgT tg (w i xs[i]) (S b) with
      | none => rw [ea] at e1; cases e1
      | some s1 =>
        rw [ea] at e1
        dsimp only at e1 ⊢
        cases eb : body s1 (Z b) with
        | next s2 M2 =>
          rw [eb] at e1
          have e3 : SR.next (wipe s2 kl) M2 = .next (S b1) (Z b1) := e1
          injection e3 with e4 e5
          dsimp only
          rw [e4, e5]
          exact e2
        | ret v M => rw [eb] at e1; cases e1
        | exc c s M => rw [eb] at e1; cases e1
        | bad => rw [eb] at e1; cases e1
    · have : i = xs.length := by omega
      subst this
      have hx : xs[xs.length]? = none := by simp
      rw [hx]
      exact ⟨b, rfl, p⟩
theorem lenCel_of {M : Store} {n : Nat} {vs : List Val} (h : M[n]? = some (.lst vs)) : lenCel M n = vs.length + 1 := by
  unfold lenCel
  rw [h]
theorem ws_forc {α β : Type} {P : SR → Prop} {F : FEnv} {wf n : Nat} {r b : List IS} {tg : Tg} {kl : List Nat} {s : Slots} {M : Store} (emb : α → Val) (S : β → Slots) (Z : β → Store) (I : Nat → β → Prop) {xs : List α} (b0 : β) (es : s = S b0) (eM : M = Z b0) (h0 : I 0 b0) (hZ : ∀ i b, I i b → (Z b)[n]? = some (.lst (xs.map emb)))
    (hb : ∀ (i : Nat) (x : α), xs[i]? = some x → ∀ b', I i b' → WS (fun y => ∃ b2, y = .next (S b2) (Z b2) ∧ I (i + 1) b2) (turn (evSs F wf b) tg kl (emb x) (S b') (Z b')))
    (hk : ∀ b', I xs.length b' → WS P (evSs F wf r (S b') (Z b'))) : WS P (cont F wf r (forT (evSs F wf b) tg kl (.cel n false) s M)) := by
  subst es eM
  obtain ⟨b1, e, q⟩ := forC_run (en := false) emb (fun _ x => emb x) S Z I (fun _ _ => rfl) hZ hb (xs.length + 1) 0 b0 (by omega) (by omega) h0
  have : forT (evSs F wf b) tg kl (.cel n false) (S b0) (Z b0) = forC (evSs F wf b) tg kl n false (xs.length + 1) 0 (S b0) (Z b0) := by
    show forC (evSs F wf b) tg kl n false (lenCel (Z b0) n) 0 (S b0) (Z b0) = _
    rw [lenCel_of (hZ 0 b0 h0), List.length_map]
  rw [this, e]
  exact hk b1 q
theorem ws_force {α β : Type} {P : SR → Prop} {F : FEnv} {wf n : Nat} {r b : List IS} {tg : Tg} {kl : List Nat} {s : Slots} {M : Store} (emb : α → PyData) (S : β → Slots) (Z : β → Store) (I : Nat → β → Prop) {xs : List α} (b0 : β) (es : s = S b0) (eM : M = Z b0) (h0 : I 0 b0) (hZ : ∀ i b, I i b → (Z b)[n]? = some (.lst (xs.map fun x => .d (emb x))))
    (hb : ∀ (i : Nat) (x : α), xs[i]? = some x → ∀ b', I i b' → WS (fun y => ∃ b2, y = .next (S b2) (Z b2) ∧ I (i + 1) b2) (turn (evSs F wf b) tg kl (.d (.tuple [.int (i : Int), emb x])) (S b') (Z b')))
    (hk : ∀ b', I xs.length b' → WS P (evSs F wf r (S b') (Z b'))) : WS P (cont F wf r (forT (evSs F wf b) tg kl (.cel n true) s M)) := by
  subst es eM
  obtain ⟨b1, e, q⟩ := forC_run (en := true) (fun x => Val.d (emb x)) (fun i x => Val.d (.tuple [.int (i : Int), emb x])) S Z I (fun _ _ => rfl) hZ hb (xs.length + 1) 0 b0 (by omega) (by omega) h0
  have : forT (evSs F wf b) tg kl (.cel n true) (S b0) (Z b0) = forC (evSs F wf b) tg kl n true (xs.length + 1) 0 (S b0) (Z b0) := by
    show forC (evSs F wf b) tg kl n true (lenCel (Z b0) n) 0 (S b0) (Z b0) = _
    rw [lenCel_of (hZ 0 b0 h0), List.length_map]
  rw [this, e]
  exact hk b1 q
theorem lcC_filter {α : Type} {F : FEnv} {c e : IE} {tg : Tg} {s0 : Slots} {M : Store} {n : Nat} {en : Bool} (emb : α → Val) (w : Nat → α → Val) (sl : Nat → α → Slots) (p : Nat → α → Bool) (g : Nat → α → PyData) {xs : List α} (hM : M[n]? = some (.lst (xs.map emb))) (ew : ∀ i x, enV en i (emb x) = some (w i x))
    (ha : ∀ i x, asgT tg (w i x) s0 = some (sl i x)) (hc : ∀ i x, xs[i]? = some x → evE F c (sl i x) M = bl (p i x) M) (he : ∀ i x, xs[i]? = some x → p i x = true → evE F e (sl i x) M = .ok (.d (g i x)) M) :
    ∀ (f i : Nat), i ≤ xs.length → xs.length - i < f → lcC (evE F c) (evE F e) tg s0 n en f i M = .ok ((((List.range' i (xs.length - i)).filterMap fun j => (xs[j]?).bind fun x => if p j x then some (g j x) else none)).map .d) M
  | 0, i, _, h => by omega
  | f + 1, i, hi, hf => by
    have hcl : cellAt M n i = some (xs[i]?.map emb) := by
      unfold cellAt
      rw [hM]
      simp
    unfold lcC
    rw [hcl]
    by_cases hlt : i < xs.length
    · have hx : xs[i]? = some xs[i] := by simp [hlt]
      have ih := lcC_filter emb w sl p g hM ew ha hc he f (i + 1) (by omega) (by omega)
      have hr : List.range' i (xs.length - i) = i :: List.range' (i + 1) (xs.length - (i + 1)) := by
        have : xs.length - i = (xs.length - (i + 1)) + 1 := by omega
        rw [this, List.range'_succ]
      rw [hx]
      simp only [Option.map_some]
      rw [asgE_of (ew i xs[i]), ha]
      dsimp only
      rw [hc i _ hx, hr, List.filterMap_cons, hx]
      simp only [Option.bind_some]
      cases hp : p i xs[i] with
      | true =>
        simp only [bl]
        rw [he i _ hx hp]
        simp only [R.noexc_ok, R.bind_ok]
        rw [ih]
        simp
      | false =>
        simp only [bl]
        rw [ih]
        simp
    · have : i = xs.length := by omega
      subst this
      have hx : xs[xs.length]? = none := by simp
      rw [hx]
      simp
theorem range_filterMap {α β : Type} (xs : List α) (f : Nat → α → Option β) (g : α → Option β) (h : ∀ i x, xs[i]? = some x → f i x = g x) : (List.range' 0 (xs.length - 0)).filterMap (fun j => (xs[j]?).bind fun x => f j x) = xs.filterMap g := by
  have key : ∀ (k : Nat), k ≤ xs.length → (List.range' 0 k).filterMap (fun j => (xs[j]?).bind fun x => f j x) = (xs.take k).filterMap g := by
    intro k
    induction k with
    | zero => intro _; rfl
    | succ k ih =>
      intro hk
      rw [List.range'_concat, List.filterMap_append, ih (by omega), List.take_add_one, List.filterMap_append]
      have hx : xs[k]? = some xs[k] := by simp [show k < xs.length from by omega]
      simp only [Nat.zero_add, Nat.one_mul]
      rw [hx]
      simp [h k _ hx, List.filterMap_cons, hx]
  have := key xs.length (Nat.le_refl _)
  rw [List.take_length] at this
  simpa using this
theorem lcc_filter {α : Type} {F : FEnv} {c e : IE} {i : Nat} {s0 : Slots} {M : Store} {n : Nat} {emb : α → Val} (p : α → Bool) (g : α → PyData) {xs : List α} (hM : M[n]? = some (.lst (xs.map emb)))
    (hc : ∀ x ∈ xs, evE F c (s0.set i (some (emb x))) M = bl (p x) M) (he : ∀ x ∈ xs, p x = true → evE F e (s0.set i (some (emb x))) M = .ok (.d (g x)) M) : lcSE F c e (.one i) s0 (.cel n false) M = .ok (((xs.filter p).map g).map .d) M := by
  show lcC (evE F c) (evE F e) (.one i) s0 n false (lenCel M n) 0 M = _
  rw [lenCel_of hM, List.length_map, lcC_filter (en := false) emb (fun _ x => emb x) (fun _ x => s0.set i (some (emb x))) (fun _ => p) (fun _ => g) hM (fun _ _ => rfl) (fun _ _ => rfl) (fun j x hx => hc x (List.mem_of_getElem? hx)) (fun j x hx => he x (List.mem_of_getElem? hx)) (xs.length + 1) 0 (by omega) (by omega)]
  rw [range_filterMap xs (fun _ x => if p x then some (g x) else none) (fun x => if p x then some (g x) else none) (fun _ _ _ => rfl)]
  congr 2
  clear hM hc he
  induction xs with
  | nil => rfl
  | cons x xs ih => by_cases h : p x = true <;> simp [h, ih]
theorem lcc_eq {α : Type} {F : FEnv} {e : IE} {i : Nat} {s0 : Slots} {M : Store} {n : Nat} {emb : α → Val} (g : α → PyData) {xs : List α} (hM : M[n]? = some (.lst (xs.map emb)))
    (he : ∀ x ∈ xs, evE F e (s0.set i (some (emb x))) M = .ok (.d (g x)) M) : lcSE F (.lit (.bool true)) e (.one i) s0 (.cel n false) M = .ok ((xs.map g).map .d) M := by
  rw [lcc_filter (fun _ => true) g hM (fun _ _ => rfl) (fun x hx _ => he x hx)]
  have e : xs.filter (fun _ => true) = xs := List.filter_eq_self.mpr fun _ _ => rfl
  rw [e]
theorem okD_mono : ∀ {n m : Nat} {d : PyData}, okD n d = true → n ≤ m → okD m d = true
  | n, m, .none, _, _ => by cases m <;> rfl
  | n, m, .bool _, _, _ => by cases m <;> rfl
  | n, m, .int _, _, _ => by cases m <;> rfl
  | n, m, .str x, h, _ => by cases n <;> cases m <;> exact h
  | 0, m, .list xs, h, _ => by simp [okD] at h
  | 0, m, .tuple xs, h, _ => by simp [okD] at h
  | n, m, .dict _, h, _ => by cases n <;> simp [okD] at h
  | n + 1, 0, .list xs, h, hl => by omega
  | n + 1, 0, .tuple xs, h, hl => by omega
  | n + 1, m + 1, .list xs, h, hl => by
    simp only [okD, List.all_eq_true] at h ⊢
    exact fun x hx => okD_mono (h x hx) (by omega)
  | n + 1, m + 1, .tuple xs, h, hl => by
    simp only [okD, List.all_eq_true] at h ⊢
    exact fun x hx => okD_mono (h x hx) (by omega)
/-- a while that may return, as a recursion -/
theorem while_rec {β : Type} {c : Slots → Store → R Val} {body : Slots → Store → SR} {kl : List Nat} (K : SR → SR) (S : β → Slots) (Z : β → Store) (P : β → Prop) (m : β → Nat) (out : Nat → β → SR)
    (step : ∀ n b, P b → m b < n + 1 → (c (S b) (Z b) = .ok (.d (.bool false)) (Z b) ∧ K (.next (S b) (Z b)) = out (n + 1) b) ∨ (c (S b) (Z b) = .ok (.d (.bool true)) (Z b) ∧ ((∃ v M, body (S b) (Z b) = .ret v M ∧ K (.ret v M) = out (n + 1) b) ∨ ∃ b', wipeS kl (body (S b) (Z b)) = .next (S b') (Z b') ∧ P b' ∧ m b' < m b ∧ out (n + 1) b = out n b'))) :
    ∀ (n : Nat) (b : β), P b → m b < n → K (whileL c body kl n (S b) (Z b)) = out n b
  | 0, b, _, h => by omega
  | n + 1, b, p, h => by
    unfold whileL
    rcases step n b p h with ⟨e, q⟩ | ⟨e, ⟨v, M, eb, q⟩ | ⟨b', eb, p', hm, q⟩⟩
    · rw [e]; exact q
    · rw [e]
      dsimp only
      rw [eb]
      exact q
    · rw [e]
      dsimp only
      rw [q]
      cases z : body (S b) (Z b) with
      | next s M =>
        rw [z] at eb
        have e3 : SR.next (wipe s kl) M = .next (S b') (Z b') := eb
        injection e3 with e4 e5
        dsimp only
        rw [e4, e5]
        exact while_rec K S Z P m out step n b' p' (by omega)
      | ret v M => rw [z] at eb; cases eb
      | exc c s M => rw [z] at eb; cases eb
      | bad => rw [z] at eb; cases eb
end Gv

namespace Gv
open PySem
/-! ### stores that hold no place beyond their end -/
def Cl (M : Store) : Prop := ∀ c ∈ M, Cell.below M.length c = true
def bV (n : Nat) (v : Val) : Prop := below n v = true
def bVs (n : Nat) (vs : List Val) : Prop := ∀ v ∈ vs, below n v = true
def bS (n : Nat) (s : Slots) : Prop := ∀ v, some v ∈ s → below n v = true
theorem below_up {n m : Nat} {v : Val} (h : below n v = true) (hn : n ≤ m) : below m v = true := by
  cases v with
  | ref a => simp [below] at h ⊢; omega
  | _ => rfl
theorem bVs.up {n m : Nat} {vs : List Val} (h : bVs n vs) (hn : n ≤ m) : bVs m vs := fun v hv => below_up (h v hv) hn
theorem bS.up {n m : Nat} {s : Slots} (h : bS n s) (hn : n ≤ m) : bS m s := fun v hv => below_up (h v hv) hn
theorem cell_up {n m : Nat} {c : Cell} (h : Cell.below n c = true) (hn : n ≤ m) : Cell.below m c = true := by
  cases c with
  | lst vs => simp only [Cell.below, List.all_eq_true] at h ⊢; exact fun v hv => below_up (h v hv) hn
  | dct t kvs => simp only [Cell.below, List.all_eq_true] at h ⊢; exact fun v hv => below_up (h v hv) hn
  | ins c fs => simp only [Cell.below, List.all_eq_true] at h ⊢; exact fun v hv => below_up (h v hv) hn
  | tup vs => simp only [Cell.below, List.all_eq_true] at h ⊢; exact fun v hv => below_up (h v hv) hn
theorem Cl.nil : Cl [] := fun c h => by cases h
theorem Cl.app1 {M : Store} {c : Cell} (h : Cl M) (hc : Cell.below (M.length + 1) c = true) : Cl (M ++ [c]) := by
  intro d hd
  have e : (M ++ [c]).length = M.length + 1 := by simp
  rw [e]
  rcases List.mem_append.mp hd with hd | hd
  · exact cell_up (h d hd) (by omega)
  · simp at hd; subst hd; exact hc
theorem Cl.set {M : Store} {c : Cell} {i : Nat} (h : Cl M) (hc : Cell.below M.length c = true) : Cl (M.set i c) := by
  intro d hd
  rw [List.length_set]
  rcases List.mem_or_eq_of_mem_set hd with hd | hd
  · exact h d hd
  · subst hd; exact hc
theorem Cl.get {M : Store} {c : Cell} {i : Nat} (h : Cl M) (e : M[i]? = some c) : Cell.below M.length c = true := h c (List.mem_of_getElem? e)
theorem Cl.lst {M : Store} {vs : List Val} {i : Nat} (h : Cl M) (e : M[i]? = some (.lst vs)) : bVs M.length vs := by
  have := h.get e
  simp only [Cell.below, List.all_eq_true] at this
  exact this
theorem Cl.tup {M : Store} {vs : List Val} {i : Nat} (h : Cl M) (e : M[i]? = some (.tup vs)) : bVs M.length vs := by
  have := h.get e
  simp only [Cell.below, List.all_eq_true] at this
  exact this
theorem Cl.dct {M : Store} {t : Bool} {kvs : List (KK × Val)} {i : Nat} (h : Cl M) (e : M[i]? = some (.dct t kvs)) : ∀ p ∈ kvs, below M.length p.2 = true := by
  have := h.get e
  simp only [Cell.below, List.all_eq_true] at this
  exact this
theorem Cl.ins {M : Store} {c : Nat} {fs : List (Nat × Val)} {i : Nat} (h : Cl M) (e : M[i]? = some (.ins c fs)) : ∀ p ∈ fs, below M.length p.2 = true := by
  have := h.get e
  simp only [Cell.below, List.all_eq_true] at this
  exact this
theorem lst_b {n : Nat} {vs : List Val} (h : bVs n vs) : Cell.below n (.lst vs) = true := by
  simp only [Cell.below, List.all_eq_true]; exact h
theorem bVs_d {n : Nat} (ds : List PyData) : bVs n (ds.map .d) := fun v hv => by
  obtain ⟨x, _, rfl⟩ := List.mem_map.mp hv
  rfl
theorem bVs_allD {n : Nat} {vs : List Val} {ds : List PyData} (h : allD vs = some ds) : bVs n vs := by
  induction vs generalizing ds with
  | nil => intro v hv; cases hv
  | cons v vs ih =>
    cases v with
    | d x =>
      simp only [allD] at h
      cases h2 : allD vs with
      | none => rw [h2] at h; simp at h
      | some es =>
        intro w hw
        rcases List.mem_cons.mp hw with rfl | hw
        · rfl
        · exact ih h2 w hw
    | _ => simp [allD] at h
theorem bVs.cons {n : Nat} {v : Val} {vs : List Val} (h : below n v = true) (hs : bVs n vs) : bVs n (v :: vs) := fun w hw => by
  rcases List.mem_cons.mp hw with rfl | hw
  · exact h
  · exact hs w hw
theorem bVs.app {n : Nat} {vs ws : List Val} (h : bVs n vs) (hs : bVs n ws) : bVs n (vs ++ ws) := fun w hw => by
  rcases List.mem_append.mp hw with hw | hw
  · exact h w hw
  · exact hs w hw
theorem bVs.nil {n : Nat} : bVs n [] := fun w hw => by cases hw
/-! ### what comes of a walk -/
def RC {α : Type} (A : Nat → α → Prop) (n : Nat) : R α → Prop
  | .ok a M => Cl M ∧ n ≤ M.length ∧ A M.length a
  | .exc _ M => Cl M ∧ n ≤ M.length
  | .bad => True
theorem RC.bind {α β : Type} {A : Nat → α → Prop} {B : Nat → β → Prop} {n : Nat} {r : R α} {f : α → Store → R β} (h : RC A n r) (k : ∀ a M, Cl M → n ≤ M.length → A M.length a → RC B n (f a M)) : RC B n (r.bind f) := by
  cases r with
  | ok a M => exact k a M h.1 h.2.1 h.2.2
  | exc c M => exact h
  | bad => trivial
theorem RC.noexc {α : Type} {A : Nat → α → Prop} {n : Nat} {r : R α} (h : RC A n r) : RC A n r.noexc := by
  cases r with
  | ok a M => exact h
  | exc c M => trivial
  | bad => trivial
theorem RC.less {α : Type} {A : Nat → α → Prop} {n m : Nat} {r : R α} (h : RC A m r) (hn : n ≤ m) : RC A n r := by
  cases r with
  | ok a M => exact ⟨h.1, Nat.le_trans hn h.2.1, h.2.2⟩
  | exc c M => exact ⟨h.1, Nat.le_trans hn h.2⟩
  | bad => trivial
section
variable {M : Store} {n : Nat} {al : Bool}
theorem mkL_c {xs : List PyData} (h : Cl M) (hn : n ≤ M.length) : RC bV n (mkL al xs M) := by
  cases al with
  | false => exact ⟨h, hn, rfl⟩
  | true =>
    refine ⟨h.app1 (lst_b (bVs_d xs)), by simp; omega, ?_⟩
    show below _ (.ref M.length) = true
    simp [below]
theorem mkLV_c {vs : List Val} (h : Cl M) (hn : n ≤ M.length) (hv : bVs M.length vs) : RC bV n (mkLV al vs M) := by
  unfold mkLV
  split
  · exact mkL_c h hn
  · refine ⟨h.app1 (lst_b (hv.up (by omega))), by simp; omega, ?_⟩
    show below _ (.ref M.length) = true
    simp [below]
theorem bl_c {b : Bool} (h : Cl M) (hn : n ≤ M.length) : RC bV n (bl b M) := ⟨h, hn, rfl⟩
theorem bin_c {op : Operator} {x y : Val} (h : Cl M) (hn : n ≤ M.length) : RC bV n (binD al M op x y) := by
  unfold binD addD mulD
  (repeat' split) <;> first | trivial | exact ⟨h, hn, rfl⟩ | exact mkL_c h hn
theorem cmp_c {op : CmpOp} {x y : Val} (h : Cl M) (hn : n ≤ M.length) : RC bV n (cmpD M op x y) := by
  unfold cmpD
  (repeat' split) <;> first | trivial | exact bl_c h hn
theorem atI_mem {α : Type} {xs : List α} {i : Int} {v : α} (h : atI xs i = some v) : v ∈ xs := by
  unfold atI at h
  cases h2 : ixN xs.length i with
  | none => rw [h2] at h; cases h
  | some j => rw [h2] at h; exact List.mem_of_getElem? h
theorem dGet_mem {kvs : List (KK × Val)} {k : KK} {v : Val} (h : dGet kvs k = some v) : ∃ p ∈ kvs, p.2 = v := by
  unfold dGet at h
  rw [Option.map_eq_some_iff] at h
  obtain ⟨p, h1, h2⟩ := h
  exact ⟨p, List.mem_of_find?_eq_some h1, h2⟩
theorem idx_c {x i : Val} (h : Cl M) (hn : n ≤ M.length) : RC bV n (idxD M x i) := by
  unfold idxD
  split
  · split
    · exact ⟨h, hn, rfl⟩
    · trivial
  · split
    · exact ⟨h, hn, rfl⟩
    · trivial
  · split
    · split
      · exact ⟨h, hn, rfl⟩
      · trivial
    · trivial
  · split
    · rename_i vs e
      split
      · rename_i v ev
        exact ⟨h, hn, h.lst e v (atI_mem ev)⟩
      · trivial
    · rename_i kvs e
      split
      · rename_i v ev
        obtain ⟨p, hp, rfl⟩ := dGet_mem ev
        exact ⟨h, hn, h.dct e p hp⟩
      · trivial
    · rename_i vs e
      split
      · rename_i v ev
        exact ⟨h, hn, h.tup e v (atI_mem ev)⟩
      · trivial
    · trivial
  · split
    · rename_i t kvs e
      split
      · split
        · rename_i v ev
          obtain ⟨p, hp, rfl⟩ := dGet_mem ev
          exact ⟨h, hn, h.dct e p hp⟩
        · trivial
      · trivial
    · trivial
  · trivial
theorem sl_c {x : Val} {lo hi : Option Int} (h : Cl M) (hn : n ≤ M.length) : RC bV n (slD al M x lo hi) := by
  unfold slD
  (repeat' split) <;> first | trivial | exact ⟨h, hn, rfl⟩ | exact mkL_c h hn
theorem rev_c {x : Val} (h : Cl M) (hn : n ≤ M.length) : RC bV n (revD al M x) := by
  unfold revD
  (repeat' split) <;> first | trivial | exact ⟨h, hn, rfl⟩ | exact mkL_c h hn
theorem bi_c {f : Bf} {vs : List Val} (h : Cl M) (hn : n ≤ M.length) : RC bV n (biD al f vs M) := by
  unfold biD biLen biList biTuple biInt biMin biMax biAll biDivmod biMax1 biMin1 biSorted biStr biLenset biSortset
  (repeat' split) <;> first | trivial | exact ⟨h, hn, rfl⟩ | exact mkL_c h hn | exact bl_c h hn
theorem put_b {kvs : List (KK × Val)} {k : KK} {v : Val} {m : Nat} (h : ∀ p ∈ kvs, below m p.2 = true) (hv : below m v = true) : ∀ p ∈ dPut kvs k v, below m p.2 = true := by
  intro p hp
  unfold dPut at hp
  split at hp
  · obtain ⟨q, hq, rfl⟩ := List.mem_map.mp hp
    split
    · exact hv
    · exact h q hq
  · rcases List.mem_append.mp hp with hp | hp
    · exact h p hp
    · simp at hp; subst hp; exact hv
theorem dct_b {kvs : List (KK × Val)} {t : Bool} {m : Nat} (h : ∀ p ∈ kvs, below m p.2 = true) : Cell.below m (.dct t kvs) = true := by
  simp only [Cell.below, List.all_eq_true]; exact h
theorem ins_b {fs : List (Nat × Val)} {c : Nat} {m : Nat} (h : ∀ p ∈ fs, below m p.2 = true) : Cell.below m (.ins c fs) = true := by
  simp only [Cell.below, List.all_eq_true]; exact h
theorem items_b {v : Val} {zs : List Val} (h : Cl M) (e : itemsV M v = some zs) : bVs M.length zs := by
  unfold itemsV at e
  split at e
  · injection e with e; subst e; exact bVs_d _
  · split at e
    · injection e with e; subst e; exact h.lst (by assumption)
    · cases e
  · cases e
theorem mtL_c {m : Mt} {a : Nat} {ls vs : List Val} (h : Cl M) (hn : n ≤ M.length) (hl : bVs M.length ls) (hv : bVs M.length vs) : RC bV n (mtL m a ls vs M) := by
  have key : ∀ (c : Cell) (v : Val), Cell.below M.length c = true → below M.length v = true → RC bV n (.ok v (M.set a c)) := fun c v hc hv => ⟨h.set hc, by rw [List.length_set]; exact hn, by rw [List.length_set]; exact hv⟩
  unfold mtL
  split
  · exact key _ _ (lst_b bVs.nil) rfl
  · split
    · rename_i zs e
      split
      · exact key _ _ (lst_b (hl.app (items_b h e))) rfl
      · trivial
    · trivial
  · split
    · rename_i v e
      exact key _ _ (lst_b fun w hw => hl w (List.dropLast_subset _ hw)) (hl v (List.mem_of_getElem? e))
    · trivial
  · split
    · split
      · split
        · rename_i v e
          exact key _ _ (lst_b fun w hw => hl w (List.mem_of_mem_eraseIdx hw)) (hl v (List.mem_of_getElem? e))
        · trivial
      · trivial
    · trivial
  · split
    · refine key _ _ (lst_b fun w hw => ?_) rfl
      simp only [List.mem_append, List.mem_singleton] at hw
      rcases hw with (hw | hw) | hw
      · exact hl w (List.mem_of_mem_take hw)
      · subst hw; exact hv _ (by simp)
      · exact hl w (List.mem_of_mem_drop hw)
    · trivial
  · trivial
theorem mtDct_c {m : Mt} {a : Nat} {t : Bool} {kvs : List (KK × Val)} {vs : List Val} (h : Cl M) (hn : n ≤ M.length) (hl : ∀ p ∈ kvs, below M.length p.2 = true) (hv : bVs M.length vs) : RC bV n (mtDct m a t kvs vs M) := by
  unfold mtDct
  split
  · split
    · split
      · rename_i w e
        obtain ⟨p, hp, rfl⟩ := dGet_mem e
        exact ⟨h, hn, hl p hp⟩
      · split
        · exact ⟨h.set (dct_b (put_b hl (hv _ (by simp)))), by rw [List.length_set]; exact hn, by rw [List.length_set]; exact hv _ (by simp)⟩
        · trivial
    · trivial
  · split
    · rename_i k e
      refine ⟨h, hn, ?_⟩
      cases e2 : dGet kvs k with
      | none => exact hv _ (by simp)
      | some w =>
        obtain ⟨p, hp, rfl⟩ := dGet_mem e2
        exact hl p hp
    · trivial
  · trivial
theorem mtStr_c {m : Mt} {z : Str} {vs : List Val} (h : Cl M) (hn : n ≤ M.length) : RC bV n (mtStr al m z vs M) := by
  unfold mtStr
  (repeat' split) <;> first | trivial | exact ⟨h, hn, rfl⟩ | exact mkL_c h hn
theorem mt_c {m : Mt} {x : Val} {vs : List Val} (h : Cl M) (hn : n ≤ M.length) (hv : bVs M.length vs) : RC bV n (mtD al m x vs M) := by
  unfold mtD
  split
  · unfold mtDL
    split
    · (repeat' split) <;> first | trivial | exact ⟨h, hn, rfl⟩
    · (repeat' split) <;> first | trivial | exact ⟨h, hn, rfl⟩
    · split
      · split
        · rename_i e
          exact mtL_c h hn (h.lst e) hv
        · trivial
      · trivial
  · split
    · exact mtStr_c h hn
    · trivial
  · split
    · rename_i a t kvs e
      unfold dctAt at e
      split at e
      · split at e
        · rename_i e2
          injection e with e
          obtain ⟨rfl, rfl, rfl⟩ : _ ∧ _ ∧ _ := by
            injection e with e1 e2
            injection e2 with e2 e3
            exact ⟨e1, e2, e3⟩
          exact mtDct_c h hn (h.dct e2) hv
        · cases e
      · cases e
    · trivial
theorem pair_b {m : Nat} : ∀ {vs : List Val} {kvs : List (KK × Val)}, bVs m vs → pairUp vs = some kvs → ∀ p ∈ kvs, below m p.2 = true
  | [], kvs, _, e, p, hp => by simp [pairUp] at e; subst e; cases hp
  | [v], kvs, _, e, p, hp => by cases v <;> simp [pairUp] at e
  | v :: w :: r, kvs, hv, e, p, hp => by
    cases v with
    | d k =>
      unfold pairUp at e
      cases h1 : keyK false k with
      | none => rw [h1] at e; cases e
      | some k' =>
        rw [h1] at e
        cases h2 : pairUp r with
        | none => rw [h2] at e; cases e
        | some q =>
          rw [h2] at e
          simp at e
          subst e
          rcases List.mem_cons.mp hp with rfl | hp
          · exact hv w (by simp)
          · exact pair_b (fun x hx => hv x (by simp [hx])) h2 p hp
    | _ => simp [pairUp] at e
theorem merge_b {m : Nat} (kvs : List (KK × Val)) (h : ∀ p ∈ kvs, below m p.2 = true) : ∀ p ∈ mergeD kvs, below m p.2 = true := by
  unfold mergeD
  have : ∀ (kvs acc : List (KK × Val)), (∀ p ∈ acc, below m p.2 = true) → (∀ p ∈ kvs, below m p.2 = true) → ∀ p ∈ kvs.foldl (fun acc kv => dPut acc kv.1 kv.2) acc, below m p.2 = true := by
    intro kvs
    induction kvs with
    | nil => intro acc ha _; exact ha
    | cons q kvs ih => intro acc ha hk; exact ih _ (put_b ha (hk q (by simp))) (fun p hp => hk p (by simp [hp]))
  exact this kvs [] (fun p hp => by cases hp) h
theorem dctFin_c {k : Nat} {tk : Bool} {vs : List Val} (h : Cl M) (hn : n ≤ M.length) (hv : bVs M.length vs) : RC bV n (dctFin k tk vs M) := by
  unfold dctFin
  split
  · rename_i e1 e2
    split
    · refine ⟨h.set (dct_b (merge_b _ (pair_b hv e2))), by rw [List.length_set]; exact hn, ?_⟩
      rw [List.length_set]
      have := (List.getElem?_eq_some_iff.mp e1).1
      show below _ (.ref k) = true
      simp [below, this]
    · trivial
  · trivial
theorem insAt_b {x : Val} {a c : Nat} {fs : List (Nat × Val)} (h : Cl M) (e : insAt M x = some (a, c, fs)) : a < M.length ∧ ∀ p ∈ fs, below M.length p.2 = true := by
  unfold insAt at e
  split at e
  · split at e
    · rename_i e2
      injection e with e
      injection e with e1 e3
      injection e3 with e3 e4
      subst e1 e3 e4
      exact ⟨(List.getElem?_eq_some_iff.mp e2).1, h.ins e2⟩
    · cases e
  · cases e
theorem look_mem {fs : List (Nat × Val)} {f : Nat} {v : Val} (h : fs.lookup f = some v) : ∃ p ∈ fs, p.2 = v := by
  induction fs with
  | nil => cases h
  | cons p fs ih =>
    rw [List.lookup_cons] at h
    split at h
    · injection h with h; exact ⟨p, by simp, h⟩
    · obtain ⟨q, hq, e⟩ := ih h; exact ⟨q, by simp [hq], e⟩
theorem putV_b {fs : List (Nat × Val)} {f m : Nat} {v : Val} (h : ∀ p ∈ fs, below m p.2 = true) (hv : below m v = true) : ∀ p ∈ putV f v fs, below m p.2 = true := by
  induction fs with
  | nil => intro p hp; simp [putV] at hp; subst hp; exact hv
  | cons q fs ih =>
    intro p hp
    unfold putV at hp
    split at hp
    · rcases List.mem_cons.mp hp with rfl | hp
      · exact hv
      · exact h p (by simp [hp])
    · rcases List.mem_cons.mp hp with rfl | hp
      · exact h _ (by simp)
      · exact ih (fun p hp => h p (by simp [hp])) p hp
theorem putAt_c {x v : Val} {f : Nat} (h : Cl M) (hn : n ≤ M.length) (hv : below M.length v = true) : RC bV n (putAt M x f v) := by
  unfold putAt
  split
  · rename_i a c fs e
    split
    · exact ⟨h.set (ins_b (putV_b (insAt_b h e).2 hv)), by rw [List.length_set]; exact hn, rfl⟩
    · trivial
  · trivial
theorem putAtC_c {x v : Val} {c f : Nat} (h : Cl M) (hn : n ≤ M.length) (hv : below M.length v = true) : RC bV n (putAtC M x c f v) := by
  unfold putAtC
  split
  · split
    · exact putAt_c h hn hv
    · trivial
  · trivial
theorem setD_c {x y v : Val} (h : Cl M) (hn : n ≤ M.length) (hv : below M.length v = true) : RC bV n (setD M x y v) := by
  unfold setD
  split
  · split
    · rename_i vs e
      split
      · split
        · refine ⟨h.set (lst_b fun w hw => ?_), by rw [List.length_set]; exact hn, rfl⟩
          rcases List.mem_or_eq_of_mem_set hw with hw | hw
          · exact h.lst e w hw
          · subst hw; exact hv
        · trivial
      · trivial
    · rename_i t kvs e
      split
      · split
        · exact ⟨h.set (dct_b (put_b (h.dct e) hv)), by rw [List.length_set]; exact hn, rfl⟩
        · trivial
      · trivial
    · trivial
  · trivial
theorem setSl_c {x l i v : Val} (h : Cl M) (hn : n ≤ M.length) : RC bV n (setSl M x l i v) := by
  unfold setSl
  split
  · split
    · rename_i vs ds e
      split
      · refine ⟨h.set (lst_b fun w hw => ?_), by rw [List.length_set]; exact hn, rfl⟩
        simp only [List.mem_append] at hw
        rcases hw with (hw | hw) | hw
        · exact h.lst e w (List.mem_of_mem_take hw)
        · exact bVs_d ds w hw
        · exact h.lst e w (List.mem_of_mem_drop hw)
      · trivial
    · trivial
  · trivial
theorem aug_c {op : Operator} {x y : Val} (h : Cl M) (hn : n ≤ M.length) : RC bV n (augD M op x y) := by
  unfold augD
  (repeat' split) <;> first | trivial | exact ⟨h, hn, rfl⟩
end
end Gv

namespace Gv
open PySem
structure FC (F : FEnv) : Prop where
  c : ∀ f vs M, Cl M → bVs M.length vs → RC bV M.length (F.call f vs M)
  c0 : ∀ f vs M, Cl M → bVs M.length vs → RC bV M.length (F.call0 f vs M)
theorem bS.set {n : Nat} {s : Slots} {i : Nat} {o : Option Val} (h : bS n s) (ho : ∀ v, o = some v → below n v = true) : bS n (s.set i o) := by
  intro v hv
  rcases List.mem_or_eq_of_mem_set hv with hv | hv
  · exact h v hv
  · exact ho v hv.symm
theorem bS.wipe {n : Nat} {s : Slots} (h : bS n s) : ∀ ks : List Nat, bS n (wipe s ks)
  | [] => h
  | k :: ks => (h.wipe ks).set fun v hv => by cases hv
theorem setAll_b {n : Nat} : ∀ {is : List Nat} {vs : List Val} {s s' : Slots}, bS n s → bVs n vs → setAll is vs s = some s' → bS n s'
  | [], [], s, s', h, _, e => by simp [setAll] at e; subst e; exact h
  | [], _ :: _, s, s', h, _, e => by simp [setAll] at e
  | _ :: _, [], s, s', h, _, e => by simp [setAll] at e
  | i :: is, v :: vs, s, s', h, hv, e => by
    unfold setAll at e
    exact setAll_b (h.set fun w hw => by injection hw with hw; subst hw; exact hv _ (by simp)) (fun w hw => hv w (by simp [hw])) e
theorem asgT_b {n : Nat} {tg : Tg} {v : Val} {s s' : Slots} (h : bS n s) (hv : below n v = true) (e : asgT tg v s = some s') : bS n s' := by
  unfold asgT at e
  split at e
  · injection e with e
    subst e
    exact h.set fun w hw => by injection hw with hw; subst hw; exact hv
  · split at e
    · exact setAll_b h (bVs_d _) e
    · cases e
theorem shift_b {n k : Nat} {v : Val} (h : below n v = true) : below (k + n) (v.shift k) = true := by
  cases v with
  | ref a => simp [below, Val.shift] at h ⊢; omega
  | _ => rfl
theorem cshift_b {n k : Nat} {c : Cell} (h : Cell.below n c = true) : Cell.below (k + n) (c.shift k) = true := by
  cases c with
  | lst vs => simp only [Cell.below, Cell.shift, List.all_eq_true, List.mem_map] at h ⊢; rintro v ⟨w, hw, rfl⟩; exact shift_b (h w hw)
  | dct t kvs => simp only [Cell.below, Cell.shift, List.all_eq_true, List.mem_map] at h ⊢; rintro v ⟨w, hw, rfl⟩; exact shift_b (h w hw)
  | ins c fs => simp only [Cell.below, Cell.shift, List.all_eq_true, List.mem_map] at h ⊢; rintro v ⟨w, hw, rfl⟩; exact shift_b (h w hw)
  | tup vs => simp only [Cell.below, Cell.shift, List.all_eq_true, List.mem_map] at h ⊢; rintro v ⟨w, hw, rfl⟩; exact shift_b (h w hw)
theorem Cl.shift {M Q : Store} (h : Cl M) (hq : Cl Q) : Cl (M ++ Q.map (Cell.shift M.length)) := by
  intro c hc
  rw [List.length_append, List.length_map]
  rcases List.mem_append.mp hc with hc | hc
  · exact cell_up (h c hc) (by omega)
  · obtain ⟨d, hd, rfl⟩ := List.mem_map.mp hc
    exact cshift_b (hq d hd)
theorem callV_c {F : FEnv} (hF : FC F) {f : Nat} {vs : List Val} {M : Store} {n : Nat} (h : Cl M) (hn : n ≤ M.length) (hv : bVs M.length vs) : RC bV n (callV F f vs M) := by
  unfold callV
  split
  · rename_i ds e
    have q := hF.c f vs [] Cl.nil (bVs_allD e)
    split
    · rename_i v M' e2
      rw [e2] at q
      refine ⟨h.shift q.1, by simp; omega, ?_⟩
      rw [List.length_append, List.length_map]
      exact shift_b q.2.2
    · exact ⟨h, hn⟩
    · trivial
  · exact (hF.c f vs M h hv).less hn
def bJ (n : Nat) : Src → Prop
  | .vs l => bVs n l
  | .cel _ _ => True
  | .zc _ _ => True
theorem brV_c {x : Val} {M : Store} {f g : Store → R Val} {n : Nat} (hf : RC bV n (f M)) (hg : RC bV n (g M)) : RC bV n (brV x M f g) := by
  unfold brV
  split
  · exact hf
  · exact hg
  · trivial
theorem rngD_b {vs l : List Val} {n : Nat} (h : rngD vs = some l) : bVs n l := by
  have key : ∀ (k : Nat) (f : Nat → PyData), bVs n ((List.range k).map fun j => Val.d (f j)) := fun k f v hv => by
    obtain ⟨j, _, rfl⟩ := List.mem_map.mp hv
    rfl
  unfold rngD at h
  split at h
  · split at h
    · injection h with h; subst h; exact key _ _
    · cases h
  · split at h
    · injection h with h; subst h; exact key _ _
    · cases h
  · split at h
    · injection h with h; subst h; exact key _ _
    · cases h
  · cases h
theorem zw_b {n : Nat} {α β : Type} (f : α → β → PyData) (xs : List α) (ys : List β) : bVs n (List.zipWith (fun a b => Val.d (f a b)) xs ys) := by
  intro v hv
  obtain ⟨i, hi⟩ := List.getElem?_of_mem hv
  rw [List.getElem?_zipWith] at hi
  split at hi
  · injection hi with hi; subst hi; rfl
  · cases hi
theorem seqD_b {v : Val} {l : List Val} {n : Nat} (h : seqD v = some l) : bVs n l := by
  unfold seqD at h
  split at h
  · injection h with h; subst h; exact bVs_d _
  · injection h with h; subst h; exact bVs_d _
  · split at h
    · injection h with h; subst h
      intro v hv
      obtain ⟨j, _, rfl⟩ := List.mem_map.mp hv
      rfl
    · cases h
  · cases h
theorem enumD_b {v : Val} {l : List Val} {n : Nat} (h : enumD v = some l) : bVs n l := by
  unfold enumD at h
  split at h
  · injection h with h; subst h; exact zw_b _ _ _
  · injection h with h; subst h; exact zw_b _ _ _
  · cases h
theorem zipD_b {v w : Val} {l : List Val} {n : Nat} (h : zipD v w = some l) : bVs n l := by
  unfold zipD at h
  split at h
  · injection h with h; subst h; exact zw_b _ _ _
  · injection h with h; subst h; exact zw_b _ _ _
  · cases h
theorem ofOpt_c {o : Option (List Val)} {M : Store} {n : Nat} (h : Cl M) (hn : n ≤ M.length) (ho : ∀ l, o = some l → bVs M.length l) : RC bJ n (ofOpt (o.map Src.vs) M) := by
  cases o with
  | none => trivial
  | some l => exact ⟨h, hn, ho l rfl⟩
theorem cellAt_b {M : Store} {a i : Nat} {v : Val} (h : Cl M) (e : cellAt M a i = some (some v)) : below M.length v = true := by
  unfold cellAt at e
  split at e
  · rename_i vs e2
    injection e with e
    exact h.lst e2 v (List.mem_of_getElem? e)
  · cases e
theorem enV_b {en : Bool} {i n : Nat} {v w : Val} (h : below n v = true) (e : enV en i v = some w) : below n w = true := by
  unfold enV at e
  split at e
  · split at e
    · injection e with e; subst e; rfl
    · cases e
  · injection e with e; subst e; exact h
theorem asgE_b {en : Bool} {i n : Nat} {tg : Tg} {v : Val} {s s' : Slots} (h : bS n s) (hv : below n v = true) (e : asgE en i tg v s = some s') : bS n s' := by
  unfold asgE at e
  split at e
  · rename_i w ew
    exact asgT_b h (enV_b hv ew) e
  · split at e
    · injection e with e
      subst e
      refine (h.set fun w hw => ?_).set fun w hw => ?_
      · injection hw with hw; subst hw; rfl
      · injection hw with hw; subst hw; exact hv
    · cases e
theorem RC.seq {α β : Type} {A : Nat → α → Prop} {B : Nat → β → Prop} {n : Nat} {r : R α} {f : α → Store → R β} (h : RC A n r) (k : ∀ a M, Cl M → n ≤ M.length → A M.length a → RC B M.length (f a M)) : RC B n (r.bind f) :=
  h.bind fun a M h1 h2 h3 => (k a M h1 h2 h3).less h2
section
variable {cond elt : Slots → Store → R Val} {tg : Tg}
theorem lcL_c (hc : ∀ s M, Cl M → bS M.length s → RC bV M.length (cond s M)) (he : ∀ s M, Cl M → bS M.length s → RC bV M.length (elt s M)) : ∀ (l : List Val) (s : Slots) (M : Store), Cl M → bS M.length s → bVs M.length l → RC bVs M.length (lcL cond elt tg s l M)
  | [], s, M, h, _, _ => ⟨h, Nat.le_refl _, bVs.nil⟩
  | v :: vs, s, M, h, hs, hl => by
    unfold lcL
    split
    · trivial
    · rename_i s1 e1
      have hs1 := asgT_b hs (hl v (by simp)) e1
      have q := hc s1 M h hs1
      split
      · rename_i M1 e2
        rw [e2] at q
        obtain ⟨q1, q2, _⟩ := q
        refine RC.less (m := M1.length) ?_ q2
        refine RC.seq (he s1 M1 q1 (hs1.up q2)) fun y M2 h2 hn2 hy => ?_
        refine RC.seq (lcL_c hc he vs s M2 h2 (hs.up (Nat.le_trans q2 hn2)) (fun w hw => below_up (hl w (by simp [hw])) (Nat.le_trans q2 hn2))) fun ys M3 h3 hn3 hys => ?_
        exact ⟨h3, Nat.le_refl _, bVs.cons (below_up hy hn3) hys⟩
      · rename_i M1 e2
        rw [e2] at q
        obtain ⟨q1, q2, _⟩ := q
        exact (lcL_c hc he vs s M1 q1 (hs.up q2) (fun w hw => below_up (hl w (by simp [hw])) q2)).less q2
      · trivial
theorem lcC_c (hc : ∀ s M, Cl M → bS M.length s → RC bV M.length (cond s M)) (he : ∀ s M, Cl M → bS M.length s → RC bV M.length (elt s M)) (a : Nat) (en : Bool) : ∀ (f i : Nat) (s : Slots) (M : Store), Cl M → bS M.length s → RC bVs M.length (lcC cond elt tg s a en f i M)
  | 0, i, s, M, h, _ => trivial
  | f + 1, i, s, M, h, hs => by
    unfold lcC
    split
    · trivial
    · exact ⟨h, Nat.le_refl _, bVs.nil⟩
    · rename_i v ev
      split
      · trivial
      · rename_i s1 e1
        have hs1 : bS M.length s1 := by
          exact asgE_b hs (cellAt_b h ev) e1
        have q := hc s1 M h hs1
        split
        · rename_i M1 e2
          rw [e2] at q
          obtain ⟨q1, q2, _⟩ := q
          refine RC.less (m := M1.length) ?_ q2
          refine RC.seq (he s1 M1 q1 (hs1.up q2)) fun y M2 h2 hn2 hy => ?_
          refine RC.seq (lcC_c hc he a en f (i + 1) s M2 h2 (hs.up (Nat.le_trans q2 hn2))) fun ys M3 h3 hn3 hys => ?_
          exact ⟨h3, Nat.le_refl _, bVs.cons (below_up hy hn3) hys⟩
        · rename_i M1 e2
          rw [e2] at q
          obtain ⟨q1, q2, _⟩ := q
          exact (lcC_c hc he a en f (i + 1) s M1 q1 (hs.up q2)).less q2
        · trivial
theorem lcS_c (hc : ∀ s M, Cl M → bS M.length s → RC bV M.length (cond s M)) (he : ∀ s M, Cl M → bS M.length s → RC bV M.length (elt s M)) {J : Src} {s : Slots} {M : Store} (h : Cl M) (hs : bS M.length s) (hJ : bJ M.length J) : RC bVs M.length (lcS cond elt tg s J M) := by
  unfold lcS
  split
  · exact lcL_c hc he _ s M h hs hJ
  · exact lcC_c hc he _ _ _ _ s M h hs
  · trivial
end
mutual
theorem evE_c {F : FEnv} (hF : FC F) : ∀ (e : IE) (s : Slots) (M : Store), Cl M → bS M.length s → RC bV M.length (evE F e s M)
  | .lit x, s, M, h, hs => ⟨h, Nat.le_refl _, rfl⟩
  | .var i, s, M, h, hs => by
    unfold evE
    split
    · rename_i v e
      exact ⟨h, Nat.le_refl _, hs v (List.mem_of_getElem? e)⟩
    · trivial
  | .bin al op a b, s, M, h, hs => by
    unfold evE
    refine RC.seq (evE_c hF a s M h hs) fun x M1 h1 n1 _ => ?_
    refine RC.seq (evE_c hF b s M1 h1 (hs.up n1)) fun y M2 h2 n2 _ => ?_
    exact bin_c h2 (Nat.le_refl _)
  | .neg a, s, M, h, hs => by
    unfold evE
    refine RC.seq (evE_c hF a s M h hs) fun x M1 h1 n1 _ => ?_
    split
    · exact ⟨h1, Nat.le_refl _, rfl⟩
    · trivial
  | .not a, s, M, h, hs => by
    unfold evE
    refine RC.seq (evE_c hF a s M h hs) fun x M1 h1 n1 _ => ?_
    split
    · exact bl_c h1 (Nat.le_refl _)
    · trivial
  | .and a b, s, M, h, hs => by
    unfold evE
    refine RC.seq (evE_c hF a s M h hs) fun x M1 h1 n1 _ => ?_
    exact brV_c (evE_c hF b s M1 h1 (hs.up n1)) (bl_c h1 (Nat.le_refl _))
  | .or a b, s, M, h, hs => by
    unfold evE
    refine RC.seq (evE_c hF a s M h hs) fun x M1 h1 n1 _ => ?_
    exact brV_c (bl_c h1 (Nat.le_refl _)) (evE_c hF b s M1 h1 (hs.up n1))
  | .cmp op a b, s, M, h, hs => by
    unfold evE
    refine RC.seq (evE_c hF a s M h hs) fun x M1 h1 n1 _ => ?_
    refine RC.seq (evE_c hF b s M1 h1 (hs.up n1)) fun y M2 h2 n2 _ => ?_
    exact cmp_c h2 (Nat.le_refl _)
  | .chain op op' a b c, s, M, h, hs => by
    unfold evE
    refine RC.seq (evE_c hF a s M h hs) fun x M1 h1 n1 _ => ?_
    refine RC.seq (evE_c hF b s M1 h1 (hs.up n1)) fun y M2 h2 n2 _ => ?_
    refine RC.seq (cmp_c h2 (Nat.le_refl _)) fun z M3 h3 n3 _ => ?_
    refine brV_c ?_ (bl_c h3 (Nat.le_refl _))
    refine RC.seq (evE_c hF c s M3 h3 (hs.up (Nat.le_trans n1 (Nat.le_trans n2 n3)))) fun w M4 h4 n4 _ => ?_
    exact cmp_c h4 (Nat.le_refl _)
  | .chain3 op op' op2 a b c d, s, M, h, hs => by
    unfold evE
    refine RC.seq (evE_c hF a s M h hs) fun x M1 h1 n1 _ => ?_
    refine RC.seq (evE_c hF b s M1 h1 (hs.up n1)) fun y M2 h2 n2 _ => ?_
    refine RC.seq (cmp_c h2 (Nat.le_refl _)) fun z M3 h3 n3 _ => ?_
    refine brV_c ?_ (bl_c h3 (Nat.le_refl _))
    have n123 := Nat.le_trans n1 (Nat.le_trans n2 n3)
    refine RC.seq (evE_c hF c s M3 h3 (hs.up n123)) fun w M4 h4 n4 _ => ?_
    refine RC.seq (cmp_c h4 (Nat.le_refl _)) fun z2 M5 h5 n5 _ => ?_
    refine brV_c ?_ (bl_c h5 (Nat.le_refl _))
    refine RC.seq (evE_c hF d s M5 h5 (hs.up (Nat.le_trans n123 (Nat.le_trans n4 n5)))) fun w2 M6 h6 n6 _ => ?_
    exact cmp_c h6 (Nat.le_refl _)
  | .ifx c a b, s, M, h, hs => by
    unfold evE
    refine RC.seq (evE_c hF c s M h hs) fun x M1 h1 n1 _ => ?_
    exact brV_c (evE_c hF a s M1 h1 (hs.up n1)) (evE_c hF b s M1 h1 (hs.up n1))
  | .tup es, s, M, h, hs => by
    unfold evE
    refine RC.seq (evEs_c hF es s M h hs) fun vs M1 h1 n1 hv => ?_
    split
    · exact ⟨h1, Nat.le_refl _, rfl⟩
    · refine ⟨h1.app1 ?_, by simp, ?_⟩
      · simp only [Cell.below, List.all_eq_true]; exact hv.up (by omega)
      · show below _ (.ref M1.length) = true
        simp [below]
  | .lst al es, s, M, h, hs => by
    unfold evE
    refine RC.seq (evEs_c hF es s M h hs) fun vs M1 h1 n1 hv => ?_
    exact mkLV_c h1 (Nat.le_refl _) hv
  | .idx a i, s, M, h, hs => by
    unfold evE
    refine RC.seq (evE_c hF a s M h hs) fun x M1 h1 n1 _ => ?_
    refine RC.seq (evE_c hF i s M1 h1 (hs.up n1)) fun y M2 h2 n2 _ => ?_
    exact idx_c h2 (Nat.le_refl _)
  | .toI a, s, M, h, hs => by
    unfold evE
    refine RC.seq (evE_c hF a s M h hs) fun x M1 h1 n1 _ => ?_
    split
    · exact ⟨h1, Nat.le_refl _, rfl⟩
    · trivial
  | .sl al a lo hi, s, M, h, hs => by
    unfold evE
    refine RC.seq (evE_c hF a s M h hs) fun x M1 h1 n1 _ => ?_
    refine RC.seq (evE_c hF lo s M1 h1 (hs.up n1)) fun l M2 h2 n2 _ => ?_
    refine RC.seq (A := fun _ _ => True) (by cases part l; trivial; exact ⟨h2, Nat.le_refl _, trivial⟩) fun l' M3 h3 n3 _ => ?_
    refine RC.seq (evE_c hF hi s M3 h3 (hs.up (Nat.le_trans n1 (Nat.le_trans n2 n3)))) fun hh M4 h4 n4 _ => ?_
    refine RC.seq (A := fun _ _ => True) (by cases part hh; trivial; exact ⟨h4, Nat.le_refl _, trivial⟩) fun h' M5 h5 n5 _ => ?_
    exact sl_c h5 (Nat.le_refl _)
  | .rev al a, s, M, h, hs => by
    unfold evE
    refine RC.seq (evE_c hF a s M h hs) fun x M1 h1 n1 _ => ?_
    exact rev_c h1 (Nat.le_refl _)
  | .bi al f es, s, M, h, hs => by
    unfold evE
    refine RC.seq (evEs_c hF es s M h hs) fun vs M1 h1 n1 hv => ?_
    exact bi_c h1 (Nat.le_refl _)
  | .isi a t, s, M, h, hs => by
    unfold evE
    refine RC.seq (evE_c hF a s M h hs) fun x M1 h1 n1 _ => ?_
    split
    · exact bl_c h1 (Nat.le_refl _)
    · trivial
  | .call f es, s, M, h, hs => by
    unfold evE
    refine RC.seq (evEs_c hF es s M h hs) fun vs M1 h1 n1 hv => ?_
    exact callV_c hF h1 (Nat.le_refl _) hv
  | .lc al own tg it cond elt, s, M, h, hs => by
    unfold evE
    refine RC.seq (evI_c hF it s M h hs) fun J M1 h1 n1 hJ => ?_
    refine RC.seq (lcS_c (fun s M a b => evE_c hF cond s M a b) (fun s M a b => evE_c hF elt s M a b) h1 ((hs.up n1).wipe own) hJ) fun ys M2 h2 n2 hy => ?_
    exact mkLV_c h2 (Nat.le_refl _) hy
  | .lrng al es, s, M, h, hs => by
    unfold evE
    refine RC.seq (evEs_c hF es s M h hs) fun vs M1 h1 n1 hv => ?_
    split
    · exact mkL_c h1 (Nat.le_refl _)
    · trivial
  | .trng es, s, M, h, hs => by
    unfold evE
    refine RC.seq (evEs_c hF es s M h hs) fun vs M1 h1 n1 hv => ?_
    split
    · exact ⟨h1, Nat.le_refl _, rfl⟩
    · trivial
  | .mt al m o es, s, M, h, hs => by
    unfold evE
    refine RC.seq (evE_c hF o s M h hs) fun x M1 h1 n1 _ => ?_
    split
    · refine RC.seq (evEs_c hF es s M1 h1 (hs.up n1)) fun vs M2 h2 n2 hv => ?_
      exact mt_c h2 (Nat.le_refl _) hv
    · trivial
  | .dct tk es, s, M, h, hs => by
    unfold evE
    refine RC.less (m := (M ++ [Cell.dct tk []]).length) ?_ (by simp)
    have hl : M.length ≤ (M ++ [Cell.dct tk []]).length := by simp
    refine RC.seq (evEs_c hF es s (M ++ [.dct tk []]) (h.app1 (by simp [Cell.below])) (hs.up hl)) fun vs M1 h1 n1 hv => ?_
    exact dctFin_c h1 (Nat.le_refl _) hv
  | .attr o f, s, M, h, hs => by
    unfold evE
    refine RC.seq (evE_c hF o s M h hs) fun x M1 h1 n1 _ => ?_
    split
    · rename_i a c fs e
      split
      · rename_i v ev
        obtain ⟨p, hp, rfl⟩ := look_mem ev
        exact ⟨h1, Nat.le_refl _, (insAt_b h1 e).2 p hp⟩
      · trivial
    · trivial
  | .meth m o es, s, M, h, hs => by
    unfold evE
    refine RC.seq (evE_c hF o s M h hs) fun x M1 h1 n1 _ => ?_
    split
    · rename_i a c fs e
      split
      · rename_i f ef
        refine RC.seq (evEs_c hF es s M1 h1 (hs.up n1)) fun vs M2 h2 n2 hv => ?_
        refine hF.c f _ M2 h2 (bVs.cons ?_ hv)
        have := (insAt_b h1 e).1
        show below _ (.ref a) = true
        simp [below]
        omega
      · trivial
    · trivial
  | .make c es, s, M, h, hs => by
    unfold evE
    refine RC.seq (evEs_c hF es s M h hs) fun vs M1 h1 n1 hv => ?_
    split
    · rename_i f ef
      have hl : M1.length ≤ (M1 ++ [Cell.ins c []]).length := by simp
      refine RC.less (m := (M1 ++ [Cell.ins c []]).length) ?_ hl
      refine RC.seq (hF.c0 f _ (M1 ++ [.ins c []]) (h1.app1 (by simp [Cell.below])) (bVs.cons (by simp [below]) (hv.up hl))) fun v M2 h2 n2 _ => ?_
      split
      · refine ⟨h2, Nat.le_refl _, ?_⟩
        have : M1.length < M2.length := by simp at n2; omega
        show below _ (.ref M1.length) = true
        simp [below, this]
      · trivial
    · trivial
  | .orT a b, s, M, h, hs => by
    unfold evE
    refine RC.seq (evE_c hF a s M h hs) fun x M1 h1 n1 hx => ?_
    split
    · exact ⟨h1, Nat.le_refl _, hx⟩
    · exact evE_c hF b s M1 h1 (hs.up n1)
    · trivial
  | .gin neg ks a, s, M, h, hs => by
    unfold evE
    refine RC.seq (evE_c hF a s M h hs) fun x M1 h1 n1 _ => ?_
    split
    · exact bl_c h1 (Nat.le_refl _)
    · trivial
  | .gget kvs a, s, M, h, hs => by
    unfold evE
    refine RC.seq (evE_c hF a s M h hs) fun x M1 h1 n1 _ => ?_
    split
    · split
      · exact ⟨h1, Nat.le_refl _, rfl⟩
      · trivial
    · trivial
  | .seq _, s, M, h, hs => by unfold evE; trivial
  | .rng _, s, M, h, hs => by unfold evE; trivial
  | .enum _, s, M, h, hs => by unfold evE; trivial
  | .zip _ _, s, M, h, hs => by unfold evE; trivial
  | .cseq _ _, s, M, h, hs => by unfold evE; trivial
theorem evEs_c {F : FEnv} (hF : FC F) : ∀ (es : List IE) (s : Slots) (M : Store), Cl M → bS M.length s → RC bVs M.length (evEs F es s M)
  | [], s, M, h, hs => ⟨h, Nat.le_refl _, bVs.nil⟩
  | e :: es, s, M, h, hs => by
    unfold evEs
    refine RC.seq (evE_c hF e s M h hs) fun v M1 h1 n1 hv => ?_
    refine RC.seq (evEs_c hF es s M1 h1 (hs.up n1)) fun vs M2 h2 n2 hvs => ?_
    exact ⟨h2, Nat.le_refl _, bVs.cons (below_up hv n2) hvs⟩
theorem evI_c {F : FEnv} (hF : FC F) : ∀ (e : IE) (s : Slots) (M : Store), Cl M → bS M.length s → RC bJ M.length (evI F e s M)
  | .rng es, s, M, h, hs => by
    unfold evI
    refine RC.seq (evEs_c hF es s M h hs) fun vs M1 h1 n1 hv => ?_
    exact ofOpt_c h1 (Nat.le_refl _) fun l e => rngD_b e
  | .enum a, s, M, h, hs => by
    unfold evI
    refine RC.seq (evE_c hF a s M h hs) fun x M1 h1 n1 _ => ?_
    exact ofOpt_c h1 (Nat.le_refl _) fun l e => enumD_b e
  | .zip a b, s, M, h, hs => by
    unfold evI
    refine RC.seq (evE_c hF a s M h hs) fun x M1 h1 n1 _ => ?_
    refine RC.seq (evE_c hF b s M1 h1 (hs.up n1)) fun y M2 h2 n2 _ => ?_
    unfold zipS
    cases ez : zipD x y with
    | some l => exact ⟨h2, Nat.le_refl _, zipD_b ez⟩
    | none =>
      dsimp only
      (repeat' split) <;> first | trivial | exact ⟨h2, Nat.le_refl _, True.intro⟩
  | .seq a, s, M, h, hs => by
    unfold evI
    refine RC.seq (evE_c hF a s M h hs) fun x M1 h1 n1 _ => ?_
    exact ofOpt_c h1 (Nat.le_refl _) fun l e => seqD_b e
  | .cseq en a, s, M, h, hs => by
    unfold evI
    refine RC.seq (evE_c hF a s M h hs) fun x M1 h1 n1 _ => ?_
    unfold srcC
    split
    · split
      · exact ⟨h1, Nat.le_refl _, trivial⟩
      · trivial
    · split
      · rename_i l e
        refine ⟨h1, Nat.le_refl _, ?_⟩
        show bVs M1.length l
        split at e
        · exact enumD_b e
        · exact seqD_b e
      · trivial
  | .lit _, s, M, h, hs => by unfold evI; trivial
  | .var _, s, M, h, hs => by unfold evI; trivial
  | .toI _, s, M, h, hs => by unfold evI; trivial
  | .bin _ _ _ _, s, M, h, hs => by unfold evI; trivial
  | .neg _, s, M, h, hs => by unfold evI; trivial
  | .not _, s, M, h, hs => by unfold evI; trivial
  | .and _ _, s, M, h, hs => by unfold evI; trivial
  | .or _ _, s, M, h, hs => by unfold evI; trivial
  | .cmp _ _ _, s, M, h, hs => by unfold evI; trivial
  | .chain _ _ _ _ _, s, M, h, hs => by unfold evI; trivial
  | .chain3 _ _ _ _ _ _ _, s, M, h, hs => by unfold evI; trivial
  | .ifx _ _ _, s, M, h, hs => by unfold evI; trivial
  | .tup _, s, M, h, hs => by unfold evI; trivial
  | .lst _ _, s, M, h, hs => by unfold evI; trivial
  | .idx _ _, s, M, h, hs => by unfold evI; trivial
  | .sl _ _ _ _, s, M, h, hs => by unfold evI; trivial
  | .rev _ _, s, M, h, hs => by unfold evI; trivial
  | .bi _ _ _, s, M, h, hs => by unfold evI; trivial
  | .isi _ _, s, M, h, hs => by unfold evI; trivial
  | .call _ _, s, M, h, hs => by unfold evI; trivial
  | .lc _ _ _ _ _ _, s, M, h, hs => by unfold evI; trivial
  | .lrng _ _, s, M, h, hs => by unfold evI; trivial
  | .trng _, s, M, h, hs => by unfold evI; trivial
  | .mt _ _ _ _, s, M, h, hs => by unfold evI; trivial
  | .dct _ _, s, M, h, hs => by unfold evI; trivial
  | .attr _ _, s, M, h, hs => by unfold evI; trivial
  | .meth _ _ _, s, M, h, hs => by unfold evI; trivial
  | .make _ _, s, M, h, hs => by unfold evI; trivial
  | .orT _ _, s, M, h, hs => by unfold evI; trivial
  | .gin _ _ _, s, M, h, hs => by unfold evI; trivial
  | .gget _ _, s, M, h, hs => by unfold evI; trivial
end
end Gv

namespace Gv
open PySem
def SCl (n : Nat) : SR → Prop
  | .next s M => Cl M ∧ n ≤ M.length ∧ bS M.length s
  | .ret v M => Cl M ∧ n ≤ M.length ∧ below M.length v = true
  | .exc _ s M => Cl M ∧ n ≤ M.length ∧ bS M.length s
  | .bad => True
theorem SCl.less {n m : Nat} {x : SR} (h : SCl m x) (hn : n ≤ m) : SCl n x := by
  cases x with
  | next s M => exact ⟨h.1, Nat.le_trans hn h.2.1, h.2.2⟩
  | ret v M => exact ⟨h.1, Nat.le_trans hn h.2.1, h.2.2⟩
  | exc c s M => exact ⟨h.1, Nat.le_trans hn h.2.1, h.2.2⟩
  | bad => trivial
theorem RC.toS {n : Nat} {r : R Val} {s : Slots} {f : Val → Store → SR} (h : RC bV n r) (hs : bS n s) (k : ∀ a M, Cl M → n ≤ M.length → below M.length a = true → SCl M.length (f a M)) : SCl n (r.toS s f) := by
  cases r with
  | ok a M => exact (k a M h.1 h.2.1 h.2.2).less h.2.1
  | exc c M => exact ⟨h.1, h.2, hs.up h.2⟩
  | bad => trivial
section
variable {body : Slots → Store → SR} {tg : Tg} {kl : List Nat}
theorem forL_c (hb : ∀ s M, Cl M → bS M.length s → SCl M.length (body s M)) : ∀ (l : List Val) (s : Slots) (M : Store), Cl M → bS M.length s → bVs M.length l → SCl M.length (forL body tg kl l s M)
  | [], s, M, h, hs, _ => ⟨h, Nat.le_refl _, hs⟩
  | v :: vs, s, M, h, hs, hl => by
    unfold forL
    split
    · trivial
    · rename_i s1 e1
      have q := hb s1 M h (asgT_b hs (hl v (by simp)) e1)
      split
      · rename_i s2 M2 e2
        rw [e2] at q
        obtain ⟨q1, q2, q3⟩ := q
        exact (forL_c hb vs _ M2 q1 (q3.wipe kl) (fun w hw => below_up (hl w (by simp [hw])) q2)).less q2
      · exact q
theorem forC_c (hb : ∀ s M, Cl M → bS M.length s → SCl M.length (body s M)) (a : Nat) (en : Bool) : ∀ (f i : Nat) (s : Slots) (M : Store), Cl M → bS M.length s → SCl M.length (forC body tg kl a en f i s M)
  | 0, i, s, M, h, hs => trivial
  | f + 1, i, s, M, h, hs => by
    unfold forC
    split
    · trivial
    · exact ⟨h, Nat.le_refl _, hs⟩
    · rename_i v ev
      split
      · trivial
      · rename_i s1 e1
        have hs1 : bS M.length s1 := by
          exact asgE_b hs (cellAt_b h ev) e1
        have q := hb s1 M h hs1
        split
        · rename_i s2 M2 e2
          rw [e2] at q
          obtain ⟨q1, q2, q3⟩ := q
          exact (forC_c hb a en f (i + 1) _ M2 q1 (q3.wipe kl)).less q2
        · exact q
theorem forZ_c (hb : ∀ s M, Cl M → bS M.length s → SCl M.length (body s M)) (l : List PyData) (a : Nat) : ∀ (f i : Nat) (tg : Tg) (s : Slots) (M : Store), Cl M → bS M.length s → SCl M.length (forZ body tg kl l a f i s M)
  | 0, i, tg, s, M, h, hs => trivial
  | f + 1, i, tg, s, M, h, hs => by
    unfold forZ
    split
    · trivial
    · exact ⟨h, Nat.le_refl _, hs⟩
    · rename_i v ev
      split
      · exact ⟨h, Nat.le_refl _, hs⟩
      · split
        · split
          · trivial
          · rename_i s1 e1
            have q := hb s1 M h (setAll_b hs (bVs.cons rfl (bVs.cons (cellAt_b h ev) (fun w hw => by simp at hw))) e1)
            split
            · rename_i s2 M2 e2
              rw [e2] at q
              obtain ⟨q1, q2, q3⟩ := q
              exact (forZ_c hb l a f (i + 1) _ _ M2 q1 (q3.wipe kl)).less q2
            · exact q
        · trivial
theorem forT_c (hb : ∀ s M, Cl M → bS M.length s → SCl M.length (body s M)) {J : Src} {s : Slots} {M : Store} (h : Cl M) (hs : bS M.length s) (hJ : bJ M.length J) : SCl M.length (forT body tg kl J s M) := by
  unfold forT
  split
  · exact forL_c hb _ s M h hs hJ
  · exact forC_c hb _ _ _ _ s M h hs
  · exact forZ_c hb _ _ _ _ _ s M h hs
theorem whileL_c {c : Slots → Store → R Val} (hc : ∀ s M, Cl M → bS M.length s → RC bV M.length (c s M)) (hb : ∀ s M, Cl M → bS M.length s → SCl M.length (body s M)) : ∀ (f : Nat) (s : Slots) (M : Store), Cl M → bS M.length s → SCl M.length (whileL c body kl f s M)
  | 0, s, M, h, hs => trivial
  | f + 1, s, M, h, hs => by
    unfold whileL
    have q := hc s M h hs
    split
    · rename_i M1 e1
      rw [e1] at q
      obtain ⟨q1, q2, _⟩ := q
      have p := hb s M1 q1 (hs.up q2)
      split
      · rename_i s2 M2 e2
        rw [e2] at p
        obtain ⟨p1, p2, p3⟩ := p
        exact (whileL_c hc hb f _ M2 p1 (p3.wipe kl)).less (Nat.le_trans q2 p2)
      · exact p.less q2
    · rename_i M1 e1
      rw [e1] at q
      exact ⟨q.1, q.2.1, hs.up q.2.1⟩
    · rename_i k M1 e1
      rw [e1] at q
      exact ⟨q.1, q.2, hs.up q.2⟩
    · trivial
end
mutual
theorem evS_c {F : FEnv} (hF : FC F) (wf : Nat) : ∀ (st : IS) (s : Slots) (M : Store), Cl M → bS M.length s → SCl M.length (evS F wf st s M)
  | .expr e, s, M, h, hs => by
    unfold evS
    exact RC.toS (evE_c hF e s M h hs) hs fun v M1 h1 n1 _ => ⟨h1, Nat.le_refl _, hs.up n1⟩
  | .asg tg e, s, M, h, hs => by
    unfold evS
    refine RC.toS (evE_c hF e s M h hs) hs fun v M1 h1 n1 hv => ?_
    split
    · rename_i s' e'
      exact ⟨h1, Nat.le_refl _, asgT_b (hs.up n1) hv e'⟩
    · trivial
  | .setix o i e, s, M, h, hs => by
    unfold evS
    refine RC.toS (evE_c hF e s M h hs) hs fun v M1 h1 n1 hv => ?_
    refine RC.toS (evE_c hF o s M1 h1 (hs.up n1)) (hs.up n1) fun x M2 h2 n2 _ => ?_
    refine RC.toS (evE_c hF i s M2 h2 (hs.up (Nat.le_trans n1 n2))) (hs.up (Nat.le_trans n1 n2)) fun y M3 h3 n3 _ => ?_
    have n4 := Nat.le_trans n1 (Nat.le_trans n2 n3)
    refine RC.toS (setD_c h3 (Nat.le_refl _) (below_up hv (Nat.le_trans n2 n3))) (hs.up n4) fun z M4 h4 n5 _ => ?_
    exact ⟨h4, Nat.le_refl _, hs.up (Nat.le_trans n4 n5)⟩
  | .app o e, s, M, h, hs => by
    unfold evS
    refine RC.toS (evE_c hF o s M h hs) hs fun x M1 h1 n1 _ => ?_
    split
    · split
      · refine RC.toS (evE_c hF e s M1 h1 (hs.up n1)) (hs.up n1) fun v M2 h2 n2 hv => ?_
        split
        · rename_i vs e2
          split
          · refine ⟨h2.set (lst_b ((h2.lst e2).app (bVs.cons hv bVs.nil))), by simp, ?_⟩
            rw [List.length_set]
            exact hs.up (Nat.le_trans n1 n2)
          · trivial
        · trivial
      · trivial
    · trivial
  | .ret e, s, M, h, hs => by
    unfold evS
    exact RC.toS (evE_c hF e s M h hs) hs fun v M1 h1 n1 hv => ⟨h1, Nat.le_refl _, hv⟩
  | .ite c t e, s, M, h, hs => by
    unfold evS
    refine RC.toS (evE_c hF c s M h hs) hs fun x M1 h1 n1 _ => ?_
    split
    · exact evSs_c hF wf t s M1 h1 (hs.up n1)
    · exact evSs_c hF wf e s M1 h1 (hs.up n1)
    · trivial
  | .forr tg it b kl, s, M, h, hs => by
    unfold evS
    have q := evI_c hF it s M h hs
    split
    · rename_i J M1 e1
      rw [e1] at q
      obtain ⟨q1, q2, q3⟩ := q
      exact (forT_c (fun s M a c => evSs_c hF wf b s M a c) q1 ((hs.up q2).wipe kl) q3).less q2
    · rename_i c M1 e1
      rw [e1] at q
      exact ⟨q.1, q.2, hs.up q.2⟩
    · trivial
  | .whil c b kl, s, M, h, hs => by
    unfold evS
    exact whileL_c (fun s M a d => evE_c hF c s M a d) (fun s M a d => evSs_c hF wf b s M a d) wf _ M h (hs.wipe kl)
  | .pass, s, M, h, hs => by unfold evS; exact ⟨h, Nat.le_refl _, hs⟩
  | .rais c, s, M, h, hs => by unfold evS; exact ⟨h, Nat.le_refl _, hs⟩
  | .tryas b c i j, s, M, h, hs => by
    unfold evS
    have q := evSs_c hF wf b s M h hs
    split
    · rename_i k s1 M1 e1
      rw [e1] at q
      obtain ⟨q1, q2, q3⟩ := q
      split
      · exact ⟨q1, q2, (q3.set fun v hv => by injection hv with hv; subst hv; rfl).set fun v hv => by cases hv⟩
      · exact ⟨q1, q2, q3⟩
      · trivial
    · exact q
  | .tryr b c d, s, M, h, hs => by
    unfold evS
    have q := evSs_c hF wf b s M h hs
    split
    · rename_i k s1 M1 e1
      rw [e1] at q
      split
      · split
        · exact q
        · trivial
      · trivial
    · exact q
  | .aug i op e, s, M, h, hs => by
    unfold evS
    split
    · refine RC.toS (evE_c hF e s M h hs) hs fun y M1 h1 n1 _ => ?_
      refine RC.toS (aug_c h1 (Nat.le_refl _)) (hs.up n1) fun z M2 h2 n2 hz => ?_
      exact ⟨h2, Nat.le_refl _, (hs.up (Nat.le_trans n1 n2)).set fun v hv => by injection hv with hv; subst hv; exact hz⟩
    · trivial
  | .setat o f e, s, M, h, hs => by
    unfold evS
    refine RC.toS (evE_c hF e s M h hs) hs fun v M1 h1 n1 hv => ?_
    refine RC.toS (evE_c hF o s M1 h1 (hs.up n1)) (hs.up n1) fun x M2 h2 n2 _ => ?_
    refine RC.toS (putAt_c h2 (Nat.le_refl _) (below_up hv n2)) (hs.up (Nat.le_trans n1 n2)) fun z M3 h3 n3 _ => ?_
    exact ⟨h3, Nat.le_refl _, hs.up (Nat.le_trans n1 (Nat.le_trans n2 n3))⟩
  | .augat o f op e, s, M, h, hs => by
    unfold evS
    refine RC.toS (evE_c hF o s M h hs) hs fun x M1 h1 n1 _ => ?_
    split
    · split
      · refine RC.toS (evE_c hF e s M1 h1 (hs.up n1)) (hs.up n1) fun y M2 h2 n2 _ => ?_
        refine RC.toS (aug_c h2 (Nat.le_refl _)) (hs.up (Nat.le_trans n1 n2)) fun z M3 h3 n3 hz => ?_
        have n4 := Nat.le_trans n1 (Nat.le_trans n2 n3)
        refine RC.toS (putAtC_c h3 (Nat.le_refl _) hz) (hs.up n4) fun z M4 h4 n5 _ => ?_
        exact ⟨h4, Nat.le_refl _, hs.up (Nat.le_trans n4 n5)⟩
      · trivial
    · trivial
  | .unpat o q f g e, s, M, h, hs => by
    unfold evS
    refine RC.toS (evE_c hF e s M h hs) hs fun v M1 h1 n1 hv => ?_
    split
    · refine RC.toS (evE_c hF o s M1 h1 (hs.up n1)) (hs.up n1) fun x M2 h2 n2 _ => ?_
      refine RC.toS (putAt_c h2 (Nat.le_refl _) rfl) (hs.up (Nat.le_trans n1 n2)) fun z M3 h3 n3 _ => ?_
      have n4 := Nat.le_trans n1 (Nat.le_trans n2 n3)
      refine RC.toS (evE_c hF q s M3 h3 (hs.up n4)) (hs.up n4) fun x M4 h4 n5 _ => ?_
      have n6 := Nat.le_trans n4 n5
      refine RC.toS (putAt_c h4 (Nat.le_refl _) rfl) (hs.up n6) fun z M5 h5 n7 _ => ?_
      exact ⟨h5, Nat.le_refl _, hs.up (Nat.le_trans n6 n7)⟩
    · trivial
  | .setsl o lo hi e, s, M, h, hs => by
    unfold evS
    refine RC.toS (evE_c hF e s M h hs) hs fun v M1 h1 n1 hv => ?_
    refine RC.toS (evE_c hF o s M1 h1 (hs.up n1)) (hs.up n1) fun x M2 h2 n2 _ => ?_
    have n3 := Nat.le_trans n1 n2
    refine RC.toS (evE_c hF lo s M2 h2 (hs.up n3)) (hs.up n3) fun l M3 h3 n4 _ => ?_
    have n5 := Nat.le_trans n3 n4
    split
    · refine RC.toS (evE_c hF hi s M3 h3 (hs.up n5)) (hs.up n5) fun hh M4 h4 n6 _ => ?_
      have n7 := Nat.le_trans n5 n6
      refine RC.toS (setSl_c h4 (Nat.le_refl _)) (hs.up n7) fun z M5 h5 n8 _ => ?_
      exact ⟨h5, Nat.le_refl _, hs.up (Nat.le_trans n7 n8)⟩
    · trivial
  | .par i j a b, s, M, h, hs => by
    unfold evS
    refine RC.toS (evE_c hF a s M h hs) hs fun x M1 h1 n1 hx => ?_
    refine RC.toS (evE_c hF b s M1 h1 (hs.up n1)) (hs.up n1) fun y M2 h2 n2 hy => ?_
    exact ⟨h2, Nat.le_refl _, ((hs.up (Nat.le_trans n1 n2)).set fun v hv => by injection hv with hv; subst hv; exact below_up hx n2).set fun v hv => by injection hv with hv; subst hv; exact hy⟩
theorem evSs_c {F : FEnv} (hF : FC F) (wf : Nat) : ∀ (l : List IS) (s : Slots) (M : Store), Cl M → bS M.length s → SCl M.length (evSs F wf l s M)
  | [], s, M, h, hs => ⟨h, Nat.le_refl _, hs⟩
  | st :: r, s, M, h, hs => by
    unfold evSs
    have q := evS_c hF wf st s M h hs
    split
    · rename_i s1 M1 e1
      rw [e1] at q
      exact (evSs_c hF wf r s1 M1 q.1 q.2.2).less q.2.1
    · exact q
end
theorem Cl.take {M : Store} {n : Nat} (hn : n ≤ M.length) (h : (M.take n).all (Cell.below n) = true) : Cl (M.take n) := by
  intro c hc
  rw [List.length_take, Nat.min_eq_left hn]
  exact List.all_eq_true.mp h c hc
theorem exitV_c {n : Nat} {v : Val} {M : Store} (h : Cl M) (hn : n ≤ M.length) (hv : below M.length v = true) : RC bV n (exitV n v M) := by
  unfold exitV
  split
  · rename_i ht
    have hl : (M.take n).length = n := by rw [List.length_take, Nat.min_eq_left hn]
    have hc := Cl.take hn ht
    split
    · split
      · refine ⟨hc, by omega, ?_⟩
        rw [hl]
        show below n (.ref _) = true
        simp [below]
        assumption
      · split
        · exact ⟨hc, by omega, rfl⟩
        · exact ⟨h, hn, hv⟩
    · rename_i hne
      refine ⟨hc, by omega, ?_⟩
      cases v with
      | ref a => exact absurd rfl (hne a)
      | _ => rfl
  · exact ⟨h, hn, hv⟩
theorem exitX_c {n c : Nat} {M : Store} (h : Cl M) (hn : n ≤ M.length) : RC bV n (exitX n c M) := by
  unfold exitX
  split
  · rename_i ht
    exact ⟨Cl.take hn ht, by rw [List.length_take, Nat.min_eq_left hn]; exact Nat.le_refl _⟩
  · exact ⟨h, hn⟩
theorem finB_c {kp : Bool} {n : Nat} {x : SR} (h : SCl n x) : RC bV n (finB kp n x) := by
  unfold finB
  split
  · cases x with
    | next s M => exact ⟨h.1, h.2.1, rfl⟩
    | ret v M => exact ⟨h.1, h.2.1, h.2.2⟩
    | exc c s M => exact ⟨h.1, h.2.1⟩
    | bad => trivial
  · cases x with
    | next s M => exact exitV_c h.1 h.2.1 rfl
    | ret v M => exact exitV_c h.1 h.2.1 h.2.2
    | exc c s M => exact exitX_c h.1 h.2.1
    | bad => trivial
theorem enter_b {fn : Fn} {vs : List Val} {n : Nat} (h : bVs n vs) : bS n (enter fn vs) := by
  intro v hv
  unfold enter at hv
  rcases List.mem_append.mp hv with hv | hv
  · obtain ⟨w, hw, e⟩ := List.mem_map.mp hv
    injection e with e
    subst e
    exact h _ hw
  · simp at hv
theorem callP_c (T : Tab) (wf : Nat) : ∀ k, (∀ f vs M, Cl M → bVs M.length vs → RC bV M.length ((callP T wf k).1 f vs M)) ∧ (∀ f vs M, Cl M → bVs M.length vs → RC bV M.length ((callP T wf k).2 f vs M))
  | 0 => ⟨fun _ _ _ _ _ => trivial, fun _ _ _ _ _ => trivial⟩
  | 1 => ⟨fun _ _ _ _ _ => trivial, fun _ _ _ _ _ => trivial⟩
  | k + 2 => by
    have ih := callP_c T wf (k + 1)
    refine ⟨fun f vs M h hv => ?_, ih.1⟩
    show RC bV M.length (call1 T wf (callP T wf (k + 1)).1 (callP T wf (k + 1)).2 f vs M)
    unfold call1
    split
    · trivial
    · split
      · exact finB_c (evSs_c ⟨ih.1, ih.2⟩ wf _ _ M h (enter_b hv))
      · trivial
/-- calls keep stores closed -/
theorem callF_c {T : Tab} {wf k f : Nat} {vs : List Val} {M M' : Store} {v : Val} (h : Cl M) (hv : bVs M.length vs) (e : callF T wf k f vs M = .ok v M') : Cl M' ∧ M.length ≤ M'.length ∧ below M'.length v = true := by
  have := (callP_c T wf k).1 f vs M h hv
  unfold callF at e
  rw [e] at this
  exact this
theorem Cl.all {M : Store} (h : Cl M) : M.all (Cell.below M.length) = true := List.all_eq_true.mpr h
end Gv

namespace Lw
open PySem PySem.Spec L2 Gv
def top (i : Nat) : Stmt := PySem.Challenge.pw_glowrow_k35_wishes_of_pictures.main.body.getD i (.Pass ⟨0, 0, 0, 0⟩)
abbrev i_strip_of : Nat := 0
abbrev i_lying_on : Nat := 1
abbrev i_kept_on : Nat := 2
abbrev i_floor_strip : Nat := 3
abbrev i_taken : Nat := 4
abbrev i_covering : Nat := 5
abbrev i_ink_at : Nat := 6
abbrev i_inks_laid : Nat := 7
abbrev i_barred : Nat := 8
abbrev i_wishes_of : Nat := 9
abbrev i_law_draw : Nat := 10
abbrev i_law_size : Nat := 11
abbrev i_law_frame : Nat := 12
abbrev i_law_inks : Nat := 13
abbrev i_law_inked : Nat := 14
abbrev i_law_far : Nat := 15
abbrev i_law_mover : Nat := 16
abbrev i_law_stand : Nat := 17
abbrev i_law_strip : Nat := 18
abbrev i_law_lying : Nat := 19
abbrev i_law_taken : Nat := 20
abbrev i_law_cover : Nat := 21
abbrev i_law_ink : Nat := 22
abbrev i_law_inks_laid : Nat := 23
abbrev i_law_due : Nat := 24
abbrev i_law : Nat := 25
def tx : Txt where
  fns := [(("strip_of" : Str), 3), (("lying_on" : Str), 2), (("kept_on" : Str), 3), (("floor_strip" : Str), 3), (("taken" : Str), 3), (("covering" : Str), 2), (("ink_at" : Str), 2), (("inks_laid" : Str), 2), (("barred" : Str), 2), (("wishes_of" : Str), 3), (("_law_draw" : Str), 2), (("_law_size" : Str), 2), (("_law_frame" : Str), 2), (("_law_inks" : Str), 3), (("_law_inked" : Str), 2), (("_law_far" : Str), 2), (("_law_mover" : Str), 3), (("_law_stand" : Str), 3), (("_law_strip" : Str), 3), (("_law_lying" : Str), 2), (("_law_taken" : Str), 3), (("_law_cover" : Str), 2), (("_law_ink" : Str), 2), (("_law_inks_laid" : Str), 2), (("_law_due" : Str), 2), (("law" : Str), 1)]
  cons := []
  clss := []
  excs := []
  tabs := []
  meths := []
  subs := []
abbrev N_strip_of : List Str := ["shape", "turn", "row"]
abbrev cc_strip_of : CC := tx.ccOf N_strip_of [] [] []
abbrev N_lying_on : List Str := ["stand", "row", "found", "number", "mover"]
abbrev cc_lying_on : CC := tx.ccOf N_lying_on [⟨12, 12, 12, 14⟩] [⟨13, 35, 13, 43⟩] [(13, [3, 4])]
abbrev N_kept_on : List Str := ["frame", "stand", "row"]
abbrev cc_kept_on : CC := tx.ccOf N_kept_on [] [] []
abbrev N_floor_strip : List Str := ["frame", "stand", "row", "inks", "floor", "shift", "x"]
abbrev cc_floor_strip : CC := tx.ccOf N_floor_strip [] [] []
abbrev N_taken : List Str := ["frame", "stand", "row", "strips", "number", "shape", "x", "y", "rank", "turn"]
abbrev cc_taken : CC := tx.ccOf N_taken [⟨24, 13, 24, 15⟩] [⟨25, 18, 25, 44⟩] [(25, [4, 5, 6, 7, 8, 9])]
abbrev N_covering : List Str := ["row_taken", "x", "found", "number", "left", "rank", "inks"]
abbrev cc_covering : CC := tx.ccOf N_covering [⟨30, 12, 30, 14⟩] [⟨31, 36, 31, 48⟩] [(31, [3, 4, 5, 6])]
abbrev N_ink_at : List Str := ["row_taken", "x", "best", "floor", "number", "rank", "ink"]
abbrev cc_ink_at : CC := tx.ccOf N_ink_at [] [⟨37, 29, 37, 51⟩] [(37, [4, 5, 6])]
abbrev N_inks_laid : List Str := ["frame", "stand", "found", "row", "row_taken", "x"]
abbrev cc_inks_laid : CC := tx.ccOf N_inks_laid [⟨46, 12, 46, 14⟩] [] [(47, [3, 4])]
abbrev N_barred : List Str := ["inks", "hues", "one", "other"]
abbrev cc_barred : CC := tx.ccOf N_barred [] [] [(52, [2, 3]), (53, [3])]
abbrev N_wishes_of : List Str := ["frame", "stand", "picture", "found", "row", "inks", "pair", "ink", "hue"]
abbrev cc_wishes_of : CC := tx.ccOf N_wishes_of [⟨62, 19, 62, 39⟩, ⟨65, 22, 65, 35⟩] [⟨58, 12, 58, 14⟩, ⟨59, 31, 59, 54⟩] [(59, [4, 5, 6, 7, 8]), (63, [7, 8])]
abbrev N_law_draw : List Str := ["tape", "many", "prime", "found", "cell"]
abbrev cc_law_draw : CC := tx.ccOf N_law_draw [] [] []
abbrev N_law_size : List Str := ["tape", "most"]
abbrev cc_law_size : CC := tx.ccOf N_law_size [] [] []
abbrev N_law_frame : List Str := ["tape", "most", "gap"]
abbrev cc_law_frame : CC := tx.ccOf N_law_frame [] [] []
abbrev N_law_inks : List Str := ["tape", "wide", "thin", "k"]
abbrev cc_law_inks : CC := tx.ccOf N_law_inks [] [] []
abbrev N_law_inked : List Str := ["tape", "most", "wide", "thin", "k"]
abbrev cc_law_inked : CC := tx.ccOf N_law_inked [] [] []
abbrev N_law_far : List Str := ["tape", "size"]
abbrev cc_law_far : CC := tx.ccOf N_law_far [] [] []
abbrev N_law_mover : List Str := ["tape", "frame", "shapes", "shape"]
abbrev cc_law_mover : CC := tx.ccOf N_law_mover [] [] []
abbrev N_law_stand : List Str := ["tape", "frame", "movers_most", "floor", "shift", "shapes", "book", "movers", "k"]
abbrev cc_law_stand : CC := tx.ccOf N_law_stand [] [] []
abbrev N_law_strip : List Str := ["shape", "turn", "row", "k"]
abbrev cc_law_strip : CC := tx.ccOf N_law_strip [] [] []
abbrev N_law_lying : List Str := ["stand", "row", "found", "number", "shape", "x", "y", "rank", "turn"]
abbrev cc_law_lying : CC := tx.ccOf N_law_lying [⟨114, 12, 114, 14⟩] [] [(115, [3, 4, 5, 6, 7, 8])]
abbrev N_law_taken : List Str := ["frame", "stand", "row", "inks", "strips", "number", "floor", "shift", "shape", "x", "y", "rank", "turn"]
abbrev cc_law_taken : CC := tx.ccOf N_law_taken [⟨123, 13, 123, 15⟩] [⟨124, 18, 124, 51⟩] [(124, [5, 8, 10, 11, 12])]
abbrev N_law_cover : List Str := ["row_here", "x", "found", "number", "left", "rank", "inks"]
abbrev cc_law_cover : CC := tx.ccOf N_law_cover [⟨129, 12, 129, 14⟩] [⟨130, 36, 130, 47⟩] [(130, [3, 4, 5, 6])]
abbrev N_law_ink : List Str := ["row_here", "x", "found", "above", "one"]
abbrev cc_law_ink : CC := tx.ccOf N_law_ink [] [⟨136, 28, 136, 33⟩] []
abbrev N_law_inks_laid : List Str := ["frame", "stand", "rows", "row", "one", "x"]
abbrev cc_law_inks_laid : CC := tx.ccOf N_law_inks_laid [] [⟨144, 67, 144, 71⟩] []
abbrev N_law_due : List Str := ["inks", "picture", "wishes", "row", "one", "other", "x"]
abbrev cc_law_due : CC := tx.ccOf N_law_due [] [] [(147, [3, 4, 5]), (148, [4, 5]), (149, [5])]
abbrev N_law : List Str := ["script", "tape", "turn", "frame", "stand", "inks", "hues", "picture", "k", "handed", "due", "found", "row", "ink", "one"]
abbrev cc_law : CC := tx.ccOf N_law [⟨155, 11, 155, 31⟩, ⟨161, 18, 161, 85⟩, ⟨161, 19, 161, 56⟩] [⟨160, 70, 160, 74⟩, ⟨161, 46, 161, 55⟩, ⟨164, 39, 164, 46⟩, ⟨170, 92, 170, 100⟩] [(156, [2, 3, 4, 5, 6, 7, 8, 9, 10, 11]), (162, [8])]
def fn_strip_of : Fn := { ps := 3, n := 3, body := [
    .ite (.or (.cmp .Lt (.var 2) (.lit (.int 0))) (.cmp .GtE (.var 2) (.bi false .len [(.var 0)]))) [
      .ret (.tup [])] [],
    .ite (.cmp .GtE (.var 1) (.lit (.int 2))) [
      .asg (.one 2) (.bin false .Sub (.bin false .Sub (.bi false .len [(.var 0)]) (.lit (.int 1))) (.var 2))] [],
    .ite (.cmp .Eq (.bin false .Mod (.var 1) (.lit (.int 2))) (.lit (.int 1))) [
      .ret (.rev false (.idx (.var 0) (.var 2)))] [],
    .ret (.idx (.var 0) (.var 2))] }
def fn_lying_on : Fn := { ps := 2, n := 5, body := [
    .asg (.one 2) (.lst true []),
    .forr (.many [3, 4]) (.cseq true (.idx (.var 0) (.lit (.int 3)))) [
      .ite (.and (.cmp .IsNot (.idx (.var 4) (.lit (.int 0))) (.lit .none)) (.and (.cmp .LtE (.lit (.int 0)) (.bin false .Sub (.var 1) (.idx (.var 4) (.lit (.int 2))))) (.cmp .Lt (.bin false .Sub (.var 1) (.idx (.var 4) (.lit (.int 2)))) (.bi false .len [(.idx (.idx (.var 0) (.lit (.int 2))) (.idx (.var 4) (.lit (.int 0))))])))) [
        .app (.var 2) (.var 3)] []] [3, 4],
    .ret (.var 2)] }
def fn_kept_on : Fn := { ps := 3, n := 3, body := [
    .ret (.sl false (.call i_lying_on [(.var 1), (.var 2)]) (.lit .none) (.toI (.idx (.var 0) (.lit (.int 3)))))] }
def fn_floor_strip : Fn := { ps := 3, n := 7, body := [
    .asg (.many [4, 5]) (.sl false (.var 1) (.lit .none) (.toI (.lit (.int 2)))),
    .asg (.one 3) (.idx (.var 4) (.bin false .Mod (.bin false .Add (.var 2) (.idx (.var 5) (.lit (.int 1)))) (.bi false .len [(.var 4)]))),
    .ret (.bi false .tuple [(.lc false [6] (.one 6) (.rng [(.idx (.var 0) (.lit (.int 0)))]) (.lit (.bool true)) (.idx (.var 3) (.bin false .Mod (.bin false .Add (.var 6) (.idx (.var 5) (.lit (.int 0)))) (.bi false .len [(.var 3)]))))])] }
def fn_taken : Fn := { ps := 3, n := 10, body := [
    .asg (.one 3) (.lst true []),
    .forr (.one 4) (.cseq false (.call i_kept_on [(.var 0), (.var 1), (.var 2)])) [
      .asg (.many [5, 6, 7, 8, 9]) (.idx (.idx (.var 1) (.lit (.int 3))) (.var 4)),
      .app (.var 3) (.tup [(.var 4), (.var 6), (.var 8), (.call i_strip_of [(.idx (.idx (.var 1) (.lit (.int 2))) (.var 5)), (.var 9), (.bin false .Sub (.var 2) (.var 7))])])] [4, 5, 6, 7, 8, 9],
    .ret (.tup [(.call i_floor_strip [(.var 0), (.var 1), (.var 2)]), (.bi false .tuple [(.var 3)])])] }
def fn_covering : Fn := { ps := 2, n := 7, body := [
    .asg (.one 2) (.lst true []),
    .forr (.many [3, 4, 5, 6]) (.cseq false (.idx (.var 0) (.lit (.int 1)))) [
      .ite (.and (.cmp .LtE (.lit (.int 0)) (.bin false .Sub (.var 1) (.var 4))) (.and (.cmp .Lt (.bin false .Sub (.var 1) (.var 4)) (.bi false .len [(.var 6)])) (.cmp .NotEq (.idx (.var 6) (.bin false .Sub (.var 1) (.var 4))) (.lit (.int 0))))) [
        .app (.var 2) (.tup [(.var 3), (.var 5), (.idx (.var 6) (.bin false .Sub (.var 1) (.var 4)))])] []] [3, 4, 5, 6],
    .ret (.var 2)] }
def fn_ink_at : Fn := { ps := 2, n := 7, body := [
    .asg (.one 2) (.lit .none),
    .forr (.many [4, 5, 6]) (.cseq false (.call i_covering [(.var 0), (.var 1)])) [
      .ite (.or (.cmp .Is (.var 2) (.lit .none)) (.cmp .Gt (.var 5) (.idx (.var 2) (.lit (.int 0))))) [
        .asg (.one 2) (.tup [(.var 5), (.var 6)])] []] [4, 5, 6],
    .asg (.one 3) (.idx (.idx (.var 0) (.lit (.int 0))) (.var 1)),
    .ite (.or (.cmp .Is (.var 2) (.lit .none)) (.and (.cmp .Eq (.idx (.var 2) (.lit (.int 0))) (.lit (.int 0))) (.cmp .NotEq (.var 3) (.lit (.int 0))))) [
      .ret (.var 3)] [],
    .ret (.idx (.var 2) (.lit (.int 1)))] }
def fn_inks_laid : Fn := { ps := 2, n := 6, body := [
    .asg (.one 2) (.lst true []),
    .forr (.one 3) (.rng [(.idx (.var 0) (.lit (.int 1)))]) [
      .asg (.one 4) (.call i_taken [(.var 0), (.var 1), (.var 3)]),
      .app (.var 2) (.lc false [5] (.one 5) (.rng [(.idx (.var 0) (.lit (.int 0)))]) (.lit (.bool true)) (.call i_ink_at [(.var 4), (.var 5)]))] [3, 4],
    .ret (.var 2)] }
def fn_barred : Fn := { ps := 2, n := 4, body := [
    .forr (.one 2) (.rng [(.bi false .len [(.var 0)])]) [
      .forr (.one 3) (.rng [(.bin false .Add (.var 2) (.lit (.int 1))), (.bi false .len [(.var 0)])]) [
        .ite (.and (.cmp .Eq (.idx (.var 0) (.var 2)) (.idx (.var 0) (.var 3))) (.cmp .NotEq (.idx (.var 1) (.var 2)) (.idx (.var 1) (.var 3)))) [
          .ret (.tup [(.var 2), (.var 3)])] []] [3]] [2, 3],
    .ret (.lit .none)] }
def fn_wishes_of : Fn := { «keep» := true, ps := 3, n := 9, body := [
    .asg (.one 3) (.dct true []),
    .forr (.many [4, 5]) (.cseq true (.call i_inks_laid [(.var 0), (.var 1)])) [
      .asg (.one 6) (.call i_barred [(.var 5), (.idx (.var 2) (.var 4))]),
      .ite (.cmp .IsNot (.var 6) (.lit .none)) [
        .ret (.bin true .Add (.tup [(.lit (.str "bars")), (.var 4)]) (.var 6))] [],
      .forr (.many [7, 8]) (.zip (.var 5) (.idx (.var 2) (.var 4))) [
        .setix (.var 3) (.tup [(.var 4), (.var 7), (.var 8)]) (.lit (.bool true))] [7, 8]] [4, 5, 6, 7, 8],
    .ret (.tup [(.lit (.str "wishes")), (.bi true .sorted [(.var 3)])])] }
def fn_law_draw : Fn := { ps := 2, n := 5, body := [
    .asg (.one 2) (.lit (.int 2305843009213693951)),
    .ite (.cmp .Lt (.idx (.var 0) (.lit (.int 2))) (.var 1)) [
      .asg (.one 4) (.lit (.int 0)),
      .ite (.cmp .Gt (.bi false .len [(.idx (.var 0) (.lit (.int 0)))]) (.lit (.int 0))) [
        .asg (.one 4) (.idx (.idx (.var 0) (.lit (.int 0))) (.bin false .Mod (.idx (.var 0) (.lit (.int 1))) (.bi false .len [(.idx (.var 0) (.lit (.int 0)))])))] [],
      .ite (.or (.cmp .GtE (.idx (.var 0) (.lit (.int 1))) (.bi false .len [(.idx (.var 0) (.lit (.int 0)))])) (.cmp .Lt (.var 4) (.bin false .Pow (.lit (.int 10)) (.lit (.int 18))))) [
        .asg (.one 4) (.bin false .Mod (.bin false .Add (.var 4) (.bin false .Mult (.lit (.int 1000003)) (.idx (.var 0) (.lit (.int 1))))) (.var 2)),
        .asg (.one 4) (.bin false .Mod (.bin false .Add (.bin false .Add (.bin false .Mult (.var 4) (.var 4)) (.bin false .Mult (.lit (.int 1181783497276652981)) (.var 4))) (.lit (.int 2049848353892358983))) (.var 2)),
        .asg (.one 4) (.bin false .Mod (.bin false .Add (.bin false .Mult (.var 4) (.var 4)) (.lit (.int 1442695040888963407))) (.var 2))] [],
      .setix (.var 0) (.lit (.int 1)) (.bin false .Add (.idx (.var 0) (.lit (.int 1))) (.lit (.int 1))),
      .setix (.var 0) (.lit (.int 2)) (.var 4)] [],
    .asg (.one 3) (.bin false .Mod (.idx (.var 0) (.lit (.int 2))) (.var 1)),
    .setix (.var 0) (.lit (.int 2)) (.bin false .FloorDiv (.idx (.var 0) (.lit (.int 2))) (.var 1)),
    .ret (.var 3)] }
def fn_law_size : Fn := { ps := 2, n := 2, body := [
    .ret (.bin false .Add (.lit (.int 1)) (.idx (.lst false [(.call i_law_draw [(.var 0), (.bi false .min2 [(.var 1), (.lit (.int 6))])]), (.call i_law_draw [(.var 0), (.var 1)]), (.bin false .Sub (.var 1) (.lit (.int 1)))]) (.bin false .FloorDiv (.bin false .Mult (.call i_law_draw [(.var 0), (.lit (.int 8))]) (.lit (.int 3))) (.lit (.int 10)))))] }
def fn_law_frame : Fn := { ps := 2, n := 3, body := [
    .asg (.one 2) (.idx (.lst false [(.lit (.int 0)), (.call i_law_draw [(.var 0), (.lit (.int 21))])]) (.call i_law_draw [(.var 0), (.lit (.int 2))])),
    .ret (.tup [(.call i_law_size [(.var 0), (.var 1)]), (.call i_law_size [(.var 0), (.var 1)]), (.var 2), (.call i_law_draw [(.var 0), (.lit (.int 13))])])] }
def fn_law_inks : Fn := { ps := 3, n := 4, body := [
    .ret (.bi false .tuple [(.lc false [3] (.one 3) (.rng [(.var 1)]) (.lit (.bool true)) (.bin false .Mult (.call i_law_draw [(.var 0), (.lit (.int 16))]) (.bi false .int [(.cmp .Gt (.call i_law_draw [(.var 0), (.var 2)]) (.lit (.int 0)))])))])] }
def fn_law_inked : Fn := { ps := 2, n := 5, body := [
    .asg (.one 2) (.call i_law_size [(.var 0), (.var 1)]),
    .asg (.one 3) (.bin false .Add (.lit (.int 1)) (.call i_law_draw [(.var 0), (.lit (.int 4))])),
    .ret (.bi false .tuple [(.lc false [4] (.one 4) (.rng [(.call i_law_size [(.var 0), (.var 1)])]) (.lit (.bool true)) (.call i_law_inks [(.var 0), (.var 2), (.var 3)]))])] }
def fn_law_far : Fn := { ps := 2, n := 2, body := [
    .ret (.idx (.lst false [(.bin false .Sub (.call i_law_draw [(.var 0), (.bin false .Add (.var 1) (.lit (.int 16)))]) (.lit (.int 8))), (.bin false .Sub (.call i_law_draw [(.var 0), (.lit (.int 2001))]) (.lit (.int 1000)))]) (.bin false .FloorDiv (.call i_law_draw [(.var 0), (.lit (.int 8))]) (.lit (.int 7))))] }
def fn_law_mover : Fn := { ps := 3, n := 4, body := [
    .asg (.one 3) (.lit .none),
    .ite (.and (.cmp .Gt (.var 2) (.lit (.int 0))) (.cmp .Gt (.call i_law_draw [(.var 0), (.lit (.int 8))]) (.lit (.int 0)))) [
      .asg (.one 3) (.call i_law_draw [(.var 0), (.var 2)])] [],
    .ret (.tup [(.var 3), (.call i_law_far [(.var 0), (.idx (.var 1) (.lit (.int 0)))]), (.call i_law_far [(.var 0), (.idx (.var 1) (.lit (.int 1)))]), (.call i_law_draw [(.var 0), (.lit (.int 4))]), (.call i_law_draw [(.var 0), (.lit (.int 4))])])] }
def fn_law_stand : Fn := { ps := 3, n := 9, body := [
    .asg (.one 3) (.call i_law_inked [(.var 0), (.lit (.int 16))]),
    .asg (.one 4) (.tup [(.call i_law_far [(.var 0), (.lit (.int 9))]), (.call i_law_far [(.var 0), (.lit (.int 9))])]),
    .asg (.one 5) (.idx (.lst false [(.call i_law_draw [(.var 0), (.lit (.int 4))]), (.call i_law_draw [(.var 0), (.lit (.int 9))])]) (.bin false .FloorDiv (.call i_law_draw [(.var 0), (.lit (.int 4))]) (.lit (.int 3)))),
    .asg (.one 6) (.bi false .tuple [(.lc false [8] (.one 8) (.rng [(.var 5)]) (.lit (.bool true)) (.call i_law_inked [(.var 0), (.lit (.int 8))]))]),
    .asg (.one 7) (.bi false .tuple [(.lc false [8] (.one 8) (.rng [(.call i_law_draw [(.var 0), (.bin false .Add (.var 2) (.lit (.int 1)))])]) (.lit (.bool true)) (.call i_law_mover [(.var 0), (.var 1), (.bi false .len [(.var 6)])]))]),
    .ret (.tup [(.var 3), (.var 4), (.var 6), (.var 7), (.bi false .tuple [(.lc false [8] (.one 8) (.rng [(.lit (.int 16))]) (.lit (.bool true)) (.call i_law_draw [(.var 0), (.lit (.int 64))]))])])] }
def fn_law_strip : Fn := { ps := 3, n := 4, body := [
    .ite (.cmp .Eq (.bin false .FloorDiv (.var 1) (.lit (.int 2))) (.lit (.int 1))) [
      .asg (.one 2) (.bin false .Sub (.bin false .Sub (.bi false .len [(.var 0)]) (.lit (.int 1))) (.var 2))] [],
    .ite (.cmp .Eq (.bin false .Mod (.var 1) (.lit (.int 2))) (.lit (.int 0))) [
      .ret (.idx (.var 0) (.var 2))] [],
    .ret (.bi false .tuple [(.lc false [3] (.one 3) (.rng [(.bi false .len [(.idx (.var 0) (.var 2))])]) (.lit (.bool true)) (.idx (.idx (.var 0) (.var 2)) (.bin false .Sub (.bin false .Sub (.bi false .len [(.idx (.var 0) (.var 2))]) (.lit (.int 1))) (.var 3))))])] }
def fn_law_lying : Fn := { ps := 2, n := 9, body := [
    .asg (.one 2) (.lst true []),
    .forr (.one 3) (.rng [(.bi false .len [(.idx (.var 0) (.lit (.int 3)))])]) [
      .asg (.many [4, 5, 6, 7, 8]) (.idx (.idx (.var 0) (.lit (.int 3))) (.var 3)),
      .ite (.and (.cmp .IsNot (.var 4) (.lit .none)) (.and (.cmp .LtE (.var 6) (.var 1)) (.cmp .Lt (.var 1) (.bin false .Add (.var 6) (.bi false .len [(.idx (.idx (.var 0) (.lit (.int 2))) (.var 4))]))))) [
        .app (.var 2) (.var 3)] []] [3, 4, 5, 6, 7, 8],
    .ret (.var 2)] }
def fn_law_taken : Fn := { ps := 3, n := 13, body := [
    .asg (.many [6, 7]) (.sl false (.var 1) (.lit .none) (.toI (.lit (.int 2)))),
    .asg (.one 3) (.idx (.var 6) (.bin false .Mod (.bin false .Add (.var 2) (.idx (.var 7) (.lit (.int 1)))) (.bi false .len [(.var 6)]))),
    .asg (.one 4) (.lst true []),
    .forr (.one 5) (.cseq false (.sl false (.call i_law_lying [(.var 1), (.var 2)]) (.lit .none) (.toI (.idx (.var 0) (.lit (.int 3)))))) [
      .asg (.many [8, 9, 10, 11, 12]) (.idx (.idx (.var 1) (.lit (.int 3))) (.var 5)),
      .app (.var 4) (.tup [(.var 5), (.var 9), (.var 11), (.call i_law_strip [(.idx (.idx (.var 1) (.lit (.int 2))) (.var 8)), (.var 12), (.bin false .Sub (.var 2) (.var 10))])])] [5, 8, 10, 11, 12],
    .ret (.tup [(.bi false .tuple [(.lc false [9] (.one 9) (.rng [(.idx (.var 0) (.lit (.int 0)))]) (.lit (.bool true)) (.idx (.var 3) (.bin false .Mod (.bin false .Add (.var 9) (.idx (.var 7) (.lit (.int 0)))) (.bi false .len [(.var 3)]))))]), (.bi false .tuple [(.var 4)])])] }
def fn_law_cover : Fn := { ps := 2, n := 7, body := [
    .asg (.one 2) (.lst true []),
    .forr (.many [3, 4, 5, 6]) (.cseq false (.idx (.var 0) (.lit (.int 1)))) [
      .ite (.and (.cmp .LtE (.var 4) (.var 1)) (.and (.cmp .Lt (.var 1) (.bin false .Add (.var 4) (.bi false .len [(.var 6)]))) (.cmp .NotEq (.idx (.var 6) (.bin false .Sub (.var 1) (.var 4))) (.lit (.int 0))))) [
        .app (.var 2) (.tup [(.var 5), (.bin false .Sub (.lit (.int 0)) (.var 3)), (.idx (.var 6) (.bin false .Sub (.var 1) (.var 4)))])] []] [3, 4, 5, 6],
    .ret (.var 2)] }
def fn_law_ink : Fn := { ps := 2, n := 5, body := [
    .asg (.one 2) (.call i_law_cover [(.var 0), (.var 1)]),
    .asg (.one 3) (.lc false [4] (.one 4) (.cseq false (.var 2)) (.cmp .Gt (.idx (.var 4) (.lit (.int 0))) (.lit (.int 0))) (.var 4)),
    .ite (.cmp .NotEq (.var 3) (.lst false [])) [
      .ret (.idx (.bi false .max1 [(.var 3)]) (.lit (.int 2)))] [],
    .ite (.or (.cmp .NotEq (.idx (.idx (.var 0) (.lit (.int 0))) (.var 1)) (.lit (.int 0))) (.cmp .Eq (.var 2) (.lst false []))) [
      .ret (.idx (.idx (.var 0) (.lit (.int 0))) (.var 1))] [],
    .ret (.idx (.bi false .max1 [(.var 2)]) (.lit (.int 2)))] }
def fn_law_inks_laid : Fn := { ps := 2, n := 6, body := [
    .asg (.one 2) (.lc false [3] (.one 3) (.rng [(.idx (.var 0) (.lit (.int 1)))]) (.lit (.bool true)) (.call i_law_taken [(.var 0), (.var 1), (.var 3)])),
    .ret (.lc false [4] (.one 4) (.cseq false (.var 2)) (.lit (.bool true)) (.lc false [5] (.one 5) (.rng [(.idx (.var 0) (.lit (.int 0)))]) (.lit (.bool true)) (.call i_law_ink [(.var 4), (.var 5)])))] }
def fn_law_due : Fn := { ps := 2, n := 7, body := [
    .asg (.one 2) (.lst false []),
    .forr (.one 3) (.rng [(.bi false .len [(.var 0)])]) [
      .forr (.one 4) (.rng [(.bi false .len [(.idx (.var 0) (.var 3))])]) [
        .forr (.one 5) (.rng [(.bin false .Add (.var 4) (.lit (.int 1))), (.bi false .len [(.idx (.var 0) (.var 3))])]) [
          .ite (.and (.cmp .Eq (.idx (.idx (.var 0) (.var 3)) (.var 4)) (.idx (.idx (.var 0) (.var 3)) (.var 5))) (.cmp .NotEq (.idx (.idx (.var 1) (.var 3)) (.var 4)) (.idx (.idx (.var 1) (.var 3)) (.var 5)))) [
            .ret (.tup [(.lit (.str "bars")), (.var 3), (.var 4), (.var 5)])] []] [5]] [4, 5],
      .asg (.one 2) (.bin false .Add (.var 2) (.lc false [6] (.one 6) (.rng [(.bi false .len [(.idx (.var 0) (.var 3))])]) (.lit (.bool true)) (.tup [(.var 3), (.idx (.idx (.var 0) (.var 3)) (.var 6)), (.idx (.idx (.var 1) (.var 3)) (.var 6))])))] [3, 4, 5],
    .ret (.tup [(.lit (.str "wishes")), (.bi false .sortset [(.var 2)])])] }
def fn_law : Fn := { ps := 1, n := 15, body := [
    .asg (.one 1) (.lst true [(.bi false .list [(.var 0)]), (.lit (.int 0)), (.lit (.int 0))]),
    .forr (.one 2) (.rng [(.lit (.int 3))]) [
      .asg (.one 3) (.call i_law_frame [(.var 1), (.idx (.lst false [(.lit (.int 12)), (.lit (.int 40))]) (.bin false .FloorDiv (.call i_law_draw [(.var 1), (.lit (.int 4))]) (.lit (.int 3))))]),
      .asg (.one 4) (.call i_law_stand [(.var 1), (.var 3), (.lit (.int 6))]),
      .asg (.one 5) (.call i_law_inks_laid [(.var 3), (.var 4)]),
      .asg (.one 6) (.lc false [12] (.one 12) (.cseq false (.var 5)) (.lit (.bool true)) (.lc false [13] (.one 13) (.rng [(.lit (.int 16))]) (.lit (.bool true)) (.call i_law_draw [(.var 1), (.lit (.int 64))]))),
      .asg (.one 7) (.lc true [12] (.one 12) (.rng [(.bi false .len [(.var 5)])]) (.lit (.bool true)) (.lc true [13] (.one 13) (.cseq false (.idx (.var 5) (.var 12))) (.lit (.bool true)) (.idx (.idx (.var 6) (.var 12)) (.var 13)))),
      .forr (.one 8) (.rng [(.idx (.lst false [(.lit (.int 0)), (.lit (.int 0)), (.lit (.int 1)), (.lit (.int 2))]) (.call i_law_draw [(.var 1), (.lit (.int 4))]))]) [
        .setix (.idx (.var 7) (.call i_law_draw [(.var 1), (.idx (.var 3) (.lit (.int 1)))])) (.call i_law_draw [(.var 1), (.idx (.var 3) (.lit (.int 0)))]) (.call i_law_draw [(.var 1), (.lit (.int 64))])] [8],
      .asg (.one 9) (.lc false [12] (.one 12) (.cseq false (.var 7)) (.lit (.bool true)) (.bi false .list [(.var 12)])),
      .asg (.one 10) (.call i_law_due [(.var 5), (.var 7)]),
      .asg (.one 11) (.call i_wishes_of [(.var 3), (.var 4), (.var 9)]),
      .ite (.or (.not (.isi (.var 11) .tuple)) (.or (.cmp .NotEq (.var 11) (.var 10)) (.cmp .NotEq (.var 9) (.var 7)))) [
        .ret (.lit (.bool false))] [],
      .ite (.cmp .Eq (.idx (.var 11) (.lit (.int 0))) (.lit (.str "wishes"))) [
        .ite (.or (.not (.isi (.idx (.var 11) (.lit (.int 1))) .list)) (.not (.bi false .all [(.lc false [14] (.one 14) (.cseq false (.idx (.var 11) (.lit (.int 1)))) (.lit (.bool true)) (.isi (.var 14) .tuple))]))) [
          .ret (.lit (.bool false))] [],
        .app (.idx (.var 11) (.lit (.int 1))) (.tup [(.lit (.int 0)), (.lit (.int 0)), (.lit (.int 0))]),
        .ite (.cmp .NotEq (.call i_wishes_of [(.var 3), (.var 4), (.var 7)]) (.var 10)) [
          .ret (.lit (.bool false))] []] []] [2, 3, 4, 5, 6, 7, 8, 9, 10, 11],
    .ret (.lit (.bool true))] }
def fnl : List Fn := [fn_strip_of, fn_lying_on, fn_kept_on, fn_floor_strip, fn_taken, fn_covering, fn_ink_at, fn_inks_laid, fn_barred, fn_wishes_of, fn_law_draw, fn_law_size, fn_law_frame, fn_law_inks, fn_law_inked, fn_law_far, fn_law_mover, fn_law_stand, fn_law_strip, fn_law_lying, fn_law_taken, fn_law_cover, fn_law_ink, fn_law_inks_laid, fn_law_due, fn_law]
def T : Tab := tx.tab fnl

abbrev lev : Nat := 30
abbrev wf : Nat := 1000
def g_strip_of : DefG := ⟨⟨("strip_of", none), "strip_of", "strip_of", defArgs (top 1), defBody (top 1), defScope (top 1), [], []⟩, N_strip_of, ["shape", "turn", "row"], [], [], [], fn_strip_of⟩
theorem o_strip_of : DefG.Ok tx g_strip_of := ⟨⟨rfl, rfl, rfl, by decide +kernel, rfl, by decide +kernel, by decide +kernel⟩, fun K f fd F => F.bindsN (fun _ _ _ _ _ _ us hl => match us, hl with | [_, _, _], _ => rfl), rfl, rfl, ⟨200, by kernel_rfl⟩, rfl, rfl⟩
def g_lying_on : DefG := ⟨⟨("lying_on", none), "lying_on", "lying_on", defArgs (top 3), defBody (top 3), defScope (top 3), [], []⟩, N_lying_on, ["stand", "row"], [⟨12, 12, 12, 14⟩], [⟨13, 35, 13, 43⟩], [(13, [3, 4])], fn_lying_on⟩
theorem o_lying_on : DefG.Ok tx g_lying_on := ⟨⟨rfl, rfl, rfl, by decide +kernel, rfl, by decide +kernel, by decide +kernel⟩, fun K f fd F => F.bindsN (fun _ _ _ _ _ _ us hl => match us, hl with | [_, _], _ => rfl), rfl, rfl, ⟨200, by kernel_rfl⟩, rfl, rfl⟩
def g_kept_on : DefG := ⟨⟨("kept_on", none), "kept_on", "kept_on", defArgs (top 4), defBody (top 4), defScope (top 4), [], []⟩, N_kept_on, ["frame", "stand", "row"], [], [], [], fn_kept_on⟩
theorem o_kept_on : DefG.Ok tx g_kept_on := ⟨⟨rfl, rfl, rfl, by decide +kernel, rfl, by decide +kernel, by decide +kernel⟩, fun K f fd F => F.bindsN (fun _ _ _ _ _ _ us hl => match us, hl with | [_, _, _], _ => rfl), rfl, rfl, ⟨200, by kernel_rfl⟩, rfl, rfl⟩
def g_floor_strip : DefG := ⟨⟨("floor_strip", none), "floor_strip", "floor_strip", defArgs (top 5), defBody (top 5), defScope (top 5), [], []⟩, N_floor_strip, ["frame", "stand", "row"], [], [], [], fn_floor_strip⟩
theorem o_floor_strip : DefG.Ok tx g_floor_strip := ⟨⟨rfl, rfl, rfl, by decide +kernel, rfl, by decide +kernel, by decide +kernel⟩, fun K f fd F => F.bindsN (fun _ _ _ _ _ _ us hl => match us, hl with | [_, _, _], _ => rfl), rfl, rfl, ⟨200, by kernel_rfl⟩, rfl, rfl⟩
def g_taken : DefG := ⟨⟨("taken", none), "taken", "taken", defArgs (top 6), defBody (top 6), defScope (top 6), [], []⟩, N_taken, ["frame", "stand", "row"], [⟨24, 13, 24, 15⟩], [⟨25, 18, 25, 44⟩], [(25, [4, 5, 6, 7, 8, 9])], fn_taken⟩
theorem o_taken : DefG.Ok tx g_taken := ⟨⟨rfl, rfl, rfl, by decide +kernel, rfl, by decide +kernel, by decide +kernel⟩, fun K f fd F => F.bindsN (fun _ _ _ _ _ _ us hl => match us, hl with | [_, _, _], _ => rfl), rfl, rfl, ⟨200, by kernel_rfl⟩, rfl, rfl⟩
def g_covering : DefG := ⟨⟨("covering", none), "covering", "covering", defArgs (top 7), defBody (top 7), defScope (top 7), [], []⟩, N_covering, ["row_taken", "x"], [⟨30, 12, 30, 14⟩], [⟨31, 36, 31, 48⟩], [(31, [3, 4, 5, 6])], fn_covering⟩
theorem o_covering : DefG.Ok tx g_covering := ⟨⟨rfl, rfl, rfl, by decide +kernel, rfl, by decide +kernel, by decide +kernel⟩, fun K f fd F => F.bindsN (fun _ _ _ _ _ _ us hl => match us, hl with | [_, _], _ => rfl), rfl, rfl, ⟨200, by kernel_rfl⟩, rfl, rfl⟩
def g_ink_at : DefG := ⟨⟨("ink_at", none), "ink_at", "ink_at", defArgs (top 8), defBody (top 8), defScope (top 8), [], []⟩, N_ink_at, ["row_taken", "x"], [], [⟨37, 29, 37, 51⟩], [(37, [4, 5, 6])], fn_ink_at⟩
theorem o_ink_at : DefG.Ok tx g_ink_at := ⟨⟨rfl, rfl, rfl, by decide +kernel, rfl, by decide +kernel, by decide +kernel⟩, fun K f fd F => F.bindsN (fun _ _ _ _ _ _ us hl => match us, hl with | [_, _], _ => rfl), rfl, rfl, ⟨200, by kernel_rfl⟩, rfl, rfl⟩
def g_inks_laid : DefG := ⟨⟨("inks_laid", none), "inks_laid", "inks_laid", defArgs (top 10), defBody (top 10), defScope (top 10), [], []⟩, N_inks_laid, ["frame", "stand"], [⟨46, 12, 46, 14⟩], [], [(47, [3, 4])], fn_inks_laid⟩
theorem o_inks_laid : DefG.Ok tx g_inks_laid := ⟨⟨rfl, rfl, rfl, by decide +kernel, rfl, by decide +kernel, by decide +kernel⟩, fun K f fd F => F.bindsN (fun _ _ _ _ _ _ us hl => match us, hl with | [_, _], _ => rfl), rfl, rfl, ⟨200, by kernel_rfl⟩, rfl, rfl⟩
def g_barred : DefG := ⟨⟨("barred", none), "barred", "barred", defArgs (top 11), defBody (top 11), defScope (top 11), [], []⟩, N_barred, ["inks", "hues"], [], [], [(52, [2, 3]), (53, [3])], fn_barred⟩
theorem o_barred : DefG.Ok tx g_barred := ⟨⟨rfl, rfl, rfl, by decide +kernel, rfl, by decide +kernel, by decide +kernel⟩, fun K f fd F => F.bindsN (fun _ _ _ _ _ _ us hl => match us, hl with | [_, _], _ => rfl), rfl, rfl, ⟨200, by kernel_rfl⟩, rfl, rfl⟩
def g_wishes_of : DefG := ⟨⟨("wishes_of", none), "wishes_of", "wishes_of", defArgs (top 12), defBody (top 12), defScope (top 12), [], []⟩, N_wishes_of, ["frame", "stand", "picture"], [⟨62, 19, 62, 39⟩, ⟨65, 22, 65, 35⟩], [⟨58, 12, 58, 14⟩, ⟨59, 31, 59, 54⟩], [(59, [4, 5, 6, 7, 8]), (63, [7, 8])], fn_wishes_of⟩
theorem o_wishes_of : DefG.Ok tx g_wishes_of := ⟨⟨rfl, rfl, rfl, by decide +kernel, rfl, by decide +kernel, by decide +kernel⟩, fun K f fd F => F.bindsN (fun _ _ _ _ _ _ us hl => match us, hl with | [_, _, _], _ => rfl), rfl, rfl, ⟨200, by kernel_rfl⟩, rfl, rfl⟩
def g_law_draw : DefG := ⟨⟨("_law_draw", none), "_law_draw", "_law_draw", defArgs (top 14), defBody (top 14), defScope (top 14), [], []⟩, N_law_draw, ["tape", "many"], [], [], [], fn_law_draw⟩
theorem o_law_draw : DefG.Ok tx g_law_draw := ⟨⟨rfl, rfl, rfl, by decide +kernel, rfl, by decide +kernel, by decide +kernel⟩, fun K f fd F => F.bindsN (fun _ _ _ _ _ _ us hl => match us, hl with | [_, _], _ => rfl), rfl, rfl, ⟨200, by kernel_rfl⟩, rfl, rfl⟩
def g_law_size : DefG := ⟨⟨("_law_size", none), "_law_size", "_law_size", defArgs (top 15), defBody (top 15), defScope (top 15), [], []⟩, N_law_size, ["tape", "most"], [], [], [], fn_law_size⟩
theorem o_law_size : DefG.Ok tx g_law_size := ⟨⟨rfl, rfl, rfl, by decide +kernel, rfl, by decide +kernel, by decide +kernel⟩, fun K f fd F => F.bindsN (fun _ _ _ _ _ _ us hl => match us, hl with | [_, _], _ => rfl), rfl, rfl, ⟨200, by kernel_rfl⟩, rfl, rfl⟩
def g_law_frame : DefG := ⟨⟨("_law_frame", none), "_law_frame", "_law_frame", defArgs (top 16), defBody (top 16), defScope (top 16), [], []⟩, N_law_frame, ["tape", "most"], [], [], [], fn_law_frame⟩
theorem o_law_frame : DefG.Ok tx g_law_frame := ⟨⟨rfl, rfl, rfl, by decide +kernel, rfl, by decide +kernel, by decide +kernel⟩, fun K f fd F => F.bindsN (fun _ _ _ _ _ _ us hl => match us, hl with | [_, _], _ => rfl), rfl, rfl, ⟨200, by kernel_rfl⟩, rfl, rfl⟩
def g_law_inks : DefG := ⟨⟨("_law_inks", none), "_law_inks", "_law_inks", defArgs (top 17), defBody (top 17), defScope (top 17), [], []⟩, N_law_inks, ["tape", "wide", "thin"], [], [], [], fn_law_inks⟩
theorem o_law_inks : DefG.Ok tx g_law_inks := ⟨⟨rfl, rfl, rfl, by decide +kernel, rfl, by decide +kernel, by decide +kernel⟩, fun K f fd F => F.bindsN (fun _ _ _ _ _ _ us hl => match us, hl with | [_, _, _], _ => rfl), rfl, rfl, ⟨200, by kernel_rfl⟩, rfl, rfl⟩
def g_law_inked : DefG := ⟨⟨("_law_inked", none), "_law_inked", "_law_inked", defArgs (top 18), defBody (top 18), defScope (top 18), [], []⟩, N_law_inked, ["tape", "most"], [], [], [], fn_law_inked⟩
theorem o_law_inked : DefG.Ok tx g_law_inked := ⟨⟨rfl, rfl, rfl, by decide +kernel, rfl, by decide +kernel, by decide +kernel⟩, fun K f fd F => F.bindsN (fun _ _ _ _ _ _ us hl => match us, hl with | [_, _], _ => rfl), rfl, rfl, ⟨200, by kernel_rfl⟩, rfl, rfl⟩
def g_law_far : DefG := ⟨⟨("_law_far", none), "_law_far", "_law_far", defArgs (top 19), defBody (top 19), defScope (top 19), [], []⟩, N_law_far, ["tape", "size"], [], [], [], fn_law_far⟩
theorem o_law_far : DefG.Ok tx g_law_far := ⟨⟨rfl, rfl, rfl, by decide +kernel, rfl, by decide +kernel, by decide +kernel⟩, fun K f fd F => F.bindsN (fun _ _ _ _ _ _ us hl => match us, hl with | [_, _], _ => rfl), rfl, rfl, ⟨200, by kernel_rfl⟩, rfl, rfl⟩
def g_law_mover : DefG := ⟨⟨("_law_mover", none), "_law_mover", "_law_mover", defArgs (top 20), defBody (top 20), defScope (top 20), [], []⟩, N_law_mover, ["tape", "frame", "shapes"], [], [], [], fn_law_mover⟩
theorem o_law_mover : DefG.Ok tx g_law_mover := ⟨⟨rfl, rfl, rfl, by decide +kernel, rfl, by decide +kernel, by decide +kernel⟩, fun K f fd F => F.bindsN (fun _ _ _ _ _ _ us hl => match us, hl with | [_, _, _], _ => rfl), rfl, rfl, ⟨200, by kernel_rfl⟩, rfl, rfl⟩
def g_law_stand : DefG := ⟨⟨("_law_stand", none), "_law_stand", "_law_stand", defArgs (top 21), defBody (top 21), defScope (top 21), [], []⟩, N_law_stand, ["tape", "frame", "movers_most"], [], [], [], fn_law_stand⟩
theorem o_law_stand : DefG.Ok tx g_law_stand := ⟨⟨rfl, rfl, rfl, by decide +kernel, rfl, by decide +kernel, by decide +kernel⟩, fun K f fd F => F.bindsN (fun _ _ _ _ _ _ us hl => match us, hl with | [_, _, _], _ => rfl), rfl, rfl, ⟨200, by kernel_rfl⟩, rfl, rfl⟩
def g_law_strip : DefG := ⟨⟨("_law_strip", none), "_law_strip", "_law_strip", defArgs (top 22), defBody (top 22), defScope (top 22), [], []⟩, N_law_strip, ["shape", "turn", "row"], [], [], [], fn_law_strip⟩
theorem o_law_strip : DefG.Ok tx g_law_strip := ⟨⟨rfl, rfl, rfl, by decide +kernel, rfl, by decide +kernel, by decide +kernel⟩, fun K f fd F => F.bindsN (fun _ _ _ _ _ _ us hl => match us, hl with | [_, _, _], _ => rfl), rfl, rfl, ⟨200, by kernel_rfl⟩, rfl, rfl⟩
def g_law_lying : DefG := ⟨⟨("_law_lying", none), "_law_lying", "_law_lying", defArgs (top 23), defBody (top 23), defScope (top 23), [], []⟩, N_law_lying, ["stand", "row"], [⟨114, 12, 114, 14⟩], [], [(115, [3, 4, 5, 6, 7, 8])], fn_law_lying⟩
theorem o_law_lying : DefG.Ok tx g_law_lying := ⟨⟨rfl, rfl, rfl, by decide +kernel, rfl, by decide +kernel, by decide +kernel⟩, fun K f fd F => F.bindsN (fun _ _ _ _ _ _ us hl => match us, hl with | [_, _], _ => rfl), rfl, rfl, ⟨200, by kernel_rfl⟩, rfl, rfl⟩
def g_law_taken : DefG := ⟨⟨("_law_taken", none), "_law_taken", "_law_taken", defArgs (top 24), defBody (top 24), defScope (top 24), [], []⟩, N_law_taken, ["frame", "stand", "row"], [⟨123, 13, 123, 15⟩], [⟨124, 18, 124, 51⟩], [(124, [5, 8, 10, 11, 12])], fn_law_taken⟩
theorem o_law_taken : DefG.Ok tx g_law_taken := ⟨⟨rfl, rfl, rfl, by decide +kernel, rfl, by decide +kernel, by decide +kernel⟩, fun K f fd F => F.bindsN (fun _ _ _ _ _ _ us hl => match us, hl with | [_, _, _], _ => rfl), rfl, rfl, ⟨200, by kernel_rfl⟩, rfl, rfl⟩
def g_law_cover : DefG := ⟨⟨("_law_cover", none), "_law_cover", "_law_cover", defArgs (top 25), defBody (top 25), defScope (top 25), [], []⟩, N_law_cover, ["row_here", "x"], [⟨129, 12, 129, 14⟩], [⟨130, 36, 130, 47⟩], [(130, [3, 4, 5, 6])], fn_law_cover⟩
theorem o_law_cover : DefG.Ok tx g_law_cover := ⟨⟨rfl, rfl, rfl, by decide +kernel, rfl, by decide +kernel, by decide +kernel⟩, fun K f fd F => F.bindsN (fun _ _ _ _ _ _ us hl => match us, hl with | [_, _], _ => rfl), rfl, rfl, ⟨200, by kernel_rfl⟩, rfl, rfl⟩
def g_law_ink : DefG := ⟨⟨("_law_ink", none), "_law_ink", "_law_ink", defArgs (top 26), defBody (top 26), defScope (top 26), [], []⟩, N_law_ink, ["row_here", "x"], [], [⟨136, 28, 136, 33⟩], [], fn_law_ink⟩
theorem o_law_ink : DefG.Ok tx g_law_ink := ⟨⟨rfl, rfl, rfl, by decide +kernel, rfl, by decide +kernel, by decide +kernel⟩, fun K f fd F => F.bindsN (fun _ _ _ _ _ _ us hl => match us, hl with | [_, _], _ => rfl), rfl, rfl, ⟨200, by kernel_rfl⟩, rfl, rfl⟩
def g_law_inks_laid : DefG := ⟨⟨("_law_inks_laid", none), "_law_inks_laid", "_law_inks_laid", defArgs (top 27), defBody (top 27), defScope (top 27), [], []⟩, N_law_inks_laid, ["frame", "stand"], [], [⟨144, 67, 144, 71⟩], [], fn_law_inks_laid⟩
theorem o_law_inks_laid : DefG.Ok tx g_law_inks_laid := ⟨⟨rfl, rfl, rfl, by decide +kernel, rfl, by decide +kernel, by decide +kernel⟩, fun K f fd F => F.bindsN (fun _ _ _ _ _ _ us hl => match us, hl with | [_, _], _ => rfl), rfl, rfl, ⟨200, by kernel_rfl⟩, rfl, rfl⟩
def g_law_due : DefG := ⟨⟨("_law_due", none), "_law_due", "_law_due", defArgs (top 28), defBody (top 28), defScope (top 28), [], []⟩, N_law_due, ["inks", "picture"], [], [], [(147, [3, 4, 5]), (148, [4, 5]), (149, [5])], fn_law_due⟩
theorem o_law_due : DefG.Ok tx g_law_due := ⟨⟨rfl, rfl, rfl, by decide +kernel, rfl, by decide +kernel, by decide +kernel⟩, fun K f fd F => F.bindsN (fun _ _ _ _ _ _ us hl => match us, hl with | [_, _], _ => rfl), rfl, rfl, ⟨200, by kernel_rfl⟩, rfl, rfl⟩
def g_law : DefG := ⟨⟨("law", none), "law", "law", defArgs (top 29), defBody (top 29), defScope (top 29), [], []⟩, N_law, ["script"], [⟨155, 11, 155, 31⟩, ⟨161, 18, 161, 85⟩, ⟨161, 19, 161, 56⟩], [⟨160, 70, 160, 74⟩, ⟨161, 46, 161, 55⟩, ⟨164, 39, 164, 46⟩, ⟨170, 92, 170, 100⟩], [(156, [2, 3, 4, 5, 6, 7, 8, 9, 10, 11]), (162, [8])], fn_law⟩
theorem o_law : DefG.Ok tx g_law := ⟨⟨rfl, rfl, rfl, by decide +kernel, rfl, by decide +kernel, by decide +kernel⟩, fun K f fd F => F.bindsN (fun _ _ _ _ _ _ us hl => match us, hl with | [_], _ => rfl), rfl, rfl, ⟨200, by kernel_rfl⟩, rfl, rfl⟩
def dfl : List DefG := [g_strip_of, g_lying_on, g_kept_on, g_floor_strip, g_taken, g_covering, g_ink_at, g_inks_laid, g_barred, g_wishes_of, g_law_draw, g_law_size, g_law_frame, g_law_inks, g_law_inked, g_law_far, g_law_mover, g_law_stand, g_law_strip, g_law_lying, g_law_taken, g_law_cover, g_law_ink, g_law_inks_laid, g_law_due, g_law]
theorem dfl_ok : ∀ g ∈ dfl, DefG.Ok tx g := List.forall_mem_cons.mpr ⟨o_strip_of, List.forall_mem_cons.mpr ⟨o_lying_on, List.forall_mem_cons.mpr ⟨o_kept_on, List.forall_mem_cons.mpr ⟨o_floor_strip, List.forall_mem_cons.mpr ⟨o_taken, List.forall_mem_cons.mpr ⟨o_covering, List.forall_mem_cons.mpr ⟨o_ink_at, List.forall_mem_cons.mpr ⟨o_inks_laid, List.forall_mem_cons.mpr ⟨o_barred, List.forall_mem_cons.mpr ⟨o_wishes_of, List.forall_mem_cons.mpr ⟨o_law_draw, List.forall_mem_cons.mpr ⟨o_law_size, List.forall_mem_cons.mpr ⟨o_law_frame, List.forall_mem_cons.mpr ⟨o_law_inks, List.forall_mem_cons.mpr ⟨o_law_inked, List.forall_mem_cons.mpr ⟨o_law_far, List.forall_mem_cons.mpr ⟨o_law_mover, List.forall_mem_cons.mpr ⟨o_law_stand, List.forall_mem_cons.mpr ⟨o_law_strip, List.forall_mem_cons.mpr ⟨o_law_lying, List.forall_mem_cons.mpr ⟨o_law_taken, List.forall_mem_cons.mpr ⟨o_law_cover, List.forall_mem_cons.mpr ⟨o_law_ink, List.forall_mem_cons.mpr ⟨o_law_inks_laid, List.forall_mem_cons.mpr ⟨o_law_due, List.forall_mem_cons.mpr ⟨o_law, fun _ h => nomatch h⟩⟩⟩⟩⟩⟩⟩⟩⟩⟩⟩⟩⟩⟩⟩⟩⟩⟩⟩⟩⟩⟩⟩⟩⟩⟩
theorem tx_ok : tx.ok dfl = true := by kernel_rfl
abbrev Rr : PySem.W.OpenRow := PySem.W.OpenLaw.row PySem.Challenge.rw_glowrow_k35_wishes_of_pictures
abbrev hk : PySem.W.Hook := He.hookX 4 tx.fa (dfl.map (·.d)) tx.ts [] tx.exB
def ob (s : PySem.W.SharedT) : He.AlX := He.obsX 4 tx.fa (dfl.map (·.d)) tx.ts [] tx.exB (HandSHeadRun.getT s)
theorem ob_eq (s : PySem.W.SharedT) : ob s = hk.obs s.abs := He.obsX_eq (HandSHeadRun.getT_eq s)
def loose : List Str := (["strip_of", "lying_on", "kept_on", "floor_strip", "taken", "covering", "ink_at", "inks_laid", "barred", "wishes_of", "_law_draw", "_law_size", "_law_frame", "_law_inks", "_law_inked", "_law_far", "_law_mover", "_law_stand", "_law_strip", "_law_lying"] : List Str) ++ (["_law_taken", "_law_cover", "_law_ink", "_law_inks_laid", "_law_due"] : List Str)
abbrev faC : Nat := tx.fa.length / 1 + 1
abbrev faR0 : List He.Fa := tx.fa
abbrev fnp0 : List He.DefD := [g_strip_of.d, g_lying_on.d, g_kept_on.d, g_floor_strip.d, g_taken.d, g_covering.d, g_ink_at.d, g_inks_laid.d, g_barred.d, g_wishes_of.d, g_law_draw.d, g_law_size.d, g_law_frame.d, g_law_inks.d, g_law_inked.d, g_law_far.d, g_law_mover.d, g_law_stand.d, g_law_strip.d, g_law_lying.d, g_law_taken.d, g_law_cover.d, g_law_ink.d, g_law_inks_laid.d, g_law_due.d, g_law.d]
theorem runA (w : World) (os : OsState) : (HandSHeadRun.endF (HandSHeadRun.stepQ (HandSHeadRun.denQ HandSHeadRun.tabQ) Rr.prog w) 9000 Rr.prog w os).map (fun s => HandSHeadRun.looksF Rr.prog (PySem.W.boot_heap w.params) s.abs) = some true := by
  kernel_rfl
open PySem PySem.W PySem.Calls PyProof.Rows in
theorem runB (w : World) (os : OsState) : (HandSHeadRun.endF (HandSHeadRun.stepQ (HandSHeadRun.denQ HandSHeadRun.tabQ) Rr.prog w) 9000 Rr.prog w os).map (fun s => HandSHeadRun.seenQ (PySem.W.view Rr.prog [29]) loose (importedModules Rr.prog.main.body) (fun s => xlAt (PySem.W.view Rr.prog [29]) [] s && recOk Rr.toRowW.records s) s.abs) = some (openGood (PySem.W.view Rr.prog [29]) loose) := by
  kernel_rfl
theorem runC0 (w : World) (os : OsState) : (HandSHeadRun.endF (HandSHeadRun.stepQ (HandSHeadRun.denQ HandSHeadRun.tabQ) Rr.prog w) 9000 Rr.prog w os).map (fun s => He.obsX 4 faR0 fnp0 tx.ts [] tx.exB (HandSHeadRun.getT s)) = some (He.valX fnp0 tx.ts w) := by
  kernel_rfl
theorem runC (w : World) (os : OsState) : (HandSHeadRun.endF (HandSHeadRun.stepQ (HandSHeadRun.denQ HandSHeadRun.tabQ) Rr.prog w) 9000 Rr.prog w os).map (fun s => ob s) = some (hk.val w) := by
  have h := runC0 w os
  exact h
theorem run (w : World) : HandSHeadRun.RunEq Rr (PySem.W.view Rr.prog [29]) hk ob 9000 loose w := fun os => Gv.map_three (runA w os) (runB w os) (runC w os)
end Lw

open Gv in
local macro_rules | `(tactic| walk_at "ev") => `(tactic| try simp only [Bool.not_true, Bool.not_false, ev_lit, ev_var, ev_bin, ev_neg, ev_not, ev_and, ev_or, ev_cmp, ev_chain, ev_chain3, ev_ifx, ev_tup, ev_lst, ev_idx, ev_toI, ev_sl, ev_rev, ev_bi, ev_isi, ev_call, ev_lc, ev_lrng, ev_trng, trS_ok, ev_mt, negR_k, notR_k, tupR_k, tupR_n, toIR_k, isiR_k, ginR_k, isi_ii, isi_ib, isi_tt, isi_xc, ev_attr, ev_meth, ev_make, ev_orT, ev_gin, ev_gget, evs_nil, evs_cons, evi_rng, evi_seq, evi_enum, evi_zip, evi_cseq, srcC_r, srcCC_k, srcC_l, srcC_t, srcC_el, srcC_et, lcSE_vs, forT_vs, bind_k, toS_k, toT_k, bind_x, toS_x, toT_x, forS_T, lrS_ok, bl_bind, bl_toS, bl_toT, List.getElem?_cons_zero, List.getElem?_cons_succ, List.set_cons_zero, List.set_cons_succ, asg_one, asg_many, setAll_n, setAll_c, brV_dec, brV_T, brV_F, or_dec, and_dec, not_dec, callV_r, ofOpt_k, wipe_n, wipe_c, List.cons_append, List.nil_append, add_ii, sub_ii, lt_ii, le_ii, gt_ii, ge_ii, eq_ii, ne_ii, len_t, len_l, tuple_l, tuple_t, list_l, list_t, int_i, int_b, min_ii, max_ii, rev_t, seq_l, seq_t, Gv.is_none, isnot_none, is_bb, isnot_bb, mkLV_d, mkL_F, mkLV_T, mkLV_o, mkLVs_k, mkLVs_n, allD_map, allD_cons_r, Option.map_none, allD_nil, allD_cons_d, Option.map_some, List.length_map, List.length_cons, List.length_nil, Nat.zero_add, Nat.reduceAdd, Int.cast_ofNat_Int, not_true, not_false_iff, ite_true, ite_false, ix1_0, ixl1_0, ix2_0, ixl2_0, ix2_1, ixl2_1, ix3_0, ixl3_0, ix3_1, ixl3_1, ix3_2, ixl3_2, ix4_0, ixl4_0, ix4_1, ixl4_1, ix4_2, ixl4_2, ix4_3, ixl4_3, ix5_0, ixl5_0, ix5_1, ixl5_1, ix5_2, ixl5_2, ix5_3, ixl5_3, ix5_4, ixl5_4, part_n, part_i, sl_t, sl_l, turn_one, turn_two, turn_three, turn_four, turn_five, wipeS_next, wipeS_ret, wipeS_exc])
open Gv in
local macro_rules | `(tactic| walk_at "st") => `(tactic| try simp only [ss_asg1, ss_expr1, ss_ret1, ss_ite1, ss_rais1, ss_pass1, ss_for1, brS_dec, brS_T, brS_F, ss0, cont_next, cont_ret, cont_exc, Bool.not_true, Bool.not_false, ev_lit, ev_var, ev_bin, ev_neg, ev_not, ev_and, ev_or, ev_cmp, ev_chain, ev_chain3, ev_ifx, ev_tup, ev_lst, ev_idx, ev_toI, ev_sl, ev_rev, ev_bi, ev_isi, ev_call, ev_lc, ev_lrng, ev_trng, trS_ok, ev_mt, negR_k, notR_k, tupR_k, tupR_n, toIR_k, isiR_k, ginR_k, isi_ii, isi_ib, isi_tt, isi_xc, ev_attr, ev_meth, ev_make, ev_orT, ev_gin, ev_gget, evs_nil, evs_cons, evi_rng, evi_seq, evi_enum, evi_zip, evi_cseq, srcC_r, srcCC_k, srcC_l, srcC_t, srcC_el, srcC_et, lcSE_vs, forT_vs, bind_k, toS_k, toT_k, bind_x, toS_x, toT_x, forS_T, lrS_ok, bl_bind, bl_toS, bl_toT, List.getElem?_cons_zero, List.getElem?_cons_succ, List.set_cons_zero, List.set_cons_succ, asg_one, asg_many, setAll_n, setAll_c, brV_dec, brV_T, brV_F, or_dec, and_dec, not_dec, callV_r, ofOpt_k, wipe_n, wipe_c, List.cons_append, List.nil_append, add_ii, sub_ii, lt_ii, le_ii, gt_ii, ge_ii, eq_ii, ne_ii, len_t, len_l, tuple_l, tuple_t, list_l, list_t, int_i, int_b, min_ii, max_ii, rev_t, seq_l, seq_t, Gv.is_none, isnot_none, is_bb, isnot_bb, mkLV_d, mkL_F, mkLV_T, mkLV_o, mkLVs_k, mkLVs_n, allD_map, allD_cons_r, Option.map_none, allD_nil, allD_cons_d, Option.map_some, List.length_map, List.length_cons, List.length_nil, Nat.zero_add, Nat.reduceAdd, Int.cast_ofNat_Int, not_true, not_false_iff, ite_true, ite_false, ix1_0, ixl1_0, ix2_0, ixl2_0, ix2_1, ixl2_1, ix3_0, ixl3_0, ix3_1, ixl3_1, ix3_2, ixl3_2, ix4_0, ixl4_0, ix4_1, ixl4_1, ix4_2, ixl4_2, ix4_3, ixl4_3, ix5_0, ixl5_0, ix5_1, ixl5_1, ix5_2, ixl5_2, ix5_3, ixl5_3, ix5_4, ixl5_4, part_n, part_i, sl_t, sl_l, turn_one, turn_two, turn_three, turn_four, turn_five, wipeS_next, wipeS_ret, wipeS_exc])
open Gv in
local macro_rules | `(tactic| tbr_iter [$xs,*]) => `(tactic| simp (maxSteps := 1000000) (disch := first | omega | (simp only [List.length_cons, List.length_nil, List.length_append, List.length_map]; omega)) only [ss_asg1, ss_expr1, ss_ret1, ss_ite1, ss_rais1, ss_pass1, ss_for1, brS_dec, brS_T, brS_F, ss0, cont_next, cont_ret, cont_exc, Bool.not_true, Bool.not_false, ev_lit, ev_var, ev_bin, ev_neg, ev_not, ev_and, ev_or, ev_cmp, ev_chain, ev_chain3, ev_ifx, ev_tup, ev_lst, ev_idx, ev_toI, ev_sl, ev_rev, ev_bi, ev_isi, ev_call, ev_lc, ev_lrng, ev_trng, trS_ok, ev_mt, negR_k, notR_k, tupR_k, tupR_n, toIR_k, isiR_k, ginR_k, isi_ii, isi_ib, isi_tt, isi_xc, ev_attr, ev_meth, ev_make, ev_orT, ev_gin, ev_gget, evs_nil, evs_cons, evi_rng, evi_seq, evi_enum, evi_zip, evi_cseq, srcC_r, srcCC_k, srcC_l, srcC_t, srcC_el, srcC_et, lcSE_vs, forT_vs, bind_k, toS_k, toT_k, bind_x, toS_x, toT_x, forS_T, lrS_ok, bl_bind, bl_toS, bl_toT, List.getElem?_cons_zero, List.getElem?_cons_succ, List.set_cons_zero, List.set_cons_succ, asg_one, asg_many, setAll_n, setAll_c, brV_dec, brV_T, brV_F, or_dec, and_dec, not_dec, callV_r, ofOpt_k, wipe_n, wipe_c, List.cons_append, List.nil_append, add_ii, sub_ii, lt_ii, le_ii, gt_ii, ge_ii, eq_ii, ne_ii, len_t, len_l, tuple_l, tuple_t, list_l, list_t, int_i, int_b, min_ii, max_ii, rev_t, seq_l, seq_t, Gv.is_none, isnot_none, is_bb, isnot_bb, mkLV_d, mkL_F, mkLV_T, mkLV_o, mkLVs_k, mkLVs_n, allD_map, allD_cons_r, Option.map_none, allD_nil, allD_cons_d, Option.map_some, List.length_map, List.length_cons, List.length_nil, Nat.zero_add, Nat.reduceAdd, Int.cast_ofNat_Int, not_true, not_false_iff, ite_true, ite_false, ix1_0, ixl1_0, ix2_0, ixl2_0, ix2_1, ixl2_1, ix3_0, ixl3_0, ix3_1, ixl3_1, ix3_2, ixl3_2, ix4_0, ixl4_0, ix4_1, ixl4_1, ix4_2, ixl4_2, ix4_3, ixl4_3, ix5_0, ixl5_0, ix5_1, ixl5_1, ix5_2, ixl5_2, ix5_3, ixl5_3, ix5_4, ixl5_4, part_n, part_i, sl_t, sl_l, turn_one, turn_two, turn_three, turn_four, turn_five, wipeS_next, wipeS_ret, wipeS_exc, bind_bind, toS_T, bind_toT2, Int.reduceLT, Int.reduceLE, Int.reduceEq, Int.reduceSub, Int.reduceAdd, Int.reduceMul, Int.reduceNeg, reduceIte, decide_true, decide_false, ite_self, and_true, true_and, or_false, false_or, or_true, true_or, and_false, false_and, not_true_eq_false, not_false_eq_true, ret_dec, ret_decT, divmod_ii, add_lls, add_tts, mul_il, mul_ir, idx_l2p, idx_l3p, div_iis, mod_ii, pow_iis, mkL_n, ss_app2, appA_r, appP_k, appB_r, appC_k, get_last, set_last, tup_rr, tupC_k, tupC_0, len_rr, lenC_k, lenC_d, idx_ti, idx_li, $[$xs:term],*])

namespace Lw
open PySem Gv
/-! ### the tape of draws -/
structure Tape where
  ns : List Int
  p : Int
  c : Int
def Tape.cell (t : Tape) : Cell := .lst [.d (.list (t.ns.map .int)), .d (.int t.p), .d (.int t.c)]
def prime : Int := 2305843009213693951
def mix (x p : Int) : Int :=
  let a := (x + 1000003 * p) % prime
  let b := (a * a + 1181783497276652981 * a + 2049848353892358983) % prime
  (b * b + 1442695040888963407) % prime
def Tape.raw (t : Tape) : Int := if t.ns = [] then 0 else t.ns.getD (t.p % t.ns.length).toNat 0
def Tape.next (t : Tape) : Int := if t.ns.length ≤ t.p ∨ t.raw < 1000000000000000000 then mix t.raw t.p else t.raw
def Tape.fill (t : Tape) (many : Int) : Tape := if t.c < many then ⟨t.ns, t.p + 1, t.next⟩ else t
def Tape.draw (t : Tape) (many : Int) : Int × Tape := ((t.fill many).c % many, { t.fill many with c := (t.fill many).c / many })
theorem Tape.draw_lo (t : Tape) {many : Int} (h : 0 < many) : 0 ≤ (t.draw many).1 := Int.emod_nonneg _ (by omega)
theorem Tape.draw_hi (t : Tape) {many : Int} (h : 0 < many) : (t.draw many).1 < many := Int.emod_lt_of_pos _ h
theorem at3_0 {α : Type} (a b c : α) : atI [a, b, c] 0 = some a := rfl
theorem at3_1 {α : Type} (a b c : α) : atI [a, b, c] 1 = some b := rfl
theorem at3_2 {α : Type} (a b c : α) : atI [a, b, c] 2 = some c := rfl
theorem ix3_1 : ixN 3 1 = some 1 := rfl
theorem ix3_2 : ixN 3 2 = some 2 := rfl
theorem raw_at (ns : List Int) (p : Int) (h : ns ≠ []) : atI (ns.map PyData.int) (p % (ns.length : Int)) = some (.int (ns.getD (p % (ns.length : Int)).toNat 0)) := by
  have hl : 0 < ns.length := List.length_pos_iff.mpr h
  have h1 : 0 ≤ p % (ns.length : Int) := Int.emod_nonneg _ (by omega)
  have h2 : p % (ns.length : Int) < ns.length := Int.emod_lt_of_pos _ (by omega)
  unfold atI ixN
  rw [List.length_map, if_pos h1, if_pos h2]
  have h3 : (p % (ns.length : Int)).toNat < ns.length := by omega
  simp [List.getElem?_eq_getElem, h3, List.getD_eq_getElem?_getD]
theorem mulOk_l {i j : Int} (h1 : -18446744073709551616 < i) (h2 : i < 18446744073709551616) : mulOk i j = true := by
  unfold mulOk
  have e : ((2 : Int) ^ 64) = 18446744073709551616 := by decide
  rw [e]
  simp [h1, h2]
theorem mulOk_r {i j : Int} (h1 : -18446744073709551616 < j) (h2 : j < 18446744073709551616) : mulOk i j = true := by
  unfold mulOk
  have e : ((2 : Int) ^ 64) = 18446744073709551616 := by decide
  rw [e]
  simp [h1, h2]
theorem mod_prime (x : Int) : 0 ≤ x % 2305843009213693951 ∧ x % 2305843009213693951 < 2305843009213693951 := ⟨Int.emod_nonneg _ (by decide), Int.emod_lt_of_pos _ (by decide)⟩
end Lw

namespace Lw
open PySem Gv
local macro_rules | `(tactic| walk_at "ed") => `(tactic| simp only [ev_lit, ev_var, ev_bin, ev_neg, ev_not, ev_and, ev_or, ev_cmp, ev_chain, ev_ifx, ev_tup, ev_lst, ev_idx, ev_toI, ev_sl, ev_rev, ev_bi, ev_isi, ev_call, ev_lc, ev_lrng, evs_nil, evs_cons, evi_rng, evi_seq, evi_enum, evi_zip, bind_k, toS_k, forS_ok, lrS_ok, bl_bind, bl_toS, List.getElem?_cons_zero, List.getElem?_cons_succ, List.set_cons_zero, List.set_cons_succ, asg_one, asg_many, setAll_n, setAll_c, brV_dec, brV_T, brV_F, or_dec, and_dec, not_dec, callV_r, ofOpt_k, wipe_n, wipe_c, List.cons_append, List.nil_append, add_ii, sub_ii, lt_ii, le_ii, gt_ii, ge_ii, eq_ii, ne_ii, len_t, len_l, tuple_l, tuple_t, list_l, list_t, int_i, int_b, min_ii, max_ii, rev_t, seq_l, seq_t, Gv.is_none, isnot_none, is_bb, isnot_bb, mkLV_d, mkL_F, allD_nil, allD_cons_d, Option.map_some, List.length_map, cmpD, biD, biLen, lenD, binD, addD, mulD, idxD, setD, List.length_cons, List.length_nil, at3_0, at3_1, at3_2, ix3_1, ix3_2, Nat.zero_add, Nat.reduceAdd])
theorem draw_end (ns : List Int) (p c many : Int) (h0 : 0 < many) (h1 : many < bigB) (Q : Store) (o1 o2 : Option Val) (F : FEnv) :
    evSs F wf (fn_law_draw.body.drop 2) [some (.ref 0), some (.d (.int many)), o1, none, o2] (.lst [.d (.list (ns.map .int)), .d (.int p), .d (.int c)] :: Q) = .ret (.d (.int (c % many))) ((Tape.mk ns p (c / many)).cell :: Q) := by
  simp only [fn_law_draw, List.drop_succ_cons, List.drop_zero]
  rw [ss_asg1]
  walk_at "ed"
  simp only [h0, if_true, R.bind_ok, R.toS_ok]
  rw [ss_setix1]
  walk_at "ed"
  simp only [h0, h1, decide_true, Bool.and_self, if_true, R.bind_ok, R.toS_ok]
  walk_at "ed"
  rw [ss_ret1]
  walk_at "ed"
  rfl
theorem draw_mid (ns : List Int) (p c many x : Int) (h0 : 0 < many) (h1 : many < bigB) (Q : Store) (F : FEnv) (tail : List IS)
    (hend : ∀ (ns : List Int) (p c : Int) (o1 o2 : Option Val), evSs F wf tail [some (.ref 0), some (.d (.int many)), o1, none, o2] (.lst [.d (.list (ns.map .int)), .d (.int p), .d (.int c)] :: Q) = .ret (.d (.int (c % many))) ((Tape.mk ns p (c / many)).cell :: Q)) :
    evSs F wf ([.ite (.or (.cmp .GtE (.idx (.var 0) (.lit (.int 1))) (.bi false .len [(.idx (.var 0) (.lit (.int 0)))])) (.cmp .Lt (.var 4) (.bin false .Pow (.lit (.int 10)) (.lit (.int 18))))) [
        .asg (.one 4) (.bin false .Mod (.bin false .Add (.var 4) (.bin false .Mult (.lit (.int 1000003)) (.idx (.var 0) (.lit (.int 1))))) (.var 2)),
        .asg (.one 4) (.bin false .Mod (.bin false .Add (.bin false .Add (.bin false .Mult (.var 4) (.var 4)) (.bin false .Mult (.lit (.int 1181783497276652981)) (.var 4))) (.lit (.int 2049848353892358983))) (.var 2)),
        .asg (.one 4) (.bin false .Mod (.bin false .Add (.bin false .Mult (.var 4) (.var 4)) (.lit (.int 1442695040888963407))) (.var 2))] [],
      .setix (.var 0) (.lit (.int 1)) (.bin false .Add (.idx (.var 0) (.lit (.int 1))) (.lit (.int 1))),
      .setix (.var 0) (.lit (.int 2)) (.var 4)] ++ tail) [some (.ref 0), some (.d (.int many)), some (.d (.int 2305843009213693951)), none, some (.d (.int x))] (.lst [.d (.list (ns.map .int)), .d (.int p), .d (.int c)] :: Q) =
      .ret (.d (.int ((if ns.length ≤ p ∨ x < 1000000000000000000 then mix x p else x) % many))) ((Tape.mk ns (p + 1) ((if ns.length ≤ p ∨ x < 1000000000000000000 then mix x p else x) / many)).cell :: Q) := by
  try simp only [List.cons_append, List.nil_append]
  rw [ss_ite1]
  have e18 : (10 : Int) ^ (18 : Int).toNat = 1000000000000000000 := by decide
  have c1 : (decide ((0 : Int) ≤ 18) && decide ((18 : Int) ≤ 1000) && decide ((10 : Int).natAbs ≤ 1000)) = true := by decide
  walk_at "ed"
  simp only [c1, if_true, R.bind_ok, e18, or_dec, bl_toS, bl_bind]
  rw [brS_dec]
  by_cases hm : (ns.length : Int) ≤ p ∨ x < 1000000000000000000
  · rw [if_pos hm]
    simp only [hm, if_true, List.cons_append, List.nil_append]
    rw [ss_asg1]
    walk_at "ed"
    simp only [mulOk_l (show -18446744073709551616 < (1000003 : Int) by decide) (by decide), if_true, R.bind_ok, show (0 : Int) < 2305843009213693951 from by decide]
    walk_at "ed"
    rw [ss_asg1]
    obtain ⟨q1, q2⟩ := mod_prime (x + 1000003 * p)
    walk_at "ed"
    simp only [mulOk_l (show -18446744073709551616 < (x + 1000003 * p) % 2305843009213693951 by omega) (show (x + 1000003 * p) % 2305843009213693951 < 18446744073709551616 by omega), mulOk_l (show -18446744073709551616 < (1181783497276652981 : Int) by decide) (by decide), if_true, R.bind_ok, show (0 : Int) < 2305843009213693951 from by decide]
    walk_at "ed"
    try simp only [show (0 : Int) < 2305843009213693951 from by decide, if_true]
    try walk_at "ed"
    rw [ss_asg1]
    generalize hA : (x + 1000003 * p) % 2305843009213693951 = A
    obtain ⟨q3, q4⟩ := mod_prime (A * A + 1181783497276652981 * A + 2049848353892358983)
    generalize hB : (A * A + 1181783497276652981 * A + 2049848353892358983) % 2305843009213693951 = B at q3 q4
    walk_at "ed"
    simp only [mulOk_l (show -18446744073709551616 < B by omega) (show B < 18446744073709551616 by omega), if_true, R.bind_ok, show (0 : Int) < 2305843009213693951 from by decide]
    walk_at "ed"
    try simp only [show (0 : Int) < 2305843009213693951 from by decide, if_true]
    try walk_at "ed"
    rw [ss_setix1]
    walk_at "ed"
    rw [ss_setix1]
    walk_at "ed"
    have hmix : mix x p = (B * B + 1442695040888963407) % 2305843009213693951 := by
      show ((((x + 1000003 * p) % 2305843009213693951) * ((x + 1000003 * p) % 2305843009213693951) + 1181783497276652981 * ((x + 1000003 * p) % 2305843009213693951) + 2049848353892358983) % 2305843009213693951 * ((((x + 1000003 * p) % 2305843009213693951) * ((x + 1000003 * p) % 2305843009213693951) + 1181783497276652981 * ((x + 1000003 * p) % 2305843009213693951) + 2049848353892358983) % 2305843009213693951) + 1442695040888963407) % 2305843009213693951 = _
      rw [hA, hB]
    rw [hmix]
    exact hend ns (p + 1) _ _ _
  · rw [if_neg hm]
    simp only [hm, if_false, List.nil_append]
    rw [ss_setix1]
    walk_at "ed"
    rw [ss_setix1]
    walk_at "ed"
    exact hend ns (p + 1) _ _ _
theorem draw_ok (k : Nat) (t : Tape) (many : Int) (h0 : 0 < many) (h1 : many < bigB) (Q : Store) :
    callF T wf (k + 2) i_law_draw [.ref 0, .d (.int many)] (t.cell :: Q) = .ok (.d (.int (t.draw many).1)) ((t.draw many).2.cell :: Q) := by
  rw [call_fn (fn := fn_law_draw) rfl rfl]
  have key : ∀ F, evSs F wf fn_law_draw.body (enter fn_law_draw [.ref 0, .d (.int many)]) (t.cell :: Q) = .ret (.d (.int (t.draw many).1)) ((t.draw many).2.cell :: Q) := by
    intro F
    obtain ⟨ns, p, c⟩ := t
    show evSs F wf fn_law_draw.body [some (.ref 0), some (.d (.int many)), none, none, none] (.lst [.d (.list (ns.map .int)), .d (.int p), .d (.int c)] :: Q) = _
    rw [show fn_law_draw.body = fn_law_draw.body.take 2 ++ fn_law_draw.body.drop 2 from rfl]
    have hend := fun ns p c o1 o2 => draw_end ns p c many h0 h1 Q o1 o2 F
    generalize fn_law_draw.body.drop 2 = tail at hend ⊢
    simp only [fn_law_draw, List.take_succ_cons, List.take_zero, List.cons_append, List.nil_append]
    rw [ss_asg1]
    walk_at "ed"
    rw [ss_ite1]
    walk_at "ed"
    rw [brS_dec]
    by_cases hc : c < many
    · rw [if_pos hc]
      have hd : (Tape.draw ⟨ns, p, c⟩ many) = ((Tape.next ⟨ns, p, c⟩) % many, ⟨ns, p + 1, (Tape.next ⟨ns, p, c⟩) / many⟩) := by
        unfold Tape.draw Tape.fill
        simp only [hc, if_true]
      rw [hd]
      try simp only [List.cons_append, List.nil_append]
      rw [ss_asg1]
      walk_at "ed"
      rw [ss_ite1]
      walk_at "ed"
      rw [brS_dec]
      by_cases hn : ns = []
      · subst hn
        rw [if_neg (by simp)]
        have := draw_mid [] p c many 0 h0 h1 Q F tail hend
        exact this
      · have hl : 0 < ns.length := List.length_pos_iff.mpr hn
        rw [if_pos (by omega)]
        try simp only [List.cons_append, List.nil_append]
        rw [ss_asg1]
        walk_at "ed"
        simp only [show (0 : Int) < (ns.length : Int) from by omega, if_true, R.bind_ok, raw_at ns p hn]
        walk_at "ed"
        have := draw_mid ns p c many (ns.getD (p % (ns.length : Int)).toNat 0) h0 h1 Q F tail hend
        have hr : Tape.raw ⟨ns, p, c⟩ = ns.getD (p % (ns.length : Int)).toNat 0 := by
          unfold Tape.raw
          simp only [hn, if_false]
        unfold Tape.next
        rw [hr]
        exact this
    · rw [if_neg hc]
      have hd : (Tape.draw ⟨ns, p, c⟩ many) = (c % many, ⟨ns, p, c / many⟩) := by
        unfold Tape.draw Tape.fill
        simp only [hc, if_false]
      rw [hd]
      exact hend ns p c _ _
  rw [key, fin_ret]
  exact exit_same (by simp)
end Lw

namespace Lw
open PySem Gv
section
variable {P : SR → Prop} {s : Slots}
theorem draw_ex (k : Nat) (t : Tape) (n : Int) (h0 : 0 < n) (h1 : n ≤ 1000000000000000000000000000000000000000000000000000000000000) (Q : Store) : ∃ (x : Int) (t' : Tape), callF T wf (k + 2) i_law_draw [.ref 0, .d (.int n)] (t.cell :: Q) = .ok (.d (.int x)) (t'.cell :: Q) ∧ 0 ≤ x ∧ x < n :=
  ⟨_, _, draw_ok k t n h0 (Int.lt_of_le_of_lt h1 bigB_gt) Q, t.draw_lo h0, t.draw_hi h0⟩
theorem ws_draw {k : Nat} {t : Tape} {n : Int} {Q : Store} {f : Val → Store → SR} (h0 : 0 < n) (h1 : n ≤ 1000000000000000000000000000000000000000000000000000000000000) (H : ∀ (x : Int) (t' : Tape), 0 ≤ x → x < n → WS P (f (.d (.int x)) (t'.cell :: Q))) :
    WS P ((callF T wf (k + 2) i_law_draw [.ref 0, .d (.int n)] (t.cell :: Q)).toT s f) := by
  obtain ⟨x, t', e, a, b⟩ := draw_ex k t n h0 h1 Q
  rw [e]
  exact H x t' a b
theorem wr_draw {α : Type} {P : R α → Prop} {k : Nat} {t : Tape} {n : Int} {Q : Store} {f : Val → Store → R α} (h0 : 0 < n) (h1 : n ≤ 1000000000000000000000000000000000000000000000000000000000000) (H : ∀ (x : Int) (t' : Tape), 0 ≤ x → x < n → WR P (f (.d (.int x)) (t'.cell :: Q))) :
    WR P ((callF T wf (k + 2) i_law_draw [.ref 0, .d (.int n)] (t.cell :: Q)).bind f) := by
  obtain ⟨x, t', e, a, b⟩ := draw_ex k t n h0 h1 Q
  rw [e]
  exact H x t' a b
/-- a list of draws -/
theorem ws_lcd {α β : Type} {F : FEnv} {e : IE} {i : Nat} {s0 : Slots} {t : Tape} {Q : Store} {emb : α → Val} (out : β → PyData) (B : β → Prop) {xs : List α} {f : List Val → Store → SR}
    (he : ∀ x ∈ xs, ∀ t : Tape, WS (fun r => ∃ (y : β) (t' : Tape), r = .ret (.d (out y)) (t'.cell :: Q) ∧ B y) ((evE F e (s0.set i (some (emb x))) (t.cell :: Q)).toT [] fun v M => .ret v M))
    (H : ∀ (ys : List β) (t' : Tape), ys.length = xs.length → (∀ y ∈ ys, B y) → WS P (f ((ys.map out).map .d) (t'.cell :: Q))) : WS P ((lcE F (.lit (.bool true)) e (.one i) s0 (xs.map emb) (t.cell :: Q)).toT s f) := by
  obtain ⟨vs, M', e1, ⟨t', rfl⟩, ys, rfl, hl, q⟩ := lc_ex (cond := evE F (.lit (.bool true))) (elt := evE F e) (tg := .one i) (s := s0) (xs := xs) (M := t.cell :: Q) emb (fun y : β => Val.d (out y)) (fun M => ∃ t : Tape, M = t.cell :: Q) (fun _ y => B y) ⟨t, rfl⟩ (fun x hx M hM => by
    obtain ⟨t1, rfl⟩ := hM
    obtain ⟨y, t2, e, b⟩ := he x hx t1
    exact ⟨_, rfl, rfl, _, _, of_ret e, ⟨t2, rfl⟩, y, rfl, b⟩)
  unfold lcE
  rw [e1]
  have := H ys t' hl fun y hy => (q y hy).choose_spec.2
  rw [List.map_map] at this
  exact this
end
end Lw

local macro_rules | `(tactic| walk_at "dr") => `(tactic| (with_reducible refine Lw.ws_draw (by omega) (by omega) ?_; intro _ _ _ _))

namespace Lw
open PySem Gv
theorem size_ex (k : Nat) (t : Tape) (m : Int) (h0 : 0 < m) (h1 : m ≤ 1000000) (Q : Store) : ∃ (x : Int) (t' : Tape), callF T wf (k + 3) i_law_size [.ref 0, .d (.int m)] (t.cell :: Q) = .ok (.d (.int x)) (t'.cell :: Q) ∧ 1 ≤ x ∧ x ≤ m := by
  have : ∃ v M', callF T wf (k + 3) i_law_size [.ref 0, .d (.int m)] (t.cell :: Q) = .ok v M' ∧ ∃ (x : Int) (t' : Tape), v = .d (.int x) ∧ M' = t'.cell :: Q ∧ 1 ≤ x ∧ x ≤ m := by
    refine call_ws (k := k + 1) fn_law_size rfl rfl rfl ?_
    show WS _ (evSs _ wf fn_law_size.body [some (.ref 0), some (.d (.int m))] (t.cell :: Q))
    simp only [fn_law_size]
    repeat (first | tbr_iter [] | walk_at "dr")
    refine fin_d (by simp) ⟨_, _, rfl, rfl, ?_, ?_⟩ <;> (repeat' split) <;> omega
  obtain ⟨v, M', e, x, t', rfl, rfl, a, b⟩ := this
  exact ⟨x, t', e, a, b⟩
theorem ws_size {P : SR → Prop} {s : Slots} {k : Nat} {t : Tape} {n : Int} {Q : Store} {f : Val → Store → SR} (h0 : 0 < n) (h1 : n ≤ 1000000) (H : ∀ (x : Int) (t' : Tape), 1 ≤ x → x ≤ n → WS P (f (.d (.int x)) (t'.cell :: Q))) :
    WS P ((callF T wf (k + 3) i_law_size [.ref 0, .d (.int n)] (t.cell :: Q)).toT s f) := by
  obtain ⟨x, t', e, a, b⟩ := size_ex k t n h0 h1 Q
  rw [e]
  exact H x t' a b
end Lw

local macro_rules | `(tactic| walk_at "sz") => `(tactic| (with_reducible refine Lw.ws_size (by omega) (by omega) ?_; intro _ _ _ _))

namespace Lw
open PySem Gv
theorem ws_frame {P : SR → Prop} {s : Slots} {k : Nat} {t : Tape} {n : Int} {Q : Store} {f : Val → Store → SR} (h0 : 0 < n) (h1 : n ≤ 1000000) (H : ∀ (w h g m : Int) (t' : Tape), 1 ≤ w → w ≤ n → 1 ≤ h → h ≤ n → 0 ≤ g → g ≤ 20 → 0 ≤ m → m ≤ 12 → WS P (f (.d (.tuple [.int w, .int h, .int g, .int m])) (t'.cell :: Q))) :
    WS P ((callF T wf (k + 4) i_law_frame [.ref 0, .d (.int n)] (t.cell :: Q)).toT s f) := by
  have : ∃ v M', callF T wf (k + 4) i_law_frame [.ref 0, .d (.int n)] (t.cell :: Q) = .ok v M' ∧ ∃ (w h g m : Int) (t' : Tape), v = .d (.tuple [.int w, .int h, .int g, .int m]) ∧ M' = t'.cell :: Q ∧ 1 ≤ w ∧ w ≤ n ∧ 1 ≤ h ∧ h ≤ n ∧ 0 ≤ g ∧ g ≤ 20 ∧ 0 ≤ m ∧ m ≤ 12 := by
    refine call_ws (k := k + 2) fn_law_frame rfl rfl rfl ?_
    show WS _ (evSs _ wf fn_law_frame.body [some (.ref 0), some (.d (.int n)), none] (t.cell :: Q))
    simp only [fn_law_frame]
    repeat (first | tbr_iter [] | walk_at "dr" | walk_at "sz")
    refine fin_d (by simp) ⟨_, _, _, _, _, rfl, rfl, ?_, ?_, ?_, ?_, ?_, ?_, ?_, ?_⟩ <;> (repeat' split) <;> omega
  obtain ⟨v, M', e, w, h, g, m, t', rfl, rfl, a1, a2, a3, a4, a5, a6, a7, a8⟩ := this
  rw [e]
  exact H w h g m t' a1 a2 a3 a4 a5 a6 a7 a8
end Lw

local macro_rules | `(tactic| walk_at "fr") => `(tactic| (with_reducible refine Lw.ws_frame (by omega) (by omega) ?_; intro _ _ _ _ _ _ _ _ _ _ _ _ _))

namespace Lw
open PySem Gv
def tupI (xs : List Int) : PyData := .tuple (xs.map .int)
def rowsD (sh : List (List Int)) : PyData := .tuple (sh.map tupI)
def Inks (row : List Int) : Prop := ∀ x ∈ row, 0 ≤ x ∧ x ≤ 15
theorem ws_inks {P : SR → Prop} {s : Slots} {k : Nat} {t : Tape} {w n : Int} {Q : Store} {f : Val → Store → SR} (h0 : 0 < n) (h1 : n ≤ 1000000) (w0 : 0 ≤ w) (w1 : w ≤ 1000000) (H : ∀ (row : List Int) (t' : Tape), row.length = w.toNat → Inks row → WS P (f (.d (tupI row)) (t'.cell :: Q))) :
    WS P ((callF T wf (k + 3) i_law_inks [.ref 0, .d (.int w), .d (.int n)] (t.cell :: Q)).toT s f) := by
  have : ∃ v M', callF T wf (k + 3) i_law_inks [.ref 0, .d (.int w), .d (.int n)] (t.cell :: Q) = .ok v M' ∧ ∃ (row : List Int) (t' : Tape), v = .d (tupI row) ∧ M' = t'.cell :: Q ∧ row.length = w.toNat ∧ Inks row := by
    refine call_ws (k := k + 1) fn_law_inks rfl rfl rfl ?_
    show WS _ (evSs _ wf fn_law_inks.body [some (.ref 0), some (.d (.int w)), some (.d (.int n)), none] (t.cell :: Q))
    simp only [fn_law_inks]
    try tbr_iter [rng1_ok, upTo_eq]
    refine ws_lcd (β := Int) .int (fun x => 0 ≤ x ∧ x ≤ 15) (fun x _ t => ?_) fun ys t' hy hb => ?_
    · repeat (first | tbr_iter [] | walk_at "dr")
      refine ⟨_, _, rfl, ?_⟩
      simp only [decide_eq_true_eq]
      split <;> omega
    · try tbr_iter []
      exact fin_d (by simp) ⟨ys, t', rfl, rfl, by simpa using hy, hb⟩
  obtain ⟨v, M', e, row, t', rfl, rfl, a, b⟩ := this
  rw [e]
  exact H row t' a b
end Lw

namespace Lw
open PySem Gv
structure Shape (most : Int) (sh : List (List Int)) : Prop where
  h0 : 1 ≤ sh.length
  h1 : (sh.length : Int) ≤ most
  w : ∃ w : Nat, 1 ≤ w ∧ (w : Int) ≤ most ∧ ∀ r ∈ sh, r.length = w
  ink : ∀ r ∈ sh, Inks r
theorem ws_inked {P : SR → Prop} {s : Slots} {k : Nat} {t : Tape} {n : Int} {Q : Store} {f : Val → Store → SR} (h0 : 0 < n) (h1 : n ≤ 1000) (H : ∀ (sh : List (List Int)) (t' : Tape), Shape n sh → WS P (f (.d (rowsD sh)) (t'.cell :: Q))) :
    WS P ((callF T wf (k + 4) i_law_inked [.ref 0, .d (.int n)] (t.cell :: Q)).toT s f) := by
  have : ∃ v M', callF T wf (k + 4) i_law_inked [.ref 0, .d (.int n)] (t.cell :: Q) = .ok v M' ∧ ∃ (sh : List (List Int)) (t' : Tape), v = .d (rowsD sh) ∧ M' = t'.cell :: Q ∧ Shape n sh := by
    refine call_ws (k := k + 2) fn_law_inked rfl rfl rfl ?_
    show WS _ (evSs _ wf fn_law_inked.body [some (.ref 0), some (.d (.int n)), none, none, none] (t.cell :: Q))
    simp only [fn_law_inked]
    try tbr_iter []
    with_reducible refine ws_size (by omega) (by omega) ?_
    intro w t1 w0 w1
    try tbr_iter []
    with_reducible refine ws_draw (by omega) (by omega) ?_
    intro th t2 th0 th1
    try tbr_iter []
    with_reducible refine ws_size (by omega) (by omega) ?_
    intro hh t3 hh0 hh1
    try tbr_iter [rng1_ok, upTo_eq]
    refine ws_lcd (β := List Int) tupI (fun row => row.length = w.toNat ∧ Inks row) (fun x _ t => ?_) fun ys t' hy hb => ?_
    · try tbr_iter []
      with_reducible refine ws_inks (by omega) (by omega) (by omega) (by omega) ?_
      intro row t' a b
      exact ⟨row, t', rfl, a, b⟩
    · try tbr_iter []
      have hy2 : ys.length = hh.toNat := by simpa using hy
      exact fin_d (by simp) ⟨ys, t', rfl, rfl, ⟨by omega, by omega, ⟨w.toNat, by omega, by omega, fun r hr => (hb r hr).1⟩, fun r hr => (hb r hr).2⟩⟩
  obtain ⟨v, M', e, row, t', rfl, rfl, a⟩ := this
  rw [e]
  exact H row t' a
end Lw

namespace Lw
open PySem Gv
theorem ws_far {P : SR → Prop} {s : Slots} {k : Nat} {t : Tape} {n : Int} {Q : Store} {f : Val → Store → SR} (h0 : 0 ≤ n) (h1 : n ≤ 1000) (H : ∀ (x : Int) (t' : Tape), -1000 ≤ x → x ≤ 1000 → WS P (f (.d (.int x)) (t'.cell :: Q))) (h2 : n ≤ 900 := by omega) :
    WS P ((callF T wf (k + 3) i_law_far [.ref 0, .d (.int n)] (t.cell :: Q)).toT s f) := by
  have : ∃ v M', callF T wf (k + 3) i_law_far [.ref 0, .d (.int n)] (t.cell :: Q) = .ok v M' ∧ ∃ (x : Int) (t' : Tape), v = .d (.int x) ∧ M' = t'.cell :: Q ∧ -1000 ≤ x ∧ x ≤ 1000 := by
    refine call_ws (k := k + 1) fn_law_far rfl rfl rfl ?_
    show WS _ (evSs _ wf fn_law_far.body [some (.ref 0), some (.d (.int n))] (t.cell :: Q))
    simp only [fn_law_far]
    repeat (first | tbr_iter [] | walk_at "dr")
    refine fin_d (by simp) ⟨_, _, rfl, rfl, ?_, ?_⟩ <;> (repeat' split) <;> omega
  obtain ⟨v, M', e, x, t', rfl, rfl, a, b⟩ := this
  rw [e]
  exact H x t' a b
end Lw

namespace Lw
open PySem Gv
structure Mover where
  shape : Option Int
  x : Int
  y : Int
  rank : Int
  turn : Int
def m0 : Mover := ⟨none, 0, 0, 0, 0⟩
def optD : Option Int → PyData
  | none => .none
  | some n => .int n
def moverD (m : Mover) : PyData := .tuple [optD m.shape, .int m.x, .int m.y, .int m.rank, .int m.turn]
structure Mover.Ok (m : Mover) (shapes : Int) : Prop where
  s : ∀ n, m.shape = some n → 0 ≤ n ∧ n < shapes
  x0 : -1000 ≤ m.x
  x1 : m.x ≤ 1000
  y0 : -1000 ≤ m.y
  y1 : m.y ≤ 1000
  r0 : 0 ≤ m.rank
  r1 : m.rank < 4
  t0 : 0 ≤ m.turn
  t1 : m.turn < 4
theorem ws_mover {P : SR → Prop} {s : Slots} {k : Nat} {t : Tape} {w h g mm n : Int} {Q : Store} {f : Val → Store → SR} (w0 : 0 ≤ w) (w1 : w ≤ 900) (h0 : 0 ≤ h) (h1 : h ≤ 900) (n0 : 0 ≤ n) (n1 : n ≤ 1000) (H : ∀ (m : Mover) (t' : Tape), m.Ok n → WS P (f (.d (moverD m)) (t'.cell :: Q))) :
    WS P ((callF T wf (k + 4) i_law_mover [.ref 0, .d (.tuple [.int w, .int h, .int g, .int mm]), .d (.int n)] (t.cell :: Q)).toT s f) := by
  have : ∃ v M', callF T wf (k + 4) i_law_mover [.ref 0, .d (.tuple [.int w, .int h, .int g, .int mm]), .d (.int n)] (t.cell :: Q) = .ok v M' ∧ ∃ (m : Mover) (t' : Tape), v = .d (moverD m) ∧ M' = t'.cell :: Q ∧ m.Ok n := by
    refine call_ws (k := k + 2) fn_law_mover rfl rfl rfl ?_
    show WS _ (evSs _ wf fn_law_mover.body [some (.ref 0), some (.d (.tuple [.int w, .int h, .int g, .int mm])), some (.d (.int n)), none] (t.cell :: Q))
    simp only [fn_law_mover]
    tbr_iter [toT_ite]
    have fin3 : ∀ (sh : Option Int), (∀ i, sh = some i → 0 ≤ i ∧ i < n) → ∀ (x y r u : Int) (t' : Tape), -1000 ≤ x → x ≤ 1000 → -1000 ≤ y → y ≤ 1000 → 0 ≤ r → r < 4 → 0 ≤ u → u < 4 →
        WS (fun x => ∃ v M', fin (List.length Q + 1) x = .ok v M' ∧ ∃ (m : Mover) (t' : Tape), v = .d (moverD m) ∧ M' = t'.cell :: Q ∧ m.Ok n) (.ret (.d (.tuple [optD sh, .int x, .int y, .int r, .int u])) (t'.cell :: Q)) :=
      fun sh hsh x y r u t' a1 a2 a3 a4 a5 a6 a7 a8 => fin_d (by simp) ⟨⟨sh, x, y, r, u⟩, t', rfl, rfl, ⟨hsh, a1, a2, a3, a4, a5, a6, a7, a8⟩⟩
    refine ws_ite (fun hn => ?_) (fun hn => ?_)
    · with_reducible refine ws_draw (by omega) (by omega) ?_
      intro d t1 _ _
      try tbr_iter [toT_ite]
      refine ws_ite (fun hd => ?_) (fun hd => ?_)
      · with_reducible refine ws_draw (by omega) (by omega) ?_
        intro i t2 i0 i1
        repeat (first | tbr_iter [] | walk_at "dr" | (with_reducible refine ws_far (by omega) (by omega) ?_; intro _ _ _ _))
        refine fin3 (some i) (fun j hj => by cases hj; omega) _ _ _ _ _ ?_ ?_ ?_ ?_ ?_ ?_ ?_ ?_ <;> assumption
      · repeat (first | tbr_iter [] | walk_at "dr" | (with_reducible refine ws_far (by omega) (by omega) ?_; intro _ _ _ _))
        refine fin3 none (fun j hj => by cases hj) _ _ _ _ _ ?_ ?_ ?_ ?_ ?_ ?_ ?_ ?_ <;> assumption
    · repeat (first | tbr_iter [] | walk_at "dr" | (with_reducible refine ws_far (by omega) (by omega) ?_; intro _ _ _ _))
      refine fin3 none (fun j hj => by cases hj) _ _ _ _ _ ?_ ?_ ?_ ?_ ?_ ?_ ?_ ?_ <;> assumption
  obtain ⟨v, M', e, x, t', rfl, rfl, a⟩ := this
  rw [e]
  exact H x t' a
structure Stand where
  floor : List (List Int)
  sx : Int
  sy : Int
  book : List (List (List Int))
  movers : List Mover
  pots : List Int
def standD (s : Stand) : PyData := .tuple [rowsD s.floor, .tuple [.int s.sx, .int s.sy], .tuple (s.book.map rowsD), .tuple (s.movers.map moverD), .tuple (s.pots.map .int)]
structure Stand.Ok (s : Stand) (mm : Int) : Prop where
  fl : Shape 16 s.floor
  x0 : -1000 ≤ s.sx
  x1 : s.sx ≤ 1000
  y0 : -1000 ≤ s.sy
  y1 : s.sy ≤ 1000
  bl : s.book.length ≤ 8
  bk : ∀ sh ∈ s.book, Shape 8 sh
  ml : (s.movers.length : Int) ≤ mm
  mv : ∀ m ∈ s.movers, m.Ok s.book.length
  pl : s.pots.length = 16
  pt : ∀ p ∈ s.pots, 0 ≤ p ∧ p < 64
theorem ws_stand {P : SR → Prop} {s : Slots} {k : Nat} {t : Tape} {w h g m n : Int} {Q : Store} {f : Val → Store → SR} (w0 : 0 ≤ w) (w1 : w ≤ 900) (h0 : 0 ≤ h) (h1 : h ≤ 900) (n0 : 0 ≤ n) (n1 : n ≤ 1000) (H : ∀ (st : Stand) (t' : Tape), st.Ok n → WS P (f (.d (standD st)) (t'.cell :: Q))) :
    WS P ((callF T wf (k + 5) i_law_stand [.ref 0, .d (.tuple [.int w, .int h, .int g, .int m]), .d (.int n)] (t.cell :: Q)).toT s f) := by
  have : ∃ v M', callF T wf (k + 5) i_law_stand [.ref 0, .d (.tuple [.int w, .int h, .int g, .int m]), .d (.int n)] (t.cell :: Q) = .ok v M' ∧ ∃ (st : Stand) (t' : Tape), v = .d (standD st) ∧ M' = t'.cell :: Q ∧ st.Ok n := by
    refine call_ws (k := k + 3) fn_law_stand rfl rfl rfl ?_
    show WS _ (evSs _ wf fn_law_stand.body [some (.ref 0), some (.d (.tuple [.int w, .int h, .int g, .int m])), some (.d (.int n)), none, none, none, none, none, none] (t.cell :: Q))
    simp only [fn_law_stand]
    tbr_iter []
    with_reducible refine ws_inked (by omega) (by omega) ?_
    intro fl t1 hfl
    try tbr_iter []
    with_reducible refine ws_far (by omega) (by omega) ?_
    intro sx t2 x0 x1
    try tbr_iter []
    with_reducible refine ws_far (by omega) (by omega) ?_
    intro sy t3 y0 y1
    repeat (first | tbr_iter [] | walk_at "dr")
    rename_i d1 t4 _ _ d2 t5 _ _ d3 t6 _ _
    have hs : 0 ≤ (if d3 / 3 = 0 then d1 else d2) ∧ (if d3 / 3 = 0 then d1 else d2) ≤ 8 := by split <;> omega
    generalize (if d3 / 3 = 0 then d1 else d2) = sh at hs ⊢
    tbr_iter [rng1_ok, upTo_eq]
    refine ws_lcd (β := List (List Int)) rowsD (Shape 8) (fun x _ t => ?_) fun book t7 hy hbk => ?_
    · try tbr_iter []
      with_reducible refine ws_inked (by omega) (by omega) ?_
      intro sh t' a
      exact ⟨sh, t', rfl, a⟩
    have hbl : book.length ≤ 8 := by
      have : book.length = sh.toNat := by simpa using hy
      omega
    try tbr_iter []
    with_reducible refine ws_draw (by omega) (by omega) ?_
    intro nm t8 nm0 nm1
    tbr_iter [rng1_ok, upTo_eq]
    refine ws_lcd (β := Mover) moverD (fun m => m.Ok book.length) (fun x _ t => ?_) fun mv t9 hym hmv => ?_
    · try tbr_iter []
      with_reducible refine ws_mover (by omega) (by omega) (by omega) (by omega) (by omega) (by omega) ?_
      intro m t' a
      exact ⟨m, t', rfl, a⟩
    have hml : mv.length = nm.toNat := by simpa using hym
    tbr_iter [rng1_ok, upTo_eq]
    refine ws_lcd (β := Int) .int (fun p => 0 ≤ p ∧ p < 64) (fun x _ t => ?_) fun pots t10 hyp hp => ?_
    · try tbr_iter []
      with_reducible refine ws_draw (by omega) (by omega) ?_
      intro m t' a b
      exact ⟨m, t', rfl, a, b⟩
    have hpl : pots.length = 16 := by simpa using hyp
    try tbr_iter []
    exact fin_d (by simp) ⟨⟨fl, sx, sy, book, mv, pots⟩, t10, rfl, rfl, ⟨hfl, x0, x1, y0, y1, hbl, hbk, by show (mv.length : Int) ≤ n; omega, hmv, hpl, hp⟩⟩
  obtain ⟨v, M', e, x, t', rfl, rfl, a⟩ := this
  rw [e]
  exact H x t' a
end Lw

namespace Lw
open PySem Gv
structure Strip where
  n : Int
  left : Int
  rank : Int
  inks : List Int
def stripD (s : Strip) : PyData := .tuple [.int s.n, .int s.left, .int s.rank, tupI s.inks]
def rowD (fl : List Int) (ss : List Strip) : PyData := .tuple [tupI fl, .tuple (ss.map stripD)]
def Strip.ink (s : Strip) (x : Int) : Int := if 0 ≤ x - s.left ∧ x - s.left < s.inks.length then s.inks.getD (x - s.left).toNat 0 else 0
structure Cov where
  n : Int
  rank : Int
  ink : Int
def covD (c : Cov) : PyData := .tuple [.int c.n, .int c.rank, .int c.ink]
def cov (ss : List Strip) (x : Int) : List Cov := (ss.filter fun s => decide (s.ink x ≠ 0)).map fun s => ⟨s.n, s.rank, s.ink x⟩
theorem fm_if {α β : Type} (p : α → Bool) (f : α → β) : ∀ xs : List α, xs.filterMap (fun x => if p x then some (f x) else none) = (xs.filter p).map f
  | [] => rfl
  | x :: xs => by
    have ih := fm_if p f xs
    by_cases h : p x = true
    · simp [h, ih]
    · simp only [Bool.not_eq_true] at h
      simp [h, ih]
theorem cov_len (ss : List Strip) (x : Int) : (cov ss x).length ≤ ss.length := by
  unfold cov
  rw [List.length_map]
  exact List.length_filter_le _ _
section
variable {k : Nat} {G : Nat → List Val → Store → R Val} {su : Nat → Nat → Option Bool} {me : Nat → Nat → Option Nat} {M : Store}
theorem covering_v {fl : List Int} {ss : List Strip} {x : Int} (hl : ss.length ≤ 1000) : callV ⟨callF T wf (k + 2), G, su, me⟩ i_covering [.d (rowD fl ss), .d (.int x)] M = .ok (.d (.list ((cov ss x).map covD))) M := by
  refine callV_ok ?_ rfl
  rw [call_fn (fn := fn_covering) rfl rfl]
  show fin 0 (evSs _ wf fn_covering.body [some (.d (rowD fl ss)), some (.d (.int x)), none, none, none, none, none] []) = _
  simp only [fn_covering]
  tbr_iter [rowD]
  rw [List.map_map]
  rw [for_fm [.lst []] (emb := Val.d ∘ stripD) (fun s => if decide (s.ink x ≠ 0) then some (covD ⟨s.n, s.rank, s.ink x⟩) else none) (fun acc => [.lst (acc.map .d)]) rfl (by omega)]
  · tbr_iter []
    rw [fm_if, fin_l0]
    unfold cov
    rw [List.map_map]
    rfl
  · intro s hs acc hacc
    simp only [Function.comp, stripD, tupI]
    by_cases hc : 0 ≤ x - s.left ∧ x - s.left < s.inks.length
    · have hi : s.ink x = s.inks.getD (x - s.left).toNat 0 := by unfold Strip.ink; rw [if_pos hc]
      rw [hi]
      tbr_iter [hc.1, hc.2]
      by_cases h0 : s.inks.getD (x - s.left).toNat 0 = 0
      · tbr_iter [h0]
        simp
      · tbr_iter [h0]
        generalize s.inks.getD (x - s.left).toNat 0 = v at h0 ⊢
        simp [covD, h0]
    · have hi : s.ink x = 0 := by unfold Strip.ink; rw [if_neg hc]
      rw [hi]
      by_cases h1 : 0 ≤ x - s.left
      · have h2 : ¬ x - s.left < s.inks.length := fun z => hc ⟨h1, z⟩
        tbr_iter [h1, h2]
        simp
      · tbr_iter [h1]
        simp
def better (o : Option Cov) (c : Cov) : Option Cov := match o with
  | none => some c
  | some a => if a.rank < c.rank then some c else some a
def firstMax (cs : List Cov) : Option Cov := cs.foldl better none
def inkOf (fl : Int) (cs : List Cov) : Int := match firstMax cs with
  | none => fl
  | some a => if a.rank = 0 ∧ fl ≠ 0 then fl else a.ink
def bestD : Option Cov → PyData
  | none => .none
  | some c => .tuple [.int c.rank, .int c.ink]
theorem inkat_v {fl : List Int} {ss : List Strip} {x : Int} (hl : ss.length ≤ 1000) (h0 : 0 ≤ x) (h1 : x < fl.length) : callV ⟨callF T wf (k + 3), G, su, me⟩ i_ink_at [.d (rowD fl ss), .d (.int x)] M = .ok (.d (.int (inkOf (fl.getD x.toNat 0) (cov ss x)))) M := by
  refine callV_ok ?_ rfl
  rw [call_fn (fn := fn_ink_at) rfl rfl]
  show fin 0 (evSs _ wf fn_ink_at.body [some (.d (rowD fl ss)), some (.d (.int x)), none, none, none, none, none] []) = _
  simp only [fn_ink_at]
  tbr_iter [covering_v hl]
  rw [List.map_map]
  have run := (for_run (body := evSs ⟨callF T wf (k + 2), callF T wf (k + 1), T.sub, T.meth⟩ wf [
      .ite (.or (.cmp .Is (.var 2) (.lit .none)) (.cmp .Gt (.var 5) (.idx (.var 2) (.lit (.int 0))))) [
        .asg (.one 2) (.tup [(.var 5), (.var 6)])] []]) (tg := .many [4, 5, 6]) (kl := [4, 5, 6]) (emb := Val.d ∘ covD) (S := fun o : Option Cov => [some (.d (rowD fl ss)), some (.d (.int x)), some (.d (bestD o)), none, none, none, none]) (Z := fun _ => []) better (fun _ => True) (xs := cov ss x) (b := none) trivial (fun c hc o _ => by
    refine ⟨?_, trivial⟩
    simp only [Function.comp, covD]
    cases o with
    | none =>
      tbr_iter [bestD, isNone, better]
    | some a =>
      tbr_iter [bestD, isNone, better, Bool.false_eq_true, if_false]
      by_cases hr : a.rank < c.rank
      · tbr_iter [hr]
      · tbr_iter [hr])).1
  simp only [bestD] at run
  rw [run]
  show fin 0 _ = _
  unfold inkOf
  have hm : (cov ss x).foldl better none = firstMax (cov ss x) := rfl
  rw [hm]
  cases firstMax (cov ss x) with
  | none =>
    tbr_iter [rowD, tupI, bestD, isNone]
    exact fin_r (M := [])
  | some a =>
    by_cases hr : a.rank = 0
    · by_cases hf : fl.getD x.toNat 0 = 0
      · tbr_iter [rowD, tupI, bestD, isNone, hr, hf, Bool.false_eq_true, if_false, ne_eq]
        exact fin_r (M := [])
      · tbr_iter [rowD, tupI, bestD, isNone, hr, hf, Bool.false_eq_true, if_false, ne_eq]
        exact fin_r (M := [])
    · tbr_iter [rowD, tupI, bestD, isNone, hr, Bool.false_eq_true, if_false, ne_eq]
      exact fin_r (M := [])
end
end Lw

namespace Lw
open PySem Gv
/-! ### plain: who lies on a row, strips, floors -/
def Stand.shapeOf (st : Stand) (m : Mover) : List (List Int) := match m.shape with
  | none => []
  | some n => st.book.getD n.toNat []
def Stand.lies (st : Stand) (row : Int) (m : Mover) : Bool := m.shape.isSome && decide (0 ≤ row - m.y ∧ row - m.y < (st.shapeOf m).length)
def Stand.lying (st : Stand) (row : Int) : List Nat := (List.range st.movers.length).filter fun i => st.lies row (st.movers.getD i m0)
def nsD (ns : List Nat) : List PyData := ns.map fun n : Nat => .int (n : Int)
def turnRow (sh : List (List Int)) (turn row : Int) : List Int := sh.getD (if 2 ≤ turn then (sh.length : Int) - 1 - row else row).toNat []
def stripOf (sh : List (List Int)) (turn row : Int) : List Int := if turn % 2 = 1 then (turnRow sh turn row).reverse else turnRow sh turn row
def Stand.stripAt (st : Stand) (row : Int) (i : Nat) : Strip := ⟨(i : Int), (st.movers.getD i m0).x, (st.movers.getD i m0).rank, stripOf (st.shapeOf (st.movers.getD i m0)) (st.movers.getD i m0).turn (row - (st.movers.getD i m0).y)⟩
def Stand.strips (st : Stand) (m row : Int) : List Strip := ((st.lying row).take m.toNat).map (st.stripAt row)
def Stand.floorRow (st : Stand) (row : Int) : List Int := st.floor.getD ((row + st.sy) % st.floor.length).toNat []
def Stand.floorS (st : Stand) (w row : Int) : List Int := (List.range w.toNat).map fun x : Nat => (st.floorRow row).getD (((x : Int) + st.sx) % (st.floorRow row).length).toNat 0
theorem lying_mem {st : Stand} {row : Int} {i : Nat} (h : i ∈ st.lying row) : i < st.movers.length ∧ st.lies row (st.movers.getD i m0) = true := by
  unfold Stand.lying at h
  rw [List.mem_filter, List.mem_range] at h
  exact h
theorem lies_shape {st : Stand} {row : Int} {m : Mover} (h : st.lies row m = true) : ∃ n, m.shape = some n ∧ 0 ≤ row - m.y ∧ row - m.y < (st.book.getD n.toNat []).length := by
  unfold Stand.lies at h
  rw [Bool.and_eq_true] at h
  cases hs : m.shape with
  | none => rw [hs] at h; cases h.1
  | some n =>
    refine ⟨n, rfl, ?_⟩
    have := of_decide_eq_true h.2
    unfold Stand.shapeOf at this
    rw [hs] at this
    exact this
theorem lying_len (st : Stand) (row : Int) : (st.lying row).length ≤ st.movers.length := by
  have := List.length_filter_le (fun i => st.lies row (st.movers.getD i m0)) (List.range st.movers.length)
  simpa [Stand.lying] using this
theorem strips_len (st : Stand) (m row : Int) : (st.strips m row).length ≤ st.movers.length := by
  unfold Stand.strips
  rw [List.length_map, List.length_take]
  have := lying_len st row
  omega
theorem tup_len_rows {al : Bool} {M : Store} (sh : List (List Int)) : biD al .len [.d (rowsD sh)] M = .ok (.d (.int sh.length)) M := len_map_t tupI sh
theorem rows_at {M : Store} {sh : List (List Int)} {i : Int} (h0 : 0 ≤ i) (h1 : i < sh.length) : idxD M (.d (rowsD sh)) (.d (.int i)) = .ok (.d (tupI (sh.getD i.toNat []))) M := idx_t (map_at tupI sh [] h0 h1)
theorem sx_2 {M : Store} {st : Stand} : idxD M (.d (standD st)) (.d (.int 2)) = .ok (.d (.tuple (st.book.map rowsD))) M := rfl
theorem sx_3 {M : Store} {st : Stand} : idxD M (.d (standD st)) (.d (.int 3)) = .ok (.d (.tuple (st.movers.map moverD))) M := rfl
theorem sx_4 {M : Store} {st : Stand} : idxD M (.d (standD st)) (.d (.int 4)) = .ok (.d (.tuple (st.pots.map .int))) M := rfl
theorem sx_02 {M : Store} {st : Stand} : slD false M (.d (standD st)) none (some 2) = .ok (.d (.tuple [rowsD st.floor, .tuple [.int st.sx, .int st.sy]])) M := rfl
theorem mvx_0 {M : Store} {m : Mover} : idxD M (.d (moverD m)) (.d (.int 0)) = .ok (.d (optD m.shape)) M := rfl
theorem mvx_2 {M : Store} {m : Mover} : idxD M (.d (moverD m)) (.d (.int 2)) = .ok (.d (.int m.y)) M := rfl
theorem bk_at {M : Store} {st : Stand} {n : Int} (h : 0 ≤ n ∧ n < st.book.length) : idxD M (.d (.tuple (st.book.map rowsD))) (.d (.int n)) = .ok (.d (rowsD (st.book.getD n.toNat []))) M := idx_t (map_at rowsD st.book [] h.1 h.2)
theorem mv_at {M : Store} {st : Stand} {i : Nat} (h : i < st.movers.length) : idxD M (.d (.tuple (st.movers.map moverD))) (.d (.int (i : Int))) = .ok (.d (moverD (st.movers.getD i m0))) M := by
  have := idx_t (M := M) (map_at moverD st.movers m0 (i := (i : Int)) (by omega) (by omega))
  rwa [Int.toNat_natCast] at this
theorem enumL {α : Type} (emb : α → PyData) (d : α) (xs : List α) : (List.range xs.length).zipWith (fun (k : Nat) x => Val.d (.tuple [.int (k : Int), x])) (xs.map emb) = (List.range xs.length).map fun k : Nat => Val.d (.tuple [.int (k : Int), emb (xs.getD k d)]) := by
  have := enum_map emb d xs
  rwa [List.length_map] at this
theorem asg_mvv {is : List Nat} {m : Mover} {s : Slots} : asgT (.many is) (.d (moverD m)) s = setAll is ([optD m.shape, .int m.x, .int m.y, .int m.rank, .int m.turn].map .d) s := rfl
theorem fm_filter {α β : Type} (p : α → Bool) (f : α → β) (xs : List α) : xs.filterMap (fun x => if p x then some (f x) else none) = (xs.filter p).map f := fm_if p f xs
section
variable {k : Nat} {G : Nat → List Val → Store → R Val} {su : Nat → Nat → Option Bool} {me : Nat → Nat → Option Nat} {M : Store}
theorem lying_v {st : Stand} {mm row : Int} (hst : st.Ok mm) (hmm : mm ≤ 1000) : callV ⟨callF T wf (k + 2), G, su, me⟩ i_lying_on [.d (standD st), .d (.int row)] M = .ok (.d (.list (nsD (st.lying row)))) M := by
  refine callV_ok ?_ rfl
  rw [call_fn (fn := fn_lying_on) rfl rfl]
  show fin 0 (evSs _ wf fn_lying_on.body [some (.d (standD st)), some (.d (.int row)), none, none, none] []) = _
  simp only [fn_lying_on]
  have hml := hst.ml
  tbr_iter [sx_3]
  rw [enumL moverD m0]
  rw [for_fm [.lst []] (emb := fun k : Nat => Val.d (.tuple [.int (k : Int), moverD (st.movers.getD k m0)])) (fun i => if st.lies row (st.movers.getD i m0) then some (.int (i : Int)) else none) (fun acc => [.lst (acc.map .d)]) rfl (by simp; omega)]
  · tbr_iter []
    rw [fm_filter, fin_l0]
    rfl
  · intro i hi acc hacc
    have hi2 : i < st.movers.length := by simpa using hi
    have hmo := hst.mv _ (getD_mem (d := m0) hi2)
    generalize st.movers.getD i m0 = m at hmo
    have hl : (acc.map Val.d).length < 16777216 := by simp; omega
    cases hs : m.shape with
    | none =>
      have e : st.lies row m = false := by unfold Stand.lies; rw [hs]; rfl
      rw [e]
      tbr_iter [mvx_0, hs, optD, isNone, Bool.not_true]
      simp
    | some n =>
      have hn := hmo.s n hs
      have hsh : st.shapeOf m = st.book.getD n.toNat [] := by unfold Stand.shapeOf; rw [hs]
      have e : st.lies row m = decide (0 ≤ row - m.y ∧ row - m.y < (st.book.getD n.toNat []).length) := by unfold Stand.lies; rw [hs, hsh]; rfl
      rw [e]
      by_cases h1 : 0 ≤ row - m.y
      · by_cases h2 : row - m.y < (st.book.getD n.toNat []).length
        · tbr_iter [mvx_0, hs, optD, isNone, Bool.not_false, mvx_2, h1, sx_2, bk_at hn, tup_len_rows, h2, appC_k hl]
          simp
        · tbr_iter [mvx_0, hs, optD, isNone, Bool.not_false, mvx_2, h1, sx_2, bk_at hn, tup_len_rows, h2]
          simp
      · tbr_iter [mvx_0, hs, optD, isNone, Bool.not_false, mvx_2, h1]
        simp
theorem cut_take (xs : List PyData) {m : Int} (h : 0 ≤ m) : cut xs none (some m) = xs.take m.toNat := by
  unfold cut sIx
  dsimp only
  rw [if_neg (by omega)]
  simp only [List.drop_zero, Nat.sub_zero]
  by_cases hl : m.toNat ≤ xs.length
  · rw [Nat.min_eq_left hl]
  · rw [Nat.min_eq_right (by omega), List.take_length, List.take_of_length_le (by omega)]
theorem cut_drop (xs : List PyData) {m : Int} (h : 0 ≤ m) : cut xs (some m) none = xs.drop m.toNat := by
  unfold cut sIx
  dsimp only
  rw [if_neg (by omega)]
  by_cases hl : m.toNat ≤ xs.length
  · rw [Nat.min_eq_left hl, ← List.length_drop, List.take_length]
  · rw [Nat.min_eq_right (by omega), List.drop_of_length_le (Nat.le_refl _), List.drop_of_length_le (by omega)]
    simp
theorem kept_v {st : Stand} {mm w h g m row : Int} (hst : st.Ok mm) (hmm : mm ≤ 1000) (hm : 0 ≤ m) : callV ⟨callF T wf (k + 3), G, su, me⟩ i_kept_on [.d (.tuple [.int w, .int h, .int g, .int m]), .d (standD st), .d (.int row)] M = .ok (.d (.list (nsD ((st.lying row).take m.toNat)))) M := by
  refine callV_ok ?_ rfl
  rw [call_fn (fn := fn_kept_on) rfl rfl]
  show fin 0 (evSs _ wf fn_kept_on.body [some (.d (.tuple [.int w, .int h, .int g, .int m])), some (.d (standD st)), some (.d (.int row))] []) = _
  simp only [fn_kept_on]
  tbr_iter [lying_v hst hmm]
  rw [cut_take _ hm]
  unfold nsD
  rw [← List.map_take]
  exact fin_r (M := [])
theorem strip_v {sh : List (List Int)} {turn row : Int} (h0 : 0 ≤ row) (h1 : row < sh.length) (t0 : 0 ≤ turn) (t1 : turn < 4) : callV ⟨callF T wf (k + 2), G, su, me⟩ i_strip_of [.d (rowsD sh), .d (.int turn), .d (.int row)] M = .ok (.d (tupI (stripOf sh turn row))) M := by
  refine callV_ok ?_ rfl
  rw [call_fn (fn := fn_strip_of) rfl rfl]
  show fin 0 (evSs _ wf fn_strip_of.body [some (.d (rowsD sh)), some (.d (.int turn)), some (.d (.int row))] []) = _
  simp only [fn_strip_of]
  have q1 : ¬ row < 0 := by omega
  have q2 : ¬ (sh.length : Int) ≤ row := by omega
  have rv : ∀ (M : Store) (xs : List Int), revD false M (.d (tupI xs)) = .ok (.d (tupI xs.reverse)) M := fun M xs => by
    show R.ok (Val.d (.tuple ((xs.map PyData.int).reverse))) M = _
    unfold tupI
    rw [List.map_reverse]
  unfold stripOf turnRow
  by_cases h2 : 2 ≤ turn
  · have e1 : (if 2 ≤ turn then (sh.length : Int) - 1 - row else row) = (sh.length : Int) - 1 - row := if_pos h2
    rw [e1]
    by_cases h3 : turn % 2 = 1
    · rw [if_pos h3]
      tbr_iter [tup_len_rows, q1, q2, h2, h3, rows_at (sh := sh) (i := (sh.length : Int) - 1 - row) (by omega) (by omega), rv]
      exact fin_r (M := [])
    · rw [if_neg h3]
      tbr_iter [tup_len_rows, q1, q2, h2, h3, rows_at (sh := sh) (i := (sh.length : Int) - 1 - row) (by omega) (by omega)]
      exact fin_r (M := [])
  · have e1 : (if 2 ≤ turn then (sh.length : Int) - 1 - row else row) = row := if_neg h2
    rw [e1]
    by_cases h3 : turn % 2 = 1
    · rw [if_pos h3]
      tbr_iter [tup_len_rows, q1, q2, h2, h3, rows_at h0 h1, rv]
      exact fin_r (M := [])
    · rw [if_neg h3]
      tbr_iter [tup_len_rows, q1, q2, h2, h3, rows_at h0 h1]
      exact fin_r (M := [])
theorem floor_row {st : Stand} {mm row : Int} (hst : st.Ok mm) : 0 ≤ (row + st.sy) % (st.floor.length : Int) ∧ (row + st.sy) % (st.floor.length : Int) < st.floor.length ∧ 1 ≤ (st.floorRow row).length := by
  have h0 := hst.fl.h0
  have a := Int.emod_nonneg (row + st.sy) (b := (st.floor.length : Int)) (by omega)
  have b := Int.emod_lt_of_pos (row + st.sy) (b := (st.floor.length : Int)) (by omega)
  refine ⟨a, b, ?_⟩
  obtain ⟨w, w1, w2, hw⟩ := hst.fl.w
  have : st.floorRow row ∈ st.floor := getD_mem (by omega)
  rw [hw _ this]
  exact w1
theorem floor_v {st : Stand} {mm w h g m row : Int} (hst : st.Ok mm) (w0 : 0 ≤ w) (w1 : w ≤ 1000) : callV ⟨callF T wf (k + 2), G, su, me⟩ i_floor_strip [.d (.tuple [.int w, .int h, .int g, .int m]), .d (standD st), .d (.int row)] M = .ok (.d (tupI (st.floorS w row))) M := by
  refine callV_ok ?_ rfl
  rw [call_fn (fn := fn_floor_strip) rfl rfl]
  show fin 0 (evSs _ wf fn_floor_strip.body [some (.d (.tuple [.int w, .int h, .int g, .int m])), some (.d (standD st)), some (.d (.int row)), none, none, none, none] []) = _
  simp only [fn_floor_strip]
  obtain ⟨f0, f1, f2⟩ := floor_row (row := row) hst
  have hfl : 0 < (st.floor.length : Int) := by have := hst.fl.h0; omega
  have lenT : ∀ (al : Bool) (M : Store) (xs : List Int), biD al .len [.d (tupI xs)] M = .ok (.d (.int xs.length)) M := fun al M xs => len_map_t PyData.int xs
  have idT : ∀ (M : Store) (xs : List Int) (i : Int), 0 ≤ i → i < xs.length → idxD M (.d (tupI xs)) (.d (.int i)) = .ok (.d (.int (xs.getD i.toNat 0))) M := fun M xs i a b => idx_ti a b
  have hfr : st.floor.getD ((row + st.sy) % (st.floor.length : Int)).toNat [] = st.floorRow row := rfl
  tbr_iter [sx_02, tup_len_rows, rows_at f0 f1, hfr, rng1_ok, upTo_eq]
  have hl2 : 0 < ((st.floorRow row).length : Int) := by omega
  rw [lc_eq (fun x : Nat => .int ((st.floorRow row).getD (((x : Int) + st.sx) % (st.floorRow row).length).toNat 0)) (fun x hx => by
    have a := Int.emod_nonneg ((0 + (x : Int)) + st.sx) (b := ((st.floorRow row).length : Int)) (by omega)
    have b := Int.emod_lt_of_pos ((0 + (x : Int)) + st.sx) hl2
    rw [Int.zero_add] at a b
    tbr_iter [lenT, idT _ _ _ a b, Int.zero_add])]
  tbr_iter []
  have : (List.range w.toNat).map (fun x : Nat => PyData.int ((st.floorRow row).getD (((x : Int) + st.sx) % (st.floorRow row).length).toNat 0)) = (st.floorS w row).map .int := by
    unfold Stand.floorS
    rw [List.map_map]
    rfl
  rw [this]
  exact fin_r (M := [])
theorem taken_v {st : Stand} {mm w h g m row : Int} (hst : st.Ok mm) (hmm : mm ≤ 1000) (hm : 0 ≤ m) (w0 : 0 ≤ w) (w1 : w ≤ 1000) : callV ⟨callF T wf (k + 4), G, su, me⟩ i_taken [.d (.tuple [.int w, .int h, .int g, .int m]), .d (standD st), .d (.int row)] M = .ok (.d (rowD (st.floorS w row) (st.strips m row))) M := by
  refine callV_ok ?_ rfl
  rw [call_fn (fn := fn_taken) rfl rfl]
  show fin 0 (evSs _ wf fn_taken.body [some (.d (.tuple [.int w, .int h, .int g, .int m])), some (.d (standD st)), some (.d (.int row)), none, none, none, none, none, none, none] []) = _
  simp only [fn_taken]
  have hml := hst.ml
  have hll := lying_len st row
  tbr_iter [kept_v hst hmm hm, nsD]
  rw [List.map_map]
  rw [for_fm [.lst []] (emb := Val.d ∘ fun n : Nat => PyData.int (n : Int)) (fun i => some (stripD (st.stripAt row i))) (fun acc => [.lst (acc.map .d)]) rfl (by simp; omega)]
  · tbr_iter [floor_v hst w0 w1]
    rw [fin_0]
    unfold rowD Stand.strips
    rw [List.filterMap_eq_map', List.map_map]
    rfl
  · intro i hi acc hacc
    obtain ⟨hi2, hli⟩ := lying_mem (List.mem_of_mem_take hi)
    have hmo := hst.mv _ (getD_mem (d := m0) hi2)
    have hmv := fun M => mv_at (M := M) hi2
    have hl : (acc.map Val.d).length < 16777216 := by simp; omega
    obtain ⟨n, hs, y0, y1⟩ := lies_shape hli
    have hn := hmo.s n hs
    have hsp : stripD (st.stripAt row i) = .tuple [.int (i : Int), .int (st.movers.getD i m0).x, .int (st.movers.getD i m0).rank, tupI (stripOf (st.book.getD n.toNat []) (st.movers.getD i m0).turn (row - (st.movers.getD i m0).y))] := by
      unfold stripD Stand.stripAt Stand.shapeOf
      rw [hs]
    rw [hsp]
    simp only [Function.comp]
    have asg : ∀ s : Slots, asgT (.many [5, 6, 7, 8, 9]) (.d (moverD (st.movers.getD i m0))) s = setAll [5, 6, 7, 8, 9] ([.int n, .int (st.movers.getD i m0).x, .int (st.movers.getD i m0).y, .int (st.movers.getD i m0).rank, .int (st.movers.getD i m0).turn].map .d) s := fun s => by rw [asg_mvv, hs]; rfl
    tbr_iter [sx_3, hmv, asg, sx_2, bk_at hn, strip_v y0 y1 hmo.t0 hmo.t1, appC_k hl]
    simp
end
end Lw

namespace Lw
open PySem Gv
def intsV (r : List Int) : List Val := r.map fun i => .d (.int i)
theorem intsV_map (r : List Int) : intsV r = (r.map PyData.int).map .d := by unfold intsV; rw [List.map_map]; rfl
structure RowOk (w : Int) (r : List Int × List Strip) : Prop where
  fl : (r.1.length : Int) = w
  fi : ∀ i ∈ r.1, 0 ≤ i ∧ i ≤ 15
  sl : r.2.length ≤ 12
  si : ∀ s ∈ r.2, ∀ i ∈ s.inks, 0 ≤ i ∧ i ≤ 15
theorem fmax_mem : ∀ {cs : List Cov} {a : Cov}, firstMax cs = some a → a ∈ cs := by
  intro cs
  refine snocRec (P := fun cs => ∀ {a : Cov}, firstMax cs = some a → a ∈ cs) ?_ ?_ cs
  · intro a h; cases h
  · intro l c ih a h
    have e : firstMax (l ++ [c]) = better (firstMax l) c := by unfold firstMax; rw [List.foldl_append]; rfl
    rw [e] at h
    cases hl : firstMax l with
    | none =>
      rw [hl] at h
      unfold better at h
      injection h with h
      subst h
      simp
    | some d =>
      rw [hl] at h
      unfold better at h
      dsimp only at h
      split at h
      · injection h with h; subst h; simp
      · injection h with h; subst h; simp [ih hl]
theorem ink_range {fl : Int} {cs : List Cov} (hf : 0 ≤ fl ∧ fl ≤ 15) (hc : ∀ c ∈ cs, 0 ≤ c.ink ∧ c.ink ≤ 15) : 0 ≤ inkOf fl cs ∧ inkOf fl cs ≤ 15 := by
  unfold inkOf
  cases h : firstMax cs with
  | none => exact hf
  | some a =>
    dsimp only
    split
    · exact hf
    · exact hc a (fmax_mem h)
theorem RowOk.ink {w x : Int} {r : List Int × List Strip} (h : RowOk w r) (x0 : 0 ≤ x) (x1 : x < w) : 0 ≤ inkOf (r.1.getD x.toNat 0) (cov r.2 x) ∧ inkOf (r.1.getD x.toNat 0) (cov r.2 x) ≤ 15 := by
  refine ink_range (h.fi _ (Gv.getD_mem ?_)) ?_
  · have := h.fl; omega
  · intro c hc
    unfold cov at hc
    obtain ⟨s, hs, rfl⟩ := List.mem_map.mp hc
    have hs2 := (List.mem_filter.mp hs).1
    dsimp only
    unfold Strip.ink
    split
    · exact h.si s hs2 _ (Gv.getD_mem (by omega))
    · omega
theorem taken_ok {st : Stand} {w m row : Int} (hst : st.Ok 12) (w0 : 0 ≤ w) : RowOk w (st.floorS w row, st.strips m row) := by
  obtain ⟨f0, f1, f2⟩ := floor_row (row := row) hst
  refine ⟨?_, ?_, ?_, ?_⟩
  · show ((st.floorS w row).length : Int) = w
    unfold Stand.floorS
    simp
    omega
  · intro i hi
    unfold Stand.floorS at hi
    obtain ⟨x, hx, rfl⟩ := List.mem_map.mp hi
    have hm : st.floorRow row ∈ st.floor := Gv.getD_mem (by omega)
    have a := Int.emod_nonneg ((x : Int) + st.sx) (b := ((st.floorRow row).length : Int)) (by omega)
    have b := Int.emod_lt_of_pos ((x : Int) + st.sx) (b := ((st.floorRow row).length : Int)) (by omega)
    exact (hst.fl.ink _ hm) _ (Gv.getD_mem (by omega))
  · have := strips_len st m row
    have := hst.ml
    show (st.strips m row).length ≤ 12
    omega
  · intro s hs i hi
    have hs : s ∈ st.strips m row := hs
    unfold Stand.strips at hs
    obtain ⟨j, hj, rfl⟩ := List.mem_map.mp hs
    obtain ⟨hj2, hlie⟩ := lying_mem (List.mem_of_mem_take hj)
    have hmo := hst.mv _ (Gv.getD_mem (d := m0) hj2)
    obtain ⟨n, hn, y0, y1⟩ := lies_shape hlie
    have hi2 : i ∈ stripOf (st.shapeOf (st.movers.getD j m0)) (st.movers.getD j m0).turn (row - (st.movers.getD j m0).y) := hi
    have hsh : st.shapeOf (st.movers.getD j m0) = st.book.getD n.toNat [] := by unfold Stand.shapeOf; rw [hn]
    rw [hsh] at hi2
    have hbk := hst.bk _ (Gv.getD_mem (d := ([] : List (List Int))) (show n.toNat < st.book.length from by have := hmo.s n hn; omega))
    have hrow : ∀ t, i ∈ turnRow (st.book.getD n.toNat []) t (row - (st.movers.getD j m0).y) → 0 ≤ i ∧ i ≤ 15 := by
      intro t ht
      unfold turnRow at ht
      refine hbk.ink _ (Gv.getD_mem ?_) i ht
      split <;> omega
    unfold stripOf at hi2
    split at hi2
    · exact hrow _ (List.mem_reverse.mp hi2)
    · exact hrow _ hi2
def inkR (st : Stand) (w m r : Int) (x : Nat) : Int := inkOf ((st.floorS w r).getD x 0) (cov (st.strips m r) (x : Int))
def picD (rows : List (List Int)) : PyData := .list (rows.map fun r => .list (r.map .int))
theorem frz_rows {M : Store} {j : Nat} : ∀ {rs : List Nat} {rows : List (List Int)}, rs.length = rows.length → (∀ (i r : Nat), rs[i]? = some r → M[r]? = some (Cell.lst (intsV (rows.getD i [])))) → (rs.map Val.ref).mapM (frz 0 (j + 1) M) = some (rows.map fun r => PyData.list (r.map .int))
  | [], [], _, _ => rfl
  | [], _ :: _, h, _ => by simp at h
  | _ :: _, [], h, _ => by simp at h
  | r :: rs, row :: rows, h, hr => by
    have ih := frz_rows (j := j) (rs := rs) (rows := rows) (by simpa using h) (fun i q hq => by have := hr (i + 1) q (by simpa using hq); simpa using this)
    have h0 := hr 0 r rfl
    rw [List.map_cons, List.mapM_cons, ih]
    have e : frz 0 (j + 1) M (.ref r) = some (.list (row.map .int)) := by
      show (if r < 0 then none else match M[r]? with | some (.lst vs) => (vs.mapM (frz 0 j M)).map PyData.list | some (.tup vs) => (vs.mapM (frz 0 j M)).map PyData.tuple | _ => none) = _
      rw [if_neg (by omega), h0]
      dsimp only
      rw [show (row :: rows).getD 0 [] = row from rfl, intsV_map, frz_map]
      rfl
    rw [e]
    rfl
theorem view_rows {M : Store} {p : Nat} {rs : List Nat} {rows : List (List Int)} (hp : M[p]? = some (.lst (rs.map .ref))) (hl : rs.length = rows.length) (hr : ∀ (i r : Nat), rs[i]? = some r → M[r]? = some (Cell.lst (intsV (rows.getD i [])))) : view M (.ref p) = some (picD rows) := by
  show (if p < 0 then none else match M[p]? with | some (.lst vs) => (vs.mapM (frz 0 7 M)).map PyData.list | some (.tup vs) => (vs.mapM (frz 0 7 M)).map PyData.tuple | _ => none) = _
  rw [if_neg (by omega), hp]
  dsimp only
  rw [frz_rows (j := 6) hl hr]
  rfl
theorem pic_okD (rows : List (List Int)) (n : Nat) : okD (n + 3) (picD rows) = true := okD_map (n := n + 2) (fun r => okD_map (n := n + 1) (fun _ => by rfl) r) rows
end Lw

namespace Lw
open PySem Gv
section
variable {k : Nat}
theorem ss_split {F : FEnv} {wf : Nat} {a : IS} {r : List IS} {s : Slots} {M : Store} : evSs F wf (a :: r) s M = cont F wf r (evSs F wf [a] s M) := by
  show (match evS F wf a s M with | .next s1 M1 => evSs F wf r s1 M1 | x => x) = cont F wf r (match evS F wf a s M with | .next s1 M1 => evSs F wf [] s1 M1 | x => x)
  cases evS F wf a s M <;> rfl
end
theorem ss_iteT {F : FEnv} {wf : Nat} {c : IE} {t e : List IS} {s : Slots} {M : Store} (hc : evE F c s M = bl true M) : evSs F wf [.ite c t e] s M = evSs F wf t s M := by
  show (match evS F wf (.ite c t e) s M with | .next s1 M1 => evSs F wf [] s1 M1 | x => x) = _
  unfold evS
  rw [hc]
  show (match evSs F wf t s M with | .next s1 M1 => evSs F wf [] s1 M1 | x => x) = _
  cases evSs F wf t s M <;> rfl
theorem ss_iteF {F : FEnv} {wf : Nat} {c : IE} {t e : List IS} {s : Slots} {M : Store} (hc : evE F c s M = bl false M) : evSs F wf [.ite c t e] s M = evSs F wf e s M := by
  show (match evS F wf (.ite c t e) s M with | .next s1 M1 => evSs F wf [] s1 M1 | x => x) = _
  unfold evS
  rw [hc]
  show (match evSs F wf e s M with | .next s1 M1 => evSs F wf [] s1 M1 | x => x) = _
  cases evSs F wf e s M <;> rfl
end Lw

namespace Lw
open PySem Gv
structure RowUp (r : List Int × List Strip) : Prop where
  rk : ∀ s ∈ r.2, 0 ≤ s.rank
  up : r.2.Pairwise fun a b => a.n < b.n
theorem strips_up {st : Stand} {w m row : Int} (hst : st.Ok 12) : RowUp (st.floorS w row, st.strips m row) := by
  refine ⟨fun s hs => ?_, ?_⟩
  · have hs : s ∈ st.strips m row := hs
    unfold Stand.strips at hs
    obtain ⟨j, hj, rfl⟩ := List.mem_map.mp hs
    obtain ⟨hj2, _⟩ := lying_mem (List.mem_of_mem_take hj)
    exact (hst.mv _ (Gv.getD_mem (d := m0) hj2)).r0
  · show (st.strips m row).Pairwise _
    unfold Stand.strips
    rw [List.pairwise_map]
    have h1 : (st.lying row).Pairwise (· < ·) := by
      unfold Stand.lying
      exact List.Pairwise.filter _ List.pairwise_lt_range
    exact (h1.sublist (List.take_sublist _ _)).imp fun {a b} hab => by
      show (a : Int) < (b : Int)
      omega
end Lw

namespace Lw
open PySem Gv
def lcovD (c : Cov) : PyData := .tuple [.int c.rank, .int (0 - c.n), .int c.ink]
theorem alike_lcov (a b : Cov) : PySem.W.alike (lcovD a) (lcovD b) = true := by simp [lcovD, PySem.W.alike, PySem.W.alikeAll]
theorem alikeL_map {α : Type} {f : α → PyData} (h : ∀ a b, PySem.W.alike (f a) (f b) = true) (xs : List α) : alikeL (xs.map f) = true := by
  unfold alikeL
  simp only [List.all_eq_true, List.mem_map]
  rintro _ ⟨a, _, rfl⟩ _ ⟨b, _, rfl⟩
  exact h a b
theorem sortOk_map {α : Type} {f : α → PyData} (h : ∀ a b, PySem.W.alike (f a) (f b) = true) (ht : ∀ a, tupH (f a) = true) (xs : List α) : sortOk (xs.map f) = true := by
  unfold sortOk
  rw [alikeL_map h, Bool.true_and]
  have : (xs.map f).all tupH = true := by
    simp only [List.all_eq_true, List.mem_map]
    rintro _ ⟨a, _, rfl⟩
    exact ht a
  rw [this]
  rfl
theorem ltI (xs ys : List Int) : PySem.W.dataLt (.tuple (xs.map .int)) (.tuple (ys.map .int)) = decide (xs < ys) := by
  rw [PySem.W.dataLt_tuple]
  exact PySem.W.dataLt_ints xs ys
theorem lt_lcov (a b : Cov) (h : a.n < b.n) : PySem.W.dataLt (lcovD a) (lcovD b) = decide (a.rank < b.rank) := by
  have := ltI [a.rank, 0 - a.n, a.ink] [b.rank, 0 - b.n, b.ink]
  show PySem.W.dataLt (.tuple ([a.rank, 0 - a.n, a.ink].map .int)) (.tuple ([b.rank, 0 - b.n, b.ink].map .int)) = _
  rw [this]
  apply decide_eq_decide.mpr
  rw [List.cons_lt_cons_iff, List.cons_lt_cons_iff]
  constructor
  · rintro (h1 | ⟨h1, h2 | ⟨h2, _⟩⟩)
    · exact h1
    · omega
    · omega
  · exact fun h1 => .inl h1
/-- numbers that rise -/
def Rises (cs : List Cov) : Prop := cs.Pairwise fun a b => a.n < b.n
theorem foldl_some : ∀ (cs : List Cov) (c : Cov), cs.foldl better (some c) = some (cs.foldl (fun a y => if a.rank < y.rank then y else a) c)
  | [], c => rfl
  | y :: cs, c => by
    rw [List.foldl_cons, List.foldl_cons]
    show cs.foldl better (if c.rank < y.rank then some y else some c) = _
    split
    · exact foldl_some cs y
    · exact foldl_some cs c
theorem max_lcov : ∀ (cs : List Cov) (c : Cov), Rises (c :: cs) → PySem.W.maxD (lcovD c) (cs.map lcovD) = lcovD (cs.foldl (fun a y => if a.rank < y.rank then y else a) c)
  | [], c, _ => rfl
  | y :: cs, c, h => by
    obtain ⟨h1, h2⟩ := List.pairwise_cons.mp h
    obtain ⟨h3, h4⟩ := List.pairwise_cons.mp h2
    have e : PySem.W.maxD (lcovD c) ((y :: cs).map lcovD) = PySem.W.maxD (if PySem.W.dataLt (lcovD c) (lcovD y) then lcovD y else lcovD c) (cs.map lcovD) := rfl
    rw [e, lt_lcov c y (h1 y (by simp)), List.foldl_cons]
    by_cases hr : c.rank < y.rank
    · simp only [hr, decide_true, if_true]
      exact max_lcov cs y h2
    · simp only [hr, decide_false, Bool.false_eq_true, if_false]
      exact max_lcov cs c (List.pairwise_cons.mpr ⟨fun z hz => h1 z (by simp [hz]), h4⟩)
theorem maxD_cov {cs : List Cov} (h : Rises cs) : maxD (cs.map lcovD) = (firstMax cs).map lcovD := by
  cases cs with
  | nil => rfl
  | cons c cs =>
    show some (PySem.W.maxD (lcovD c) (cs.map lcovD)) = _
    rw [max_lcov cs c h]
    show _ = (cs.foldl better (some c)).map lcovD
    rw [foldl_some]
    rfl
theorem max1_cov {al : Bool} {M : Store} {cs : List Cov} {a : Cov} (h : Rises cs) (e : firstMax cs = some a) : biD al .max1 [.d (.list (cs.map lcovD))] M = .ok (.d (lcovD a)) M := by
  show (if sortOk (cs.map lcovD) && (cs.map lcovD).all (okD 30) then (match maxD (cs.map lcovD) with | some d => R.ok (Val.d d) M | none => .bad) else .bad) = _
  rw [sortOk_map alike_lcov (fun _ => rfl)]
  have : (cs.map lcovD).all (okD 30) = true := by
    simp only [List.all_eq_true, List.mem_map]
    rintro _ ⟨a, _, rfl⟩
    rfl
  rw [this, if_pos (by rfl), maxD_cov h, e]
  rfl
theorem firstMax_snoc (cs : List Cov) (c : Cov) : firstMax (cs ++ [c]) = better (firstMax cs) c := by
  unfold firstMax
  rw [List.foldl_append]
  rfl
theorem firstMax_mem : ∀ {cs : List Cov} {a : Cov}, firstMax cs = some a → a ∈ cs := by
  intro cs
  refine snocRec (P := fun cs => ∀ {a : Cov}, firstMax cs = some a → a ∈ cs) ?_ ?_ cs
  · intro a h; cases h
  · intro cs c ih a h
    rw [firstMax_snoc] at h
    cases e : firstMax cs with
    | none => rw [e] at h; cases h; simp
    | some b =>
      rw [e] at h
      simp only [better] at h
      split at h
      · cases h; simp
      · cases h; simp [ih e]
theorem firstMax_none {cs : List Cov} (h : firstMax cs = none) : cs = [] := by
  cases cs with
  | nil => rfl
  | cons c cs =>
    have e : firstMax (c :: cs) = cs.foldl better (some c) := rfl
    rw [e, foldl_some] at h
    cases h
theorem firstMax_above {cs : List Cov} (hr : ∀ c ∈ cs, 0 ≤ c.rank) : firstMax (cs.filter fun c => decide (0 < c.rank)) = (firstMax cs).filter fun c => decide (0 < c.rank) := by
  revert hr
  refine snocRec (P := fun cs => (∀ c ∈ cs, 0 ≤ c.rank) → firstMax (cs.filter fun c => decide (0 < c.rank)) = (firstMax cs).filter fun c => decide (0 < c.rank)) (fun _ => rfl) ?_ cs
  · intro cs c ih hr
    have ih := ih fun x hx => hr x (by simp [hx])
    have hc := hr c (by simp)
    rw [List.filter_append, firstMax_snoc]
    by_cases h : 0 < c.rank
    · have e1 : [c].filter (fun c => decide (0 < c.rank)) = [c] := by simp [h]
      rw [e1, firstMax_snoc, ih]
      cases e : firstMax cs with
      | none => simp [better, h, Option.filter]
      | some a =>
        have ha := hr a (by simp [firstMax_mem e])
        by_cases h2 : 0 < a.rank
        · simp only [Option.filter, h2, decide_true, better]
          by_cases h3 : a.rank < c.rank
          · simp [h3, h]
          · simp [h3, h2]
        · simp only [Option.filter, h2, decide_false, better]
          have h3 : a.rank < c.rank := by omega
          simp [h3, h]
    · have e1 : [c].filter (fun c => decide (0 < c.rank)) = [] := by simp [h]
      rw [e1, List.append_nil, ih]
      cases e : firstMax cs with
      | none => simp [better, h, Option.filter]
      | some a =>
        have ha := hr a (by simp [firstMax_mem e])
        have h3 : ¬ a.rank < c.rank := by omega
        simp [better, h3]
section
variable {k : Nat} {G : Nat → List Val → Store → R Val} {su : Nat → Nat → Option Bool} {me : Nat → Nat → Option Nat} {M : Store}
theorem lcover_v {fl : List Int} {ss : List Strip} {x : Int} (hl : ss.length ≤ 1000) : callV ⟨callF T wf (k + 2), G, su, me⟩ i_law_cover [.d (rowD fl ss), .d (.int x)] M = .ok (.d (.list ((cov ss x).map lcovD))) M := by
  refine callV_ok ?_ rfl
  rw [call_fn (fn := fn_law_cover) rfl rfl]
  show fin 0 (evSs _ wf fn_law_cover.body [some (.d (rowD fl ss)), some (.d (.int x)), none, none, none, none, none] []) = _
  simp only [fn_law_cover]
  tbr_iter [rowD]
  rw [List.map_map]
  rw [for_fm [.lst []] (emb := Val.d ∘ stripD) (fun s => if decide (s.ink x ≠ 0) then some (lcovD ⟨s.n, s.rank, s.ink x⟩) else none) (fun acc => [.lst (acc.map .d)]) rfl (by omega)]
  · tbr_iter []
    rw [fm_if, fin_l0]
    unfold cov
    rw [List.map_map]
    rfl
  · intro s hs acc hacc
    simp only [Function.comp, stripD, tupI]
    by_cases hc : 0 ≤ x - s.left ∧ x - s.left < s.inks.length
    · have hi : s.ink x = s.inks.getD (x - s.left).toNat 0 := by unfold Strip.ink; rw [if_pos hc]
      rw [hi]
      have h1 : s.left ≤ x := by omega
      have h2 : x < s.left + s.inks.length := by omega
      tbr_iter [h1, h2]
      by_cases h0 : s.inks.getD (x - s.left).toNat 0 = 0
      · tbr_iter [h0]
        simp
      · tbr_iter [h0]
        generalize s.inks.getD (x - s.left).toNat 0 = v at h0 ⊢
        simp [lcovD, h0]
    · have hi : s.ink x = 0 := by unfold Strip.ink; rw [if_neg hc]
      rw [hi]
      by_cases h1 : s.left ≤ x
      · have h2 : ¬ x < s.left + s.inks.length := fun z => hc ⟨by omega, by omega⟩
        tbr_iter [h1, h2]
        simp
      · tbr_iter [h1]
        simp
theorem okD_lcovs (cs : List Cov) : okD 30 (.list (cs.map lcovD)) = true := okD_map (n := 29) (fun _ => rfl) _
theorem ne_nilL {M : Store} {xs : List PyData} (h : okD 30 (.list xs) = true) : cmpD M .NotEq (.d (.list xs)) (.d (.list [])) = bl (decide (xs ≠ [])) M := by
  show (match eqD M (.d (.list xs)) (.d (.list [])) with | some b => bl (!b) M | none => .bad) = _
  have : eqD M (.d (.list xs)) (.d (.list [])) = some (decide (xs = [])) := by
    unfold eqD
    simp only [view_d]
    rw [h, if_pos (by rfl), eqv_nil]
  rw [this]
  simp
theorem eq_nilL {M : Store} {xs : List PyData} (h : okD 30 (.list xs) = true) : cmpD M .Eq (.d (.list xs)) (.d (.list [])) = bl (decide (xs = [])) M := by
  show (match eqD M (.d (.list xs)) (.d (.list [])) with | some b => bl b M | none => .bad) = _
  have : eqD M (.d (.list xs)) (.d (.list [])) = some (decide (xs = [])) := by
    unfold eqD
    simp only [view_d]
    rw [h, if_pos (by rfl), eqv_nil]
  rw [this]
theorem link_v {fl : List Int} {ss : List Strip} {x : Int} (hl : ss.length ≤ 1000) (h0 : 0 ≤ x) (h1 : x < fl.length) (hr : ∀ s ∈ ss, 0 ≤ s.rank) (hn : ss.Pairwise fun a b => a.n < b.n) :
    callV ⟨callF T wf (k + 3), G, su, me⟩ i_law_ink [.d (rowD fl ss), .d (.int x)] M = .ok (.d (.int (inkOf (fl.getD x.toNat 0) (cov ss x)))) M := by
  refine callV_ok ?_ rfl
  rw [call_fn (fn := fn_law_ink) rfl rfl]
  show fin 0 (evSs _ wf fn_law_ink.body [some (.d (rowD fl ss)), some (.d (.int x)), none, none, none] []) = _
  simp only [fn_law_ink]
  have hrc : ∀ c ∈ cov ss x, 0 ≤ c.rank := by
    unfold cov
    simp only [List.mem_map, List.mem_filter]
    rintro _ ⟨s, hs, rfl⟩
    exact hr s hs.1
  have hrise : Rises (cov ss x) := by
    unfold cov Rises
    rw [List.pairwise_map]
    exact hn.sublist List.filter_sublist
  have hab := firstMax_above hrc
  tbr_iter [lcover_v hl]
  rw [List.map_map]
  rw [lc_filter (emb := Val.d ∘ lcovD) (fun c => decide (0 < c.rank)) lcovD]
  rotate_left
  · intro c hc
    simp only [Function.comp, lcovD]
    tbr_iter []
  · intro c hc _
    simp only [Function.comp]
    tbr_iter []
  have hrise2 : Rises ((cov ss x).filter fun c => decide (0 < c.rank)) := hrise.sublist List.filter_sublist
  generalize hA : (cov ss x).filter (fun c => decide (0 < c.rank)) = ab at hab hrise2
  unfold inkOf
  cases hm : firstMax (cov ss x) with
  | none =>
    have hn := firstMax_none hm
    have hab2 : ab = [] := by rw [← hA, hn]; rfl
    subst hab2
    tbr_iter [List.map_nil, ne_nilL (show okD 30 (.list []) = true from rfl), ne_eq, rowD, tupI, eq_nilL (show okD 30 (.list []) = true from rfl), hn]
    exact fin_r (M := [])
  | some a =>
    have hne : cov ss x ≠ [] := fun z => by rw [z] at hm; cases hm
    have har := hrc a (firstMax_mem hm)
    rw [hm] at hab
    by_cases hp : 0 < a.rank
    · have hab2 : firstMax ab = some a := by rw [hab]; simp [Option.filter, hp]
      have hne2 : ab.map lcovD ≠ [] := fun z => by
        have : ab = [] := by simpa using z
        rw [this] at hab2
        cases hab2
      have hr0 : ¬ a.rank = 0 := by omega
      tbr_iter [ne_nilL (okD_lcovs ab), hne2, ne_eq, max1_cov hrise2 hab2, lcovD, hr0]
      exact fin_r (M := [])
    · have hab2 : firstMax ab = none := by rw [hab]; simp [Option.filter, hp]
      have hab3 := firstMax_none hab2
      subst hab3
      have hr0 : a.rank = 0 := by omega
      have hne2 : (cov ss x).map lcovD ≠ [] := by simpa using hne
      by_cases hf : fl.getD x.toNat 0 = 0
      · tbr_iter [List.map_nil, ne_nilL (show okD 30 (.list []) = true from rfl), ne_eq, rowD, tupI, eq_nilL (okD_lcovs (cov ss x)), hne2, hf, hr0, max1_cov hrise hm, lcovD]
        exact fin_r (M := [])
      · tbr_iter [List.map_nil, ne_nilL (show okD 30 (.list []) = true from rfl), ne_eq, rowD, tupI, eq_nilL (okD_lcovs (cov ss x)), hne2, hf, hr0]
        exact fin_r (M := [])
end
end Lw

namespace Lw
open PySem Gv
theorem map_rev (xs : List Int) : (List.range xs.length).map (fun k : Nat => xs.getD (xs.length - 1 - k) 0) = xs.reverse := by
  apply List.ext_getElem
  · simp
  · intro i h1 h2
    simp at h1
    simp [List.getD_eq_getElem?_getD, show xs.length - 1 - i < xs.length from by omega]
section
variable {k : Nat} {G : Nat → List Val → Store → R Val} {su : Nat → Nat → Option Bool} {me : Nat → Nat → Option Nat} {M : Store}
theorem lstrip_v {sh : List (List Int)} {turn row : Int} (h0 : 0 ≤ row) (h1 : row < sh.length) (t0 : 0 ≤ turn) (t1 : turn < 4) (hw : ∀ r ∈ sh, r.length ≤ 1000) : callV ⟨callF T wf (k + 2), G, su, me⟩ i_law_strip [.d (rowsD sh), .d (.int turn), .d (.int row)] M = .ok (.d (tupI (stripOf sh turn row))) M := by
  refine callV_ok ?_ rfl
  rw [call_fn (fn := fn_law_strip) rfl rfl]
  show fin 0 (evSs _ wf fn_law_strip.body [some (.d (rowsD sh)), some (.d (.int turn)), some (.d (.int row)), none] []) = _
  simp only [fn_law_strip]
  have key : ∀ r : Int, 0 ≤ r → r < sh.length → (turnRow sh turn row = sh.getD r.toNat []) → fin 0 (evSs ⟨callF T wf (k + 1), callF T wf k, T.sub, T.meth⟩ wf [
      .ite (.cmp .Eq (.bin false .Mod (.var 1) (.lit (.int 2))) (.lit (.int 0))) [
        .ret (.idx (.var 0) (.var 2))] [],
      .ret (.bi false .tuple [(.lc false [3] (.one 3) (.rng [(.bi false .len [(.idx (.var 0) (.var 2))])]) (.lit (.bool true)) (.idx (.idx (.var 0) (.var 2)) (.bin false .Sub (.bin false .Sub (.bi false .len [(.idx (.var 0) (.var 2))]) (.lit (.int 1))) (.var 3))))])] [some (.d (rowsD sh)), some (.d (.int turn)), some (.d (.int r)), none] []) = .ok (.d (tupI (stripOf sh turn row))) [] := by
    intro r r0 r1 er
    have ra := fun M => rows_at (M := M) (sh := sh) r0 r1
    have hl := hw _ (Gv.getD_mem (l := sh) (k := r.toNat) (d := []) (by omega))
    unfold stripOf
    rw [er]
    generalize sh.getD r.toNat [] = xs at ra hl
    have lenT : ∀ (al : Bool) (M : Store) (xs : List Int), biD al .len [.d (tupI xs)] M = .ok (.d (.int xs.length)) M := fun al M xs => len_map_t PyData.int xs
    by_cases h3 : turn % 2 = 0
    · rw [if_neg (by omega)]
      tbr_iter [h3, ra]
      exact fin_r (M := [])
    · rw [if_pos (by omega)]
      tbr_iter [h3, ra, lenT, rng1_ok, upTo_eq, Int.toNat_natCast]
      rw [lc_eq (fun x : Nat => .int (xs.getD (xs.length - 1 - x) 0)) (fun x hx => by
        have hx2 : x < xs.length := by simpa using hx
        have e : ((xs.length : Int) - 1 - (0 + (x : Int))).toNat = xs.length - 1 - x := by omega
        have ix := idx_ti (M := []) (xs := xs) (i := (xs.length : Int) - 1 - (0 + (x : Int))) (by omega) (by omega)
        rw [e] at ix
        have ix' : idxD [] (.d (tupI xs)) (.d (.int ((xs.length : Int) - 1 - (0 + (x : Int))))) = .ok (.d (.int (xs.getD (xs.length - 1 - x) 0))) [] := ix
        tbr_iter [ra, lenT, ix'])]
      tbr_iter []
      have : (List.range xs.length).map (fun x : Nat => PyData.int (xs.getD (xs.length - 1 - x) 0)) = xs.reverse.map .int := by
        rw [← map_rev, List.map_map]
        rfl
      rw [this]
      exact fin_r (M := [])
  by_cases h2 : 2 ≤ turn
  · have e1 : turn / 2 = 1 := by omega
    have q := key ((sh.length : Int) - 1 - row) (by omega) (by omega) (by unfold turnRow; rw [if_pos h2])
    rw [ss_split, ss_iteT (by tbr_iter [e1])]
    have s1 : evSs ⟨callF T wf (k + 1), callF T wf k, T.sub, T.meth⟩ wf [.asg (.one 2) (.bin false .Sub (.bin false .Sub (.bi false .len [(.var 0)]) (.lit (.int 1))) (.var 2))] [some (.d (rowsD sh)), some (.d (.int turn)), some (.d (.int row)), none] [] = .next [some (.d (rowsD sh)), some (.d (.int turn)), some (.d (.int ((sh.length : Int) - 1 - row))), none] [] := by
      tbr_iter [tup_len_rows]
    rw [s1, cont_next]
    exact q
  · have e1 : ¬ turn / 2 = 1 := by omega
    have q := key row h0 h1 (by unfold turnRow; rw [if_neg h2])
    rw [ss_split, ss_iteF (by tbr_iter [e1]), show evSs _ wf [] _ [] = .next _ [] from rfl, cont_next]
    exact q
theorem llying_v {st : Stand} {mm row : Int} (hst : st.Ok mm) (hmm : mm ≤ 1000) : callV ⟨callF T wf (k + 2), G, su, me⟩ i_law_lying [.d (standD st), .d (.int row)] M = .ok (.d (.list (nsD (st.lying row)))) M := by
  refine callV_ok ?_ rfl
  rw [call_fn (fn := fn_law_lying) rfl rfl]
  show fin 0 (evSs _ wf fn_law_lying.body [some (.d (standD st)), some (.d (.int row)), none, none, none, none, none, none, none] []) = _
  simp only [fn_law_lying]
  have hml := hst.ml
  have lm : ∀ (al : Bool) (M : Store), biD al .len [.d (.tuple (st.movers.map moverD))] M = .ok (.d (.int st.movers.length)) M := fun al M => len_map_t moverD st.movers
  tbr_iter [sx_3, lm, rng1_ok, upTo_eq, Int.toNat_natCast, Int.zero_add]
  rw [for_fm [.lst []] (emb := fun k : Nat => Val.d (.int (k : Int))) (fun i => if st.lies row (st.movers.getD i m0) then some (.int (i : Int)) else none) (fun acc => [.lst (acc.map .d)]) rfl (by simp; omega)]
  · tbr_iter []
    rw [fm_filter, fin_l0]
    rfl
  · intro i hi acc hacc
    have hi2 : i < st.movers.length := by simpa using hi
    have hmo := hst.mv _ (Gv.getD_mem (d := m0) hi2)
    have hmv := fun M => mv_at (M := M) hi2
    generalize st.movers.getD i m0 = m at hmo hmv
    have hl : (acc.map Val.d).length < 16777216 := by simp; omega
    cases hs : m.shape with
    | none =>
      have e : st.lies row m = false := by unfold Stand.lies; rw [hs]; rfl
      rw [e]
      tbr_iter [sx_3, hmv, asg_mvv, hs, optD, isNone, Bool.not_true]
      simp
    | some n =>
      have hn := hmo.s n hs
      have hsh : st.shapeOf m = st.book.getD n.toNat [] := by unfold Stand.shapeOf; rw [hs]
      have e : st.lies row m = decide (0 ≤ row - m.y ∧ row - m.y < (st.book.getD n.toNat []).length) := by unfold Stand.lies; rw [hs, hsh]; rfl
      rw [e]
      by_cases h1 : m.y ≤ row
      · by_cases h2 : row < m.y + (st.book.getD n.toNat []).length
        · have e2 : decide (0 ≤ row - m.y ∧ row - m.y < (st.book.getD n.toNat []).length) = true := decide_eq_true (by omega)
          rw [e2]
          tbr_iter [sx_3, hmv, asg_mvv, hs, optD, isNone, Bool.not_false, h1, sx_2, bk_at hn, tup_len_rows, h2, appC_k hl]
          simp
        · have e2 : decide (0 ≤ row - m.y ∧ row - m.y < (st.book.getD n.toNat []).length) = false := decide_eq_false (by omega)
          rw [e2]
          tbr_iter [sx_3, hmv, asg_mvv, hs, optD, isNone, Bool.not_false, h1, sx_2, bk_at hn, tup_len_rows, h2]
          simp
      · have e2 : decide (0 ≤ row - m.y ∧ row - m.y < (st.book.getD n.toNat []).length) = false := decide_eq_false (by omega)
        rw [e2]
        tbr_iter [sx_3, hmv, asg_mvv, hs, optD, isNone, Bool.not_false, h1]
        simp
theorem ltaken_v {st : Stand} {mm w h g m row : Int} (hst : st.Ok mm) (hmm : mm ≤ 1000) (hm : 0 ≤ m) (w0 : 0 ≤ w) (w1 : w ≤ 1000) : callV ⟨callF T wf (k + 3), G, su, me⟩ i_law_taken [.d (.tuple [.int w, .int h, .int g, .int m]), .d (standD st), .d (.int row)] M = .ok (.d (rowD (st.floorS w row) (st.strips m row))) M := by
  refine callV_ok ?_ rfl
  rw [call_fn (fn := fn_law_taken) rfl rfl]
  show fin 0 (evSs _ wf fn_law_taken.body [some (.d (.tuple [.int w, .int h, .int g, .int m])), some (.d (standD st)), some (.d (.int row)), none, none, none, none, none, none, none, none, none, none] []) = _
  simp only [fn_law_taken]
  have hml := hst.ml
  have hll := lying_len st row
  obtain ⟨f0, f1, f2⟩ := floor_row (row := row) hst
  have hfl : 0 < (st.floor.length : Int) := by have := hst.fl.h0; omega
  have lenT : ∀ (al : Bool) (M : Store) (xs : List Int), biD al .len [.d (tupI xs)] M = .ok (.d (.int xs.length)) M := fun al M xs => len_map_t PyData.int xs
  have idT : ∀ (M : Store) (xs : List Int) (i : Int), 0 ≤ i → i < xs.length → idxD M (.d (tupI xs)) (.d (.int i)) = .ok (.d (.int (xs.getD i.toNat 0))) M := fun M xs i a b => idx_ti a b
  have hfr : st.floor.getD ((row + st.sy) % (st.floor.length : Int)).toNat [] = st.floorRow row := rfl
  tbr_iter [sx_02, tup_len_rows, rows_at f0 f1, hfr, llying_v hst hmm, nsD]
  rw [cut_take _ hm, ← List.map_take, List.map_map]
  obtain ⟨⟨o, acc⟩, e1, hacc⟩ := for_to (body := evSs ⟨callF T wf (k + 2), callF T wf (k + 1), T.sub, T.meth⟩ wf [
      .asg (.many [8, 9, 10, 11, 12]) (.idx (.idx (.var 1) (.lit (.int 3))) (.var 5)),
      .app (.var 4) (.tup [(.var 5), (.var 9), (.var 11), (.call i_law_strip [(.idx (.idx (.var 1) (.lit (.int 2))) (.var 8)), (.var 12), (.bin false .Sub (.var 2) (.var 10))])])]) (tg := .one 5) (kl := [5, 8, 10, 11, 12]) (Val.d ∘ fun n : Nat => PyData.int (n : Int))
      (fun q : Option Val × List PyData => [some (.d (.tuple [.int w, .int h, .int g, .int m])), some (.d (standD st)), some (.d (.int row)), some (.d (tupI (st.floorRow row))), some (.ref 0), none, some (.d (rowsD st.floor)), some (.d (.tuple [.int st.sx, .int st.sy])), none, q.1, none, none, none]) (fun q => [.lst (q.2.map .d)]) (xs := (st.lying row).take m.toNat)
      (fun i q => q.2 = (((st.lying row).take m.toNat).take i).map fun j => stripD (st.stripAt row j)) (b := (none, [])) rfl (fun i j hj q hq => by
    obtain ⟨o, acc⟩ := q
    dsimp only at hq
    have hjm := List.mem_of_getElem? hj
    obtain ⟨hi2, hli⟩ := lying_mem (List.mem_of_mem_take hjm)
    have hmo := hst.mv _ (Gv.getD_mem (d := m0) hi2)
    have hmv := fun M => mv_at (M := M) hi2
    have hl : (acc.map Val.d).length < 16777216 := by
      rw [hq, List.length_map, List.length_map, List.length_take, List.length_take]
      omega
    obtain ⟨n, hs, y0, y1⟩ := lies_shape hli
    have hn := hmo.s n hs
    have hbk := hst.bk _ (Gv.getD_mem (l := st.book) (k := n.toNat) (d := []) (by omega))
    have hsp : stripD (st.stripAt row j) = .tuple [.int (j : Int), .int (st.movers.getD j m0).x, .int (st.movers.getD j m0).rank, tupI (stripOf (st.book.getD n.toNat []) (st.movers.getD j m0).turn (row - (st.movers.getD j m0).y))] := by
      unfold stripD Stand.stripAt Stand.shapeOf
      rw [hs]
    have asg : ∀ s : Slots, asgT (.many [8, 9, 10, 11, 12]) (.d (moverD (st.movers.getD j m0))) s = setAll [8, 9, 10, 11, 12] ([.int n, .int (st.movers.getD j m0).x, .int (st.movers.getD j m0).y, .int (st.movers.getD j m0).rank, .int (st.movers.getD j m0).turn].map .d) s := fun s => by rw [asg_mvv, hs]; rfl
    have hw : ∀ r ∈ st.book.getD n.toNat [], r.length ≤ 1000 := by
      obtain ⟨w', _, w2, hw'⟩ := hbk.w
      intro r hr
      rw [hw' r hr]
      omega
    refine ⟨(some (.d (.int (st.movers.getD j m0).x)), acc ++ [stripD (st.stripAt row j)]), ?_, ?_⟩
    · rw [hsp]
      tbr_iter [Function.comp, sx_3, hmv, asg, sx_2, bk_at hn, lstrip_v y0 y1 hmo.t0 hmo.t1 hw, appC_k hl]
      simp
    · dsimp only
      rw [hq, List.take_add_one, hj, List.map_append]
      rfl)
  dsimp only at e1 hacc
  rw [List.map_nil] at e1
  rw [e1, cont_next]
  rw [List.take_length] at hacc
  tbr_iter [rng1_ok, upTo_eq]
  have hl2 : 0 < ((st.floorRow row).length : Int) := by omega
  rw [lc_eq (fun x : Nat => .int ((st.floorRow row).getD (((x : Int) + st.sx) % (st.floorRow row).length).toNat 0)) (fun x hx => by
    have a := Int.emod_nonneg ((0 + (x : Int)) + st.sx) (b := ((st.floorRow row).length : Int)) (by omega)
    have b := Int.emod_lt_of_pos ((0 + (x : Int)) + st.sx) hl2
    rw [Int.zero_add] at a b
    tbr_iter [lenT, idT _ _ _ a b, Int.zero_add])]
  have : (List.range w.toNat).map (fun x : Nat => PyData.int ((st.floorRow row).getD (((x : Int) + st.sx) % (st.floorRow row).length).toNat 0)) = (st.floorS w row).map .int := by
    unfold Stand.floorS
    rw [List.map_map]
    rfl
  rw [this]
  tbr_iter []
  rw [fin_0, hacc]
  unfold rowD Stand.strips
  rw [List.map_map]
  rfl
end
end Lw

namespace Lw
open PySem Gv
theorem inkR_v {k : Nat} {G : Nat → List Val → Store → R Val} {su : Nat → Nat → Option Bool} {me : Nat → Nat → Option Nat} {M : Store} {st : Stand} {w m row : Int} {x : Nat} (hst : st.Ok 12) (w0 : 0 ≤ w) (hx : (x : Int) < w) :
    callV ⟨callF T wf (k + 3), G, su, me⟩ i_law_ink [.d (rowD (st.floorS w row) (st.strips m row)), .d (.int (x : Int))] M = .ok (.d (.int (inkR st w m row x))) M := by
  have hro := taken_ok (m := m) (row := row) hst w0
  have hup := strips_up (w := w) (m := m) (row := row) hst
  have := link_v (k := k) (G := G) (su := su) (me := me) (M := M) (fl := st.floorS w row) (ss := st.strips m row) (x := (x : Int)) (by have := hro.sl; dsimp only at this; omega) (by omega) (by have := hro.fl; dsimp only at this; omega) hup.rk hup.up
  rw [Int.toNat_natCast] at this
  exact this
theorem inkR_16 {st : Stand} {w m row : Int} {x : Nat} (hst : st.Ok 12) (w0 : 0 ≤ w) (hx : (x : Int) < w) : 0 ≤ inkR st w m row x ∧ inkR st w m row x ≤ 15 := by
  have hro := taken_ok (m := m) (row := row) hst w0
  have := hro.ink (x := (x : Int)) (by omega) hx
  dsimp only at this
  rw [Int.toNat_natCast] at this
  exact this
theorem pic_at {M : Store} {h w : Nat} {f : Nat → Nat → Int} {r : Nat} (hr : r < h) : idxD M (.d (picD ((List.range h).map fun r => (List.range w).map (f r)))) (.d (.int (r : Int))) = .ok (.d (.list (((List.range w).map (f r)).map .int))) M := by
  unfold picD
  have := idx_l (M := M) (map_at (fun r : List Int => PyData.list (r.map .int)) ((List.range h).map fun r => (List.range w).map (f r)) [] (i := (r : Int)) (by omega) (by simp; omega))
  rw [this]
  simp [List.getD_eq_getElem?_getD, hr]
theorem pic_at2 {M : Store} {w : Nat} {g : Nat → Int} {x : Nat} (hx : x < w) : idxD M (.d (.list (((List.range w).map g).map .int))) (.d (.int (x : Int))) = .ok (.d (.int (g x))) M := by
  have := idx_l (M := M) (map_at PyData.int ((List.range w).map g) 0 (i := (x : Int)) (by omega) (by simp; omega))
  rw [this]
  simp [List.getD_eq_getElem?_getD, hx]
theorem for_same {α : Type} {body : Slots → Store → SR} {tg : Tg} {kl : List Nat} {s : Slots} {M : Store} (emb : α → Val) {xs : List α} (h : ∀ x ∈ xs, turn body tg kl (emb x) s M = .next s M) : forL body tg kl (xs.map emb) s M = .next s M := by
  have := for_allB (body := body) (tg := tg) (kl := kl) (s := s) (M := M) emb (fun _ => true) (.d .none) (xs := xs) (fun x hx => by rw [h x hx]; rfl)
  rw [this, if_pos (by simp)]
end Lw

namespace Lw
open PySem Gv
def pD (p : Int × Int) : PyData := .tuple [.int p.1, .int p.2]
def leP (p q : Int × Int) : Bool := decide (p.1 < q.1 ∨ (p.1 = q.1 ∧ p.2 ≤ q.2))
def sortP (ps : List (Int × Int)) : List (Int × Int) := ps.mergeSort leP
theorem leP_trans (a b c : Int × Int) (h1 : leP a b = true) (h2 : leP b c = true) : leP a c = true := by
  unfold leP at *
  simp only [decide_eq_true_eq] at *
  omega
theorem leP_total (a b : Int × Int) : (leP a b || leP b a) = true := by
  unfold leP
  simp only [Bool.or_eq_true, decide_eq_true_eq]
  omega
theorem leP_anti (a b : Int × Int) (h1 : leP a b = true) (h2 : leP b a = true) : a = b := by
  unfold leP at *
  simp only [decide_eq_true_eq] at *
  exact Prod.ext (by omega) (by omega)
theorem sortP_pw (ps : List (Int × Int)) : (sortP ps).Pairwise fun a b => leP a b = true := List.pairwise_mergeSort leP_trans leP_total ps
theorem sortP_perm {ps qs : List (Int × Int)} (h : ps.Perm qs) : sortP ps = sortP qs := by
  refine List.Perm.eq_of_pairwise (le := fun a b => leP a b = true) ?_ (sortP_pw ps) (sortP_pw qs) (((List.mergeSort_perm _ _).trans h).trans (List.mergeSort_perm _ _).symm)
  intro a b _ _ h1 h2
  exact leP_anti a b h1 h2
theorem sortP_mem {ps : List (Int × Int)} {p : Int × Int} : p ∈ sortP ps ↔ p ∈ ps := (List.mergeSort_perm _ _).mem_iff
theorem sortD_pairs (ps : List (Int × Int)) : sortD (ps.map pD) = (sortP ps).map pD := by
  unfold sortD sortP
  refine (List.map_mergeSort (fun a _ b _ => ?_)).symm
  have := congrFun (congrFun (PySem.W.dataLe_ii (fun p : Int × Int => p.1) (fun p : Int × Int => p.2)) a) b
  exact this.symm
def leI (a b : Int) : Bool := decide (a ≤ b)
theorem sortD_ints (ps : List Int) : sortD (ps.map .int) = (ps.mergeSort leI).map .int := by
  unfold sortD
  refine (List.map_mergeSort (fun a _ b _ => ?_)).symm
  have := congrFun (congrFun (PySem.W.dataLe_int (fun p : Int => p)) a) b
  exact this.symm
theorem sortOk_pairs (ps : List (Int × Int)) : sortOk (ps.map pD) = true := by
  unfold sortOk alikeL
  simp [pD, tupH, PySem.W.alike, PySem.W.alikeAll]
theorem sortOk_ints (ps : List Int) : sortOk (ps.map .int) = true := by
  unfold sortOk alikeL
  simp [othH, PySem.W.alike]
end Lw

namespace Lw
open PySem Gv
/-! ### inks_laid, barred, wishes_of -/
def inkRows (st : Stand) (w h m : Int) : List (List Int) := (List.range h.toNat).map fun r : Nat => (List.range w.toNat).map (inkR st w m (r : Int))
section
variable {k : Nat} {G : Nat → List Val → Store → R Val} {su : Nat → Nat → Option Bool} {me : Nat → Nat → Option Nat} {M : Store}
theorem inkP_v {st : Stand} {w m row : Int} {x : Nat} (hst : st.Ok 12) (w0 : 0 ≤ w) (hx : (x : Int) < w) :
    callV ⟨callF T wf (k + 3), G, su, me⟩ i_ink_at [.d (rowD (st.floorS w row) (st.strips m row)), .d (.int (x : Int))] M = .ok (.d (.int (inkR st w m row x))) M := by
  have hro := taken_ok (m := m) (row := row) hst w0
  have := inkat_v (k := k) (G := G) (su := su) (me := me) (M := M) (fl := st.floorS w row) (ss := st.strips m row) (x := (x : Int)) (by have := hro.sl; dsimp only at this; omega) (by omega) (by have := hro.fl; dsimp only at this; omega)
  rw [Int.toNat_natCast] at this
  exact this
theorem inkslaid_v {st : Stand} {w h g m : Int} (hst : st.Ok 12) (w0 : 0 ≤ w) (w1 : w ≤ 1000) (h0 : 0 ≤ h) (h1 : h ≤ 1000) (hm : 0 ≤ m) : callV ⟨callF T wf (k + 5), G, su, me⟩ i_inks_laid [.d (.tuple [.int w, .int h, .int g, .int m]), .d (standD st)] M = .ok (.d (picD (inkRows st w h m))) M := by
  refine callV_ok ?_ rfl
  rw [call_fn (fn := fn_inks_laid) rfl rfl]
  show fin 0 (evSs _ wf fn_inks_laid.body [some (.d (.tuple [.int w, .int h, .int g, .int m])), some (.d (standD st)), none, none, none, none] []) = _
  simp only [fn_inks_laid]
  tbr_iter [rng1_ok, upTo_eq]
  rw [for_fm [.lst []] (emb := fun r : Nat => Val.d (.int (0 + (r : Int)))) (fun r : Nat => some (.list (((List.range w.toNat).map (inkR st w m (r : Int))).map .int))) (fun acc => [.lst (acc.map .d)]) rfl (by simp; omega)]
  · tbr_iter []
    rw [fin_l0]
    unfold picD inkRows
    rw [List.filterMap_eq_map', List.map_map]
    rfl
  · intro r hr acc hacc
    have hl : (acc.map Val.d).length < 16777216 := by simp; omega
    have tk := fun M => taken_v (k := k) (G := callF T wf (k + 3)) (su := T.sub) (me := T.meth) (M := M) (h := h) (g := g) (m := m) (row := (r : Int)) hst (by omega) hm w0 w1
    rw [turn_one, Int.zero_add]
    tbr_iter [tk, rng1_ok, upTo_eq]
    rw [lc_eq (fun x : Nat => .int (inkR st w m (r : Int) x)) (fun x hx => by
      have hx := List.mem_range.mp hx
      have ik := fun M => inkP_v (k := k + 1) (G := callF T wf (k + 3)) (su := T.sub) (me := T.meth) (M := M) (m := m) (row := (r : Int)) (x := x) hst w0 (by omega)
      rw [Int.zero_add]
      tbr_iter [ik])]
    tbr_iter [appC_k hl]
    simp only [Option.toList_some, List.map_append, List.map_cons, List.map_nil, List.map_map]
    rfl
theorem linkslaid_v {st : Stand} {w h g m : Int} (hst : st.Ok 12) (w0 : 0 ≤ w) (w1 : w ≤ 1000) (h0 : 0 ≤ h) (h1 : h ≤ 1000) (hm : 0 ≤ m) : callV ⟨callF T wf (k + 5), G, su, me⟩ i_law_inks_laid [.d (.tuple [.int w, .int h, .int g, .int m]), .d (standD st)] M = .ok (.d (picD (inkRows st w h m))) M := by
  refine callV_ok ?_ rfl
  rw [call_fn (fn := fn_law_inks_laid) rfl rfl]
  show fin 0 (evSs _ wf fn_law_inks_laid.body [some (.d (.tuple [.int w, .int h, .int g, .int m])), some (.d (standD st)), none, none, none, none] []) = _
  simp only [fn_law_inks_laid]
  tbr_iter [rng1_ok, upTo_eq]
  rw [lc_eq (fun r : Nat => rowD (st.floorS w (r : Int)) (st.strips m (r : Int))) (fun r hr => by
    have tk := fun M => ltaken_v (k := k + 1) (G := callF T wf (k + 3)) (su := T.sub) (me := T.meth) (M := M) (h := h) (g := g) (m := m) (row := (r : Int)) hst (by omega) hm w0 w1
    rw [Int.zero_add]
    tbr_iter [tk])]
  tbr_iter []
  rw [List.map_map, lc_eq (emb := Val.d ∘ fun r : Nat => rowD (st.floorS w (r : Int)) (st.strips m (r : Int))) (fun r : Nat => .list (((List.range w.toNat).map (inkR st w m (r : Int))).map .int)) (fun r hr => by
    simp only [Function.comp]
    tbr_iter [rng1_ok, upTo_eq]
    rw [lc_eq (fun x : Nat => .int (inkR st w m (r : Int) x)) (fun x hx => by
      have hx := List.mem_range.mp hx
      have ik := fun M => inkR_v (k := k + 1) (G := callF T wf (k + 3)) (su := T.sub) (me := T.meth) (M := M) (m := m) (row := (r : Int)) (x := x) hst w0 (by omega)
      rw [Int.zero_add]
      tbr_iter [ik])]
    tbr_iter []
    rw [List.map_map]
    rfl)]
  tbr_iter []
  rw [fin_0]
  unfold picD inkRows
  rw [List.map_map]
  rfl
end
end Lw

namespace Lw
open PySem Gv
/-! a loop that only looks, and stops at the first that is found -/
theorem for_find {α : Type} {body : Slots → Store → SR} {tg : Tg} {kl : List Nat} {s : Slots} {M : Store} (emb : α → Val) (f : α → Option PyData) : ∀ {xs : List α}, (∀ x ∈ xs, turn body tg kl (emb x) s M = match f x with | some v => .ret (.d v) M | none => .next s M) →
    forL body tg kl (xs.map emb) s M = match xs.findSome? f with | some v => .ret (.d v) M | none => .next s M
  | [], _ => rfl
  | x :: xs, h => by
    rw [List.map_cons, forL_cons, h x (by simp), List.findSome?_cons]
    cases f x with
    | some v => rfl
    | none => exact for_find emb f fun y hy => h y (by simp [hy])
theorem for_until {α β : Type} {body : Slots → Store → SR} {tg : Tg} {kl : List Nat} (emb : α → Val) (S : β → Slots) (Z : β → Store) (f : α → Option PyData) : ∀ {xs : List α} (I : Nat → β → Prop) {b : β}, I 0 b →
    (∀ (i : Nat) (x : α), xs[i]? = some x → ∀ b, I i b → (∃ v, f x = some v ∧ turn body tg kl (emb x) (S b) (Z b) = .ret (.d v) (Z b)) ∨ (f x = none ∧ ∃ b', turn body tg kl (emb x) (S b) (Z b) = .next (S b') (Z b') ∧ I (i + 1) b')) →
    (∃ v b', xs.findSome? f = some v ∧ forL body tg kl (xs.map emb) (S b) (Z b) = .ret (.d v) (Z b')) ∨ (xs.findSome? f = none ∧ ∃ b', forL body tg kl (xs.map emb) (S b) (Z b) = .next (S b') (Z b') ∧ I xs.length b')
  | [], I, b, p, _ => .inr ⟨rfl, b, rfl, p⟩
  | x :: xs, I, b, p, h => by
    rw [List.map_cons, forL_cons, List.findSome?_cons]
    rcases h 0 x rfl b p with ⟨v, e1, e2⟩ | ⟨e1, b1, e2, q⟩
    · rw [e1, e2]; exact .inl ⟨v, b, rfl, rfl⟩
    · rw [e1, e2]
      exact for_until emb S Z f (xs := xs) (fun i => I (i + 1)) q fun i y hy => h (i + 1) y (by simpa using hy)
/-! a list of whole numbers, data or in a cell -/
def RowV (M : Store) (v : Val) (ys : List Int) : Prop := v = .d (.list (ys.map .int)) ∨ ∃ n, v = .ref n ∧ M[n]? = some (.lst (intsV ys))
theorem RowV.app {M Q : Store} {v : Val} {ys : List Int} (h : RowV M v ys) : RowV (M ++ Q) v ys := by
  rcases h with h | ⟨n, h1, h2⟩
  · exact .inl h
  · exact .inr ⟨n, h1, by rw [List.getElem?_append_left (List.getElem?_eq_some_iff.mp h2).1]; exact h2⟩
theorem RowV.at_ {M : Store} {v : Val} {ys : List Int} (h : RowV M v ys) {i : Int} (h0 : 0 ≤ i) (h1 : i < ys.length) : idxD M v (.d (.int i)) = .ok (.d (.int (ys.getD i.toNat 0))) M := by
  rcases h with rfl | ⟨n, rfl, e⟩
  · exact idx_li h0 h1
  · exact idx_rr (f := fun i : Int => Val.d (.int i)) (d := 0) e h0 h1
theorem forZ_to {β : Type} {body : Slots → Store → SR} {is kl : List Nat} {l ys : List Int} {n : Nat} (S : β → Slots) (Z : β → Store) (I : Nat → β → Prop) (hl : l.length = ys.length) (hZ : ∀ i b, I i b → (Z b)[n]? = some (.lst (intsV ys)))
    (hb : ∀ (i : Nat) (x y : Int), l[i]? = some x → ys[i]? = some y → ∀ b, I i b → ∃ b', turn body (.many is) kl (.d (.tuple [.int x, .int y])) (S b) (Z b) = .next (S b') (Z b') ∧ I (i + 1) b') :
    ∀ (f i : Nat) (b : β), i ≤ l.length → l.length - i < f → I i b → ∃ b', forZ body (.many is) kl (l.map .int) n f i (S b) (Z b) = .next (S b') (Z b') ∧ I l.length b'
  | 0, i, b, _, h, _ => by omega
  | f + 1, i, b, hi, hf, p => by
    have hc : cellAt (Z b) n i = some ((ys[i]?).map fun y => Val.d (.int y)) := by
      unfold cellAt
      rw [hZ i b p]
      unfold intsV
      simp
    unfold forZ
    rw [hc]
    by_cases hlt : i < l.length
    · have hy : ys[i]? = some (ys[i]'(by omega)) := List.getElem?_eq_getElem _
      have hx : l[i]? = some l[i] := List.getElem?_eq_getElem _
      obtain ⟨b1, e1, p1⟩ := hb i _ _ hx hy b p
      rw [hy]
      simp only [Option.map_some, List.getElem?_map, hx]
      obtain ⟨b2, e2, p2⟩ := forZ_to S Z I hl hZ hb f (i + 1) b1 (by omega) (by omega) p1
      refine ⟨b2, ?_, p2⟩
      unfold turn at e1
      have ea : asgT (.many is) (.d (.tuple [.int l[i], .int (ys[i]'(by omega))])) (S b) = setAll is [.d (.int l[i]), .d (.int (ys[i]'(by omega)))] (S b) := rfl
      rw [ea] at e1
      cases es : setAll is [.d (.int l[i]), .d (.int (ys[i]'(by omega)))] (S b) with
      | none => rw [es] at e1; cases e1
      | some s1 =>
        rw [es] at e1
        dsimp only at e1 ⊢
        cases eb : body s1 (Z b) with
        | next s2 M2 =>
          rw [eb] at e1
          have e3 : SR.next (wipe s2 kl) M2 = .next (S b1) (Z b1) := e1
          injection e3 with e4 e5
          dsimp only
          rw [e4, e5]
          exact e2
        | ret v M => rw [eb] at e1; cases e1
        | exc c s M => rw [eb] at e1; cases e1
        | bad => rw [eb] at e1; cases e1
    · have hn : ys[i]? = none := List.getElem?_eq_none_iff.mpr (by omega)
      have : i = l.length := by omega
      rw [hn]
      subst this
      exact ⟨b, rfl, p⟩
theorem zip_to {β : Type} {body : Slots → Store → SR} {is kl : List Nat} {l ys : List Int} {rv : Val} (S : β → Slots) (Z : β → Store) (I : Nat → β → Prop) (hl : l.length = ys.length) (hZ : ∀ i b, I i b → RowV (Z b) rv ys) {b0 : β} (h0 : I 0 b0)
    (hb : ∀ (i : Nat) (x y : Int), l[i]? = some x → ys[i]? = some y → ∀ b, I i b → ∃ b', turn body (.many is) kl (.d (.tuple [.int x, .int y])) (S b) (Z b) = .next (S b') (Z b') ∧ I (i + 1) b') :
    ∃ src b', zipS (Z b0) (.d (.list (l.map .int))) rv = some src ∧ forT body (.many is) kl src (S b0) (Z b0) = .next (S b') (Z b') ∧ I l.length b' := by
  rcases hZ 0 b0 h0 with rfl | ⟨n, rfl, e⟩
  · obtain ⟨b', e1, q⟩ := for_to (body := body) (tg := .many is) (kl := kl) (fun p : Int × Int => Val.d (.tuple [.int p.1, .int p.2])) S Z (xs := l.zip ys) I h0 (fun i p hp b hI => by
      rw [List.getElem?_zip_eq_some] at hp
      exact hb i p.1 p.2 hp.1 hp.2 b hI)
    refine ⟨_, b', rfl, ?_, by rw [List.length_zip, ← hl, Nat.min_self] at q; exact q⟩
    show forL body (.many is) kl _ (S b0) (Z b0) = _
    rw [← e1]
    congr 1
    clear e1 q hb hZ h0
    induction l generalizing ys with
    | nil => rfl
    | cons x l ih =>
      cases ys with
      | nil => simp at hl
      | cons y ys =>
        simp only [List.map_cons, List.zipWith_cons_cons, List.zip_cons_cons]
        rw [ih (by simpa using hl)]
  · have hN : ∀ i b, I i b → (Z b)[n]? = some (.lst (intsV ys)) := fun i b hI => by
      rcases hZ i b hI with h | ⟨m, h, h2⟩
      · cases h
      · cases h; exact h2
    obtain ⟨b', e1, q⟩ := forZ_to S Z I hl hN hb (l.length + 1) 0 b0 (Nat.zero_le _) (by omega) h0
    refine ⟨.zc (l.map .int) n, b', ?_, ?_, q⟩
    · unfold zipS zipD
      dsimp only
      rw [e]
    · show forZ body (.many is) kl (l.map .int) n ((l.map PyData.int).length + 1) 0 (S b0) (Z b0) = _
      rw [List.length_map]
      exact e1
end Lw

namespace Lw
open PySem Gv
/-! ### bars, wishes: the plain law -/
def barL (a b : List Int) : Option (Nat × Nat) := (List.range a.length).findSome? fun i => (List.range (a.length - (i + 1))).findSome? fun j => if a.getD i 0 = a.getD (i + 1 + j) 0 ∧ b.getD i 0 ≠ b.getD (i + 1 + j) 0 then some (i, i + 1 + j) else none
def pairD : Option (Nat × Nat) → PyData
  | none => .none
  | some p => .tuple [.int p.1, .int p.2]
def barsD (r : Nat) (p : Nat × Nat) : PyData := .tuple [.str "bars", .int r, .int p.1, .int p.2]
def wshR (r : Nat) (a b : List Int) : List (List Int) := List.zipWith (fun i p => [(r : Int), i, p]) a b
def rowsW (A B : List (List Int)) : List (List Int) := (List.range A.length).flatMap fun r => wshR r (A.getD r []) (B.getD r [])
def barF (A B : List (List Int)) (r : Nat) : Option PyData := (barL (A.getD r []) (B.getD r [])).map (barsD r)
def sortW (W : List (List Int)) : List PyData := sortD (W.eraseDups.map Gv.rowD)
def dueD (A B : List (List Int)) : PyData := match (List.range A.length).findSome? (barF A B) with
  | some d => d
  | none => .tuple [.str "wishes", .list (sortW (rowsW A B))]
/-- the wishes of the first r rows -/
def upW (A B : List (List Int)) (r : Nat) : List (List Int) := (List.range r).flatMap fun r => wshR r (A.getD r []) (B.getD r [])
theorem upW_succ (A B : List (List Int)) (r : Nat) : upW A B (r + 1) = upW A B r ++ wshR r (A.getD r []) (B.getD r []) := by
  unfold upW
  rw [List.range_succ, List.flatMap_append]
  simp
section
variable {k : Nat} {G : Nat → List Val → Store → R Val} {su : Nat → Nat → Option Bool} {me : Nat → Nat → Option Nat} {M : Store}
theorem barred_x {a b : List Int} {hv : Val} (hl : a.length = b.length) (hle : a.length ≤ 1000) (hr : RowV M hv b) : callF T wf (k + 2) i_barred [.d (.list (a.map .int)), hv] M = .ok (.d (pairD (barL a b))) M := by
  rw [call_fn (fn := fn_barred) rfl rfl]
  show fin M.length (evSs _ wf fn_barred.body [some (.d (.list (a.map .int))), some hv, none, none] M) = _
  simp only [fn_barred]
  have ix1 := fun (i : Int) (h0 : 0 ≤ i) (h1 : i < a.length) => idx_li (M := M) (xs := a) h0 h1
  have ix2 := fun (i : Int) (h0 : 0 ≤ i) (h1 : i < a.length) => hr.at_ (i := i) h0 (by omega)
  have ll : biD false .len [.d (.list (a.map .int))] M = .ok (.d (.int a.length)) M := by rw [len_l, List.length_map]
  obtain ⟨ib, eib⟩ : ∃ ib : List IS, [IS.ite (.and (.cmp .Eq (.idx (.var 0) (.var 2)) (.idx (.var 0) (.var 3))) (.cmp .NotEq (.idx (.var 1) (.var 2)) (.idx (.var 1) (.var 3)))) [
          .ret (.tup [(.var 2), (.var 3)])] []] = ib := ⟨_, rfl⟩
  rw [eib]
  tbr_iter [ll, rng1_ok, upTo_eq]
  have outer := for_find (body := evSs ⟨callF T wf (k + 1), callF T wf k, T.sub, T.meth⟩ wf [IS.forr (.one 3) (.rng [(.bin false .Add (.var 2) (.lit (.int 1))), (.bi false .len [(.var 0)])]) ib [3]]) (tg := .one 2) (kl := [2, 3]) (s := [some (.d (.list (a.map .int))), some hv, none, none]) (M := M) (fun r : Nat => Val.d (.int (0 + (r : Int))))
    (fun i => ((List.range (a.length - (i + 1))).findSome? fun j => if a.getD i 0 = a.getD (i + 1 + j) 0 ∧ b.getD i 0 ≠ b.getD (i + 1 + j) 0 then some (i, i + 1 + j) else none).map fun p => pairD (some p)) (xs := List.range (a.length : Int).toNat) (fun r hr => by
    rw [List.mem_range] at hr
    have inner := for_find (body := evSs ⟨callF T wf (k + 1), callF T wf k, T.sub, T.meth⟩ wf ib) (tg := .one 3) (kl := [3]) (s := [some (.d (.list (a.map .int))), some hv, some (.d (.int (r : Int))), none]) (M := M) (fun j : Nat => Val.d (.int ((r : Int) + 1 + (j : Int))))
      (fun j => (if a.getD r 0 = a.getD (r + 1 + j) 0 ∧ b.getD r 0 ≠ b.getD (r + 1 + j) 0 then some (r, r + 1 + j) else none).map fun p => pairD (some p)) (xs := List.range ((a.length : Int) - ((r : Int) + 1)).toNat) (fun j hj => by
      rw [List.mem_range] at hj
      have a1 := ix1 (r : Int) (by omega) (by omega)
      have a2 := ix1 ((r : Int) + 1 + (j : Int)) (by omega) (by omega)
      have b1 := ix2 (r : Int) (by omega) (by omega)
      have b2 := ix2 ((r : Int) + 1 + (j : Int)) (by omega) (by omega)
      rw [turn_one, ← eib]
      have e1 : (r : Int).toNat = r := by omega
      have e2 : ((r : Int) + 1 + (j : Int)).toNat = r + 1 + j := by omega
      have ec : ((r : Int) + 1 + (j : Int)) = (((r + 1 + j : Nat)) : Int) := by omega
      rw [show a.getD r 0 = a.getD (r : Int).toNat 0 from by rw [e1], show b.getD r 0 = b.getD (r : Int).toNat 0 from by rw [e1], show a.getD (r + 1 + j) 0 = a.getD ((r : Int) + 1 + (j : Int)).toNat 0 from by rw [e2], show b.getD (r + 1 + j) 0 = b.getD ((r : Int) + 1 + (j : Int)).toNat 0 from by rw [e2]]
      clear a1 a2
      by_cases e : a.getD (r : Int).toNat 0 = a.getD ((r : Int) + 1 + (j : Int)).toNat 0
      · by_cases e' : b.getD (r : Int).toNat 0 = b.getD ((r : Int) + 1 + (j : Int)).toNat 0
        · rw [if_neg (fun h => h.2 e')]
          tbr_iter [b1, b2, ne_eq, eq_true e, eq_true e', not_true]
          all_goals rfl
        · rw [if_pos ⟨e, e'⟩]
          tbr_iter [b1, b2, ne_eq, eq_true e, eq_false e', not_false_iff]
          try rw [ec]
          all_goals rfl
      · rw [if_neg (fun h => e h.1)]
        tbr_iter [b1, b2, eq_false e]
        all_goals rfl)
    rw [turn_one, Int.zero_add]
    have hrg : rngD [.d (.int ((r : Int) + 1)), .d (.int (a.length : Int))] = some (upTo ((r : Int) + 1) ((a.length : Int) - ((r : Int) + 1)).toNat) := rng2_ok (by omega) (by omega) (by omega) (by omega)
    have hup : upTo ((r : Int) + 1) ((a.length : Int) - ((r : Int) + 1)).toNat = (List.range ((a.length : Int) - ((r : Int) + 1)).toNat).map fun j : Nat => Val.d (.int ((r : Int) + 1 + (j : Int))) := rfl
    tbr_iter [ll, hrg, hup, inner]
    have e3 : ((a.length : Int) - ((r : Int) + 1)).toNat = a.length - (r + 1) := by omega
    rw [e3, List.map_findSome?]
    simp only [Function.comp_def]
    cases (List.range (a.length - (r + 1))).findSome? fun j => (if a.getD r 0 = a.getD (r + 1 + j) 0 ∧ b.getD r 0 ≠ b.getD (r + 1 + j) 0 then some (r, r + 1 + j) else none).map fun p => pairD (some p) with
    | none => rfl
    | some v => rfl)
  rw [outer]
  have e0 : ((a.length : Int)).toNat = a.length := by omega
  rw [e0]
  have eb : ((List.range a.length).findSome? fun i => ((List.range (a.length - (i + 1))).findSome? fun j => if a.getD i 0 = a.getD (i + 1 + j) 0 ∧ b.getD i 0 ≠ b.getD (i + 1 + j) 0 then some (i, i + 1 + j) else none).map fun p => pairD (some p)) = (barL a b).map fun p => pairD (some p) := by
    unfold barL
    rw [List.map_findSome?]
    rfl
  rw [eb]
  cases barL a b with
  | none =>
    simp only [Option.map_none]
    tbr_iter []
    exact fin_r
  | some p =>
    simp only [Option.map_some]
    tbr_iter []
    exact fin_r
end
end Lw

namespace Lw
open PySem Gv
def kT (u : List Int) : KK := .inr (u.map Sum.inl)
def dTT (us : List (List Int)) : List (KK × Val) := us.map fun u => (kT u, .d (.bool true))
def addR (us : List (List Int)) (u : List Int) : List (List Int) := if u ∈ us then us else us ++ [u]
theorem inl_inj : ∀ {a b : List Int}, a.map (Sum.inl : Int → L2.Key) = b.map Sum.inl → a = b
  | [], [], _ => rfl
  | [], _ :: _, h => by simp at h
  | _ :: _, [], h => by simp at h
  | x :: a, y :: b, h => by
    simp only [List.map_cons, List.cons.injEq, Sum.inl.injEq] at h
    rw [h.1, inl_inj h.2]
theorem kT_inj {u v : List Int} (h : kT u = kT v) : u = v := by
  unfold kT at h
  exact inl_inj (Sum.inr.inj h)
theorem dPut_R (us : List (List Int)) (u : List Int) : dPut (dTT us) (kT u) (.d (.bool true)) = dTT (addR us u) := by
  unfold dPut addR
  by_cases h : u ∈ us
  · rw [if_pos h, if_pos]
    · unfold dTT
      rw [List.map_map]
      refine List.map_congr_left fun v _ => ?_
      simp only [Function.comp]
      split <;> rfl
    · rw [List.any_eq_true]
      exact ⟨(kT u, .d (.bool true)), List.mem_map.mpr ⟨u, h, rfl⟩, by simp⟩
  · rw [if_neg h, if_neg]
    · unfold dTT
      rw [List.map_append]
      rfl
    · intro ha
      rw [List.any_eq_true] at ha
      obtain ⟨p, hp, e⟩ := ha
      obtain ⟨v, hv, rfl⟩ := List.mem_map.mp hp
      exact h (kT_inj (of_decide_eq_true e) ▸ hv)
theorem addR_mem {us : List (List Int)} {u v : List Int} : v ∈ addR us u ↔ v ∈ us ∨ v = u := by
  unfold addR
  by_cases h : u ∈ us
  · rw [if_pos h]
    exact ⟨.inl, fun h2 => h2.elim id fun e => e ▸ h⟩
  · rw [if_neg h]; simp
theorem addR_nd {us : List (List Int)} {u : List Int} (h : us.Nodup) : (addR us u).Nodup := by
  unfold addR
  by_cases c : u ∈ us
  · rwa [if_pos c]
  · rw [if_neg c, List.nodup_append]
    exact ⟨h, by simp, fun a ha b hb e => c (by rw [List.mem_singleton] at hb; rw [← hb, ← e]; exact ha)⟩
theorem addR_len (us : List (List Int)) (u : List Int) : (addR us u).length ≤ us.length + 1 := by
  unfold addR; split <;> simp
/-- the dict's rows are those of a list, each once -/
def Ups (us W : List (List Int)) : Prop := us.Nodup ∧ (∀ u, u ∈ us ↔ u ∈ W) ∧ us.length ≤ W.length
theorem Ups.nil : Ups [] [] := ⟨List.nodup_nil, fun _ => Iff.rfl, Nat.le_refl _⟩
theorem Ups.add {us W : List (List Int)} (h : Ups us W) (u : List Int) : Ups (addR us u) (W ++ [u]) := by
  refine ⟨addR_nd h.1, fun v => ?_, ?_⟩
  · rw [addR_mem, h.2.1 v]; simp
  · have := addR_len us u
    have := h.2.2
    simp only [List.length_append, List.length_cons, List.length_nil]
    omega
theorem Ups.sort {us W : List (List Int)} (h : Ups us W) : sortD (us.map Gv.rowD) = sortW W :=
  sort_perm ((List.perm_ext_iff_of_nodup h.1 (edup_nodup _ _ (Nat.le_refl _))).mpr fun a => by rw [List.mem_eraseDups, h.2.1 a])
theorem set_row {M : Store} {a : Nat} {us : List (List Int)} {x y z : Int} (h : M[a]? = some (.dct true (dTT us))) (hl : us.length < 16777216) : setD M (.ref a) (.d (.tuple [.int x, .int y, .int z])) (.d (.bool true)) = .ok (.d .none) (M.set a (.dct true (dTT (addR us [x, y, z])))) := by
  unfold setD
  dsimp only
  rw [h]
  dsimp only
  have : keyK true (.tuple [.int x, .int y, .int z]) = some (kT [x, y, z]) := rfl
  rw [this]
  dsimp only
  rw [if_pos (by unfold dTT lim; rw [List.length_map]; exact hl), dPut_R]
theorem rows_okD (l : List (List Int)) : (l.map Gv.rowD).all (okD 30) = true := by
  rw [List.all_eq_true]
  intro d hd
  obtain ⟨a, _, rfl⟩ := List.mem_map.mp hd
  show (a.map PyData.int).all (okD 29) = true
  rw [List.all_eq_true]
  intro e he
  obtain ⟨i, _, rfl⟩ := List.mem_map.mp he
  rfl
theorem sorted_rows {M : Store} {a : Nat} {us : List (List Int)} (h : M[a]? = some (.dct true (dTT us))) (hne : ∀ u ∈ us, u ≠ []) : biD true .sorted [.ref a] M = .ok (.ref M.length) (M ++ [.lst ((sortD (us.map Gv.rowD)).map .d)]) := by
  show biSorted true [.ref a] M = _
  unfold biSorted
  have e : keysOf M (.ref a) = some (us.map Gv.rowD) := by
    unfold keysOf
    dsimp only
    rw [h]
    dsimp only
    unfold dTT
    rw [List.map_map]
    congr 1
    refine List.map_congr_left fun u _ => ?_
    show PyData.tuple ((u.map (Sum.inl : Int → L2.Key)).map leafD) = _
    rw [List.map_map]
    rfl
  dsimp only
  rw [e]
  dsimp only
  rw [rows_ok hne, rows_okD]
  rfl
/-- what is told of wishes: bars, or a new list in a new tuple -/
def Told (b : Nat) (M : Store) (v : Val) (D : PyData) : Prop :=
  (v = .d D ∧ ∃ r p, D = barsD r p) ∨ ∃ q c ds, v = .ref q ∧ b ≤ q ∧ b ≤ c ∧ c < q ∧ M[q]? = some (.tup [.d (.str "wishes"), .ref c]) ∧ M[c]? = some (.lst (ds.map .d)) ∧ D = .tuple [.str "wishes", .list ds]
theorem wshR_at {r : Nat} {a b : List Int} {i : Nat} {x y : Int} (ha : a[i]? = some x) (hb : b[i]? = some y) : (wshR r a b).take (i + 1) = (wshR r a b).take i ++ [[(r : Int), x, y]] := by
  have : (wshR r a b)[i]? = some [(r : Int), x, y] := by
    unfold wshR
    rw [List.getElem?_zipWith, ha, hb]
  rw [List.take_succ, this]
  rfl
theorem een (A : List (List Int)) : (List.range A.length).zipWith (fun (k : Nat) x => Val.d (.tuple [.int (k : Int), x])) (A.map fun r => PyData.list (r.map .int)) = (List.range A.length).map fun r : Nat => Val.d (.tuple [.int (r : Int), .list ((A.getD r []).map .int)]) := by
  refine List.ext_getElem (by simp) fun i h1 h2 => ?_
  simp at h1
  simp [List.getD_eq_getElem?_getD, h1]
theorem wshR_ne {r : Nat} {a b : List Int} : ∀ u ∈ wshR r a b, u ≠ [] := fun u hu => by
  unfold wshR at hu
  obtain ⟨i, hi, e⟩ := List.mem_iff_getElem.mp hu
  rw [List.getElem_zipWith] at e
  rw [← e]
  exact fun h => nomatch h
theorem upW_ne {A B : List (List Int)} {n : Nat} : ∀ u ∈ upW A B n, u ≠ [] := fun u hu => by
  unfold upW at hu
  obtain ⟨r, _, h⟩ := List.mem_flatMap.mp hu
  exact wshR_ne u h
theorem upW_len {A B : List (List Int)} {Wd : Nat} (hA : ∀ a ∈ A, a.length ≤ Wd) : ∀ n, (upW A B n).length ≤ n * Wd
  | 0 => by simp [upW]
  | n + 1 => by
    rw [upW_succ, List.length_append]
    have h1 := upW_len (B := B) hA n
    have h2 : (wshR n (A.getD n []) (B.getD n [])).length ≤ Wd := by
      unfold wshR
      rw [List.length_zipWith]
      by_cases c : n < A.length
      · have := hA A[n] (List.getElem_mem _)
        simp [List.getD_eq_getElem?_getD, c]
        omega
      · simp [List.getD_eq_getElem?_getD, c]
    rw [Nat.succ_mul]
    omega
theorem callV_n {F : FEnv} {f : Nat} {vs : List Val} {M : Store} (h : allD vs = none) : callV F f vs M = F.call f vs M := by
  unfold callV
  rw [h]
section
variable {k : Nat}
theorem callV_row {M : Store} {G : Nat → List Val → Store → R Val} {su : Nat → Nat → Option Bool} {me : Nat → Nat → Option Nat} {a b : List Int} {rv : Val} (hl : a.length = b.length) (hle : a.length ≤ 1000) (hr : RowV M rv b) : callV ⟨callF T wf (k + 2), G, su, me⟩ i_barred [.d (.list (a.map .int)), rv] M = .ok (.d (pairD (barL a b))) M := by
  rcases hr with rfl | ⟨n, rfl, e⟩
  · exact callV_ok (barred_x hl hle (.inl rfl)) rfl
  · rw [callV_n rfl]; dsimp only
    exact barred_x hl hle (.inr ⟨n, rfl, e⟩)
end
end Lw

namespace Lw
open PySem Gv
theorem dct_0 {F : FEnv} {tk : Bool} {s : Slots} {M : Store} : evE F (.dct tk []) s M = .ok (.ref M.length) (M ++ [.dct tk []]) := by
  show dctFin M.length tk [] (M ++ [.dct tk []]) = _
  unfold dctFin
  have : (M ++ [Cell.dct tk []])[M.length]? = some (.dct tk []) := by simp
  rw [this]
  have e : pairUp [] = some [] := rfl
  rw [e]
  dsimp only
  rw [if_pos (by simp)]
  have e2 : mergeD [] = [] := rfl
  rw [e2]
  simp
theorem pairD_some (p : Nat × Nat) : pairD (some p) = .tuple [.int p.1, .int p.2] := (rfl)
theorem pairD_none : pairD none = .none := (rfl)
section
variable {k : Nat}
theorem wishesof_x {M : Store} {A B : List (List Int)} {st : Stand} {w h g m : Int} {pv : Val} (hA : inkRows st w h m = A) (hst : st.Ok 12) (w0 : 1 ≤ w) (w1 : w ≤ 40) (h0 : 1 ≤ h) (h1 : h ≤ 40) (hm : 0 ≤ m) (hB : ∀ r, r < A.length → (A.getD r []).length = (B.getD r []).length)
    (hp : ∀ r, r < A.length → ∃ rv, (∀ Q, idxD (M ++ Q) pv (.d (.int (r : Int))) = .ok rv (M ++ Q)) ∧ RowV M rv (B.getD r [])) :
    ∃ v Q, callF T wf (k + 7) i_wishes_of [.d (.tuple [.int w, .int h, .int g, .int m]), .d (standD st), pv] M = .ok v (M ++ Q) ∧ Told M.length (M ++ Q) v (dueD A B) := by
  have lA : A.length = h.toNat := by rw [← hA]; simp [inkRows]
  have lR : ∀ a ∈ A, a.length ≤ 40 := fun a ha => by
    rw [← hA] at ha
    unfold inkRows at ha
    obtain ⟨r, _, rfl⟩ := List.mem_map.mp ha
    simp
    omega
  have lG : ∀ r, (A.getD r []).length ≤ 40 := fun r => by
    by_cases c : r < A.length
    · have := lR A[r] (List.getElem_mem _)
      simpa [List.getD_eq_getElem?_getD, c] using this
    · simp [List.getD_eq_getElem?_getD, c]
  have il := fun M => inkslaid_v (k := k + 1) (G := callF T wf (k + 5)) (su := T.sub) (me := T.meth) (M := M) (st := st) (w := w) (h := h) (g := g) (m := m) hst (by omega) (by omega) (by omega) (by omega) hm
  rw [hA, show picD A = .list (A.map fun r => .list (r.map .int)) from rfl] at il
  rw [call_fnK (fn := fn_wishes_of) rfl rfl]
  show ∃ v Q, finK (evSs _ wf fn_wishes_of.body [some (.d (.tuple [.int w, .int h, .int g, .int m])), some (.d (standD st)), some pv, none, none, none, none, none, none] M) = _ ∧ _
  simp only [fn_wishes_of]
  obtain ⟨sb, esb⟩ : ∃ sb : List IS, [IS.setix (.var 3) (.tup [(.var 4), (.var 7), (.var 8)]) (.lit (.bool true))] = sb := ⟨_, rfl⟩
  rw [esb]
  obtain ⟨bd, ebd⟩ : ∃ bd : List IS, [
      IS.asg (.one 6) (.call i_barred [(.var 5), (.idx (.var 2) (.var 4))]),
      .ite (.cmp .IsNot (.var 6) (.lit .none)) [
        .ret (.bin true .Add (.tup [(.lit (.str "bars")), (.var 4)]) (.var 6))] [],
      .forr (.many [7, 8]) (.zip (.var 5) (.idx (.var 2) (.var 4))) sb [7, 8]] = bd := ⟨_, rfl⟩
  rw [ebd]
  tbr_iter [dct_0, il]
  rw [een]
  have loop := for_until (body := evSs ⟨callF T wf (k + 6), callF T wf (k + 5), T.sub, T.meth⟩ wf bd) (tg := .many [4, 5]) (kl := [4, 5, 6, 7, 8]) (fun r : Nat => Val.d (.tuple [.int (r : Int), .list ((A.getD r []).map .int)]))
    (fun _ : List (List Int) => [some (.d (.tuple [.int w, .int h, .int g, .int m])), some (.d (standD st)), some pv, some (.ref M.length), none, none, none, none, none]) (fun us => M ++ [.dct true (dTT us)]) (barF A B) (xs := List.range A.length)
    (fun r us => Ups us (upW A B r)) (b := []) Ups.nil (fun r r' hr us hus => by
      obtain ⟨hi, er⟩ := List.getElem?_eq_some_iff.mp hr
      rw [List.getElem_range] at er
      subst er
      rw [List.length_range] at hi
      obtain ⟨rv, ix, rw_⟩ := hp r hi
      have cb := fun Q : Store => callV_row (k := k + 4) (G := callF T wf (k + 5)) (su := T.sub) (me := T.meth) (M := M ++ Q) (hB r hi) (by have := lG r; omega) (rw_.app (Q := Q))
      rw [turn_two, ← ebd]
      unfold barF
      cases eb : barL (A.getD r []) (B.getD r []) with
      | some p =>
        rw [eb] at cb
        refine .inl ⟨barsD r p, rfl, ?_⟩
        tbr_iter [ix, cb, pairD_some, isnot_none, isNone, Bool.not_false]
        rfl
      | none =>
        rw [eb] at cb
        refine .inr ⟨rfl, ?_⟩
        obtain ⟨src, us2, e1, e2, q⟩ := zip_to (body := evSs ⟨callF T wf (k + 6), callF T wf (k + 5), T.sub, T.meth⟩ wf sb) (is := [7, 8]) (kl := [7, 8]) (l := A.getD r []) (ys := B.getD r []) (rv := rv)
          (fun _ : List (List Int) => [some (.d (.tuple [.int w, .int h, .int g, .int m])), some (.d (standD st)), some pv, some (.ref M.length), some (.d (.int (r : Int))), some (.d (.list ((A.getD r []).map .int))), some (.d .none), none, none]) (fun us => M ++ [.dct true (dTT us)])
          (fun j us => Ups us (upW A B r ++ (wshR r (A.getD r []) (B.getD r [])).take j)) (hB r hi) (fun j us _ => rw_.app) (b0 := us) (by rw [List.take_zero, List.append_nil]; exact hus) (fun j x y hx hy us hus => by
            have hlen : us.length < 16777216 := by
              have h1 := hus.2.2
              have h2 := upW_len (B := B) lR r
              have h3 : ((wshR r (A.getD r []) (B.getD r [])).take j).length ≤ 40 := by
                rw [List.length_take]
                have : (wshR r (A.getD r []) (B.getD r [])).length ≤ (A.getD r []).length := by unfold wshR; rw [List.length_zipWith]; omega
                have := lG r
                omega
              rw [List.length_append] at h1
              have : r * 40 ≤ 40 * 40 := Nat.mul_le_mul_right _ (by omega)
              omega
            refine ⟨addR us [(r : Int), x, y], ?_, by rw [wshR_at hx hy, ← List.append_assoc]; exact hus.add _⟩
            have sr := set_row (M := M ++ [.dct true (dTT us)]) (a := M.length) (us := us) (x := (r : Int)) (y := x) (z := y) (by simp) hlen
            rw [turn_two, ← esb]
            tbr_iter [ss_setix1, sr, set_last])
        refine ⟨us2, ?_, ?_⟩
        · tbr_iter [ix, cb, pairD_none, isnot_none, isNone, Bool.not_true, e1, e2]
        · show Ups us2 (upW A B (r + 1))
          rw [upW_succ]
          rwa [List.take_of_length_le] at q
          unfold wshR
          rw [List.length_zipWith]
          omega)
  rcases loop with ⟨v, us, e1, e2⟩ | ⟨e1, us, e2, q⟩
  · have e2' : forL (evSs ⟨callF T wf (k + 6), callF T wf (k + 5), T.sub, T.meth⟩ wf bd) (.many [4, 5]) [4, 5, 6, 7, 8] ((List.range A.length).map fun r : Nat => Val.d (.tuple [.int (r : Int), .list ((A.getD r []).map .int)])) [some (.d (.tuple [.int w, .int h, .int g, .int m])), some (.d (standD st)), some pv, some (.ref M.length), none, none, none, none, none] (M ++ [.dct true []]) = .ret (.d v) (M ++ [.dct true (dTT us)]) := e2
    rw [e2']
    refine ⟨.d v, [.dct true (dTT us)], rfl, .inl ⟨?_, ?_⟩⟩
    · unfold dueD; rw [e1]
    · unfold dueD
      rw [e1]
      obtain ⟨r, _, hr⟩ := List.exists_of_findSome?_eq_some e1
      unfold barF at hr
      rw [Option.map_eq_some_iff] at hr
      obtain ⟨p, _, rfl⟩ := hr
      exact ⟨r, p, rfl⟩
  · have e2' : forL (evSs ⟨callF T wf (k + 6), callF T wf (k + 5), T.sub, T.meth⟩ wf bd) (.many [4, 5]) [4, 5, 6, 7, 8] ((List.range A.length).map fun r : Nat => Val.d (.tuple [.int (r : Int), .list ((A.getD r []).map .int)])) [some (.d (.tuple [.int w, .int h, .int g, .int m])), some (.d (standD st)), some pv, some (.ref M.length), none, none, none, none, none] (M ++ [.dct true []]) = .next [some (.d (.tuple [.int w, .int h, .int g, .int m])), some (.d (standD st)), some pv, some (.ref M.length), none, none, none, none, none] (M ++ [.dct true (dTT us)]) := e2
    rw [e2']
    rw [List.length_range] at q
    have so := sorted_rows (M := M ++ [.dct true (dTT us)]) (a := M.length) (us := us) (by simp) (fun u hu => upW_ne u ((q.2.1 u).mp hu))
    rw [q.sort] at so
    tbr_iter [so]
    refine ⟨.ref (M.length + 2), [.dct true (dTT us), .lst ((sortW (upW A B A.length)).map .d), .tup [.d (.str "wishes"), .ref (M.length + 1)]], ?_, .inr ⟨M.length + 2, M.length + 1, sortW (upW A B A.length), rfl, by omega, by omega, by omega, ?_, ?_, ?_⟩⟩
    · simp [finK]
    · simp
    · simp
    · unfold dueD; rw [e1]; rfl
end
end Lw

namespace Lw
open PySem Gv
theorem allI_ints : ∀ ns : List Int, allI (ns.map .int) = some ns
  | [] => rfl
  | n :: ns => by
    show (allI (ns.map .int)).map (n :: ·) = _
    rw [allI_ints ns]; rfl
theorem allR_rows : ∀ {W : List (List Int)}, (∀ u ∈ W, u ≠ []) → allR (W.map Gv.rowD) = some W
  | [], _ => rfl
  | u :: W, h => by
    show ((allI (u.map .int)).bind fun ns => if ns.isEmpty then none else (allR (W.map Gv.rowD)).map (ns :: ·)) = _
    rw [allI_ints, allR_rows fun v hv => h v (by simp [hv])]
    have : u.isEmpty = false := by
      cases u with
      | nil => exact absurd rfl (h [] (by simp))
      | cons => rfl
    simp [h u (by simp)]
theorem sortset_v {M : Store} {W : List (List Int)} (h : ∀ u ∈ W, u ≠ []) (hl : W.length ≤ 2000) : biD false .sortset [.d (.list (W.map Gv.rowD))] M = .ok (.d (.list (sortW W))) M := by
  show biSortset false [.d (.list (W.map Gv.rowD))] M = _
  unfold biSortset
  have e : (lstD M (.d (.list (W.map Gv.rowD)))).bind allR = some W := allR_rows h
  dsimp only
  rw [e]
  dsimp only
  rw [if_pos hl]
  rfl
theorem pic_row {M : Store} {A : List (List Int)} {r : Nat} (hr : r < A.length) : idxD M (.d (picD A)) (.d (.int (r : Int))) = .ok (.d (.list ((A.getD r []).map .int))) M := by
  unfold picD
  have := idx_l (M := M) (map_at (fun r : List Int => PyData.list (r.map .int)) A [] (i := (r : Int)) (by omega) (by omega))
  rw [this, Int.toNat_natCast]
theorem wshR_map (r : Nat) (a b : List Int) (hl : a.length = b.length) : (List.range a.length).map (fun x => PyData.tuple [.int (r : Int), .int (a.getD x 0), .int (b.getD x 0)]) = (wshR r a b).map Gv.rowD := by
  unfold wshR
  refine List.ext_getElem (by simp; omega) fun i h1 h2 => ?_
  simp at h1
  have h3 : i < b.length := by omega
  simp [List.getD_eq_getElem?_getD, h1, h3, Gv.rowD]
section
variable {k : Nat}
theorem due_x {M : Store} {A B : List (List Int)} {pv : Val} (hH : A.length ≤ 40) (lR : ∀ a ∈ A, a.length ≤ 40) (hB : ∀ r, r < A.length → (A.getD r []).length = (B.getD r []).length)
    (hp : ∀ r : Nat, r < A.length → ∃ rv, idxD M pv (.d (.int (r : Int))) = .ok rv M ∧ RowV M rv (B.getD r [])) :
    callF T wf (k + 2) i_law_due [.d (picD A), pv] M = .ok (.d (dueD A B)) M := by
  have lG : ∀ r, (A.getD r []).length ≤ 40 := fun r => by
    by_cases c : r < A.length
    · have := lR A[r] (List.getElem_mem _)
      simpa [List.getD_eq_getElem?_getD, c] using this
    · simp [List.getD_eq_getElem?_getD, c]
  rw [call_fn (fn := fn_law_due) rfl rfl]
  show fin M.length (evSs _ wf fn_law_due.body [some (.d (picD A)), some pv, none, none, none, none, none] M) = _
  simp only [fn_law_due]
  have lp : biD false .len [.d (picD A)] M = .ok (.d (.int A.length)) M := by unfold picD; rw [len_l, List.length_map]
  obtain ⟨ib, eib⟩ : ∃ ib : List IS, [IS.ite (.and (.cmp .Eq (.idx (.idx (.var 0) (.var 3)) (.var 4)) (.idx (.idx (.var 0) (.var 3)) (.var 5))) (.cmp .NotEq (.idx (.idx (.var 1) (.var 3)) (.var 4)) (.idx (.idx (.var 1) (.var 3)) (.var 5)))) [
              .ret (.tup [(.lit (.str "bars")), (.var 3), (.var 4), (.var 5)])] []] = ib := ⟨_, rfl⟩
  rw [eib]
  obtain ⟨bd, ebd⟩ : ∃ bd : List IS, [
      IS.forr (.one 4) (.rng [(.bi false .len [(.idx (.var 0) (.var 3))])]) [
        IS.forr (.one 5) (.rng [(.bin false .Add (.var 4) (.lit (.int 1))), (.bi false .len [(.idx (.var 0) (.var 3))])]) ib [5]] [4, 5],
      .asg (.one 2) (.bin false .Add (.var 2) (.lc false [6] (.one 6) (.rng [(.bi false .len [(.idx (.var 0) (.var 3))])]) (.lit (.bool true)) (.tup [(.var 3), (.idx (.idx (.var 0) (.var 3)) (.var 6)), (.idx (.idx (.var 1) (.var 3)) (.var 6))])))] = bd := ⟨_, rfl⟩
  rw [ebd]
  tbr_iter [lp, rng1_ok, upTo_eq]
  have loop := for_until (body := evSs ⟨callF T wf (k + 1), callF T wf k, T.sub, T.meth⟩ wf bd) (tg := .one 3) (kl := [3, 4, 5]) (fun r : Nat => Val.d (.int (0 + (r : Int))))
    (fun W : List (List Int) => [some (.d (picD A)), some pv, some (.d (.list (W.map Gv.rowD))), none, none, none, none]) (fun _ => M) (barF A B) (xs := List.range (A.length : Int).toNat)
    (fun r W => W = upW A B r) (b := []) rfl (fun r r' hr W hW => by
      obtain ⟨hi, er⟩ := List.getElem?_eq_some_iff.mp hr
      rw [List.getElem_range] at er
      subst er
      rw [List.length_range] at hi
      have hi : r < A.length := by omega
      obtain ⟨rv, ix, rw_⟩ := hp r hi
      have ia := pic_row (M := M) (A := A) hi
      have hl := hB r hi
      have h40 := lG r
      rw [turn_one, Int.zero_add, ← ebd]
      obtain ⟨a, ha⟩ : ∃ a, A.getD r [] = a := ⟨_, rfl⟩
      rw [ha] at ia hl h40
      have ll : biD false .len [.d (.list (a.map .int))] M = .ok (.d (.int a.length)) M := by rw [len_l, List.length_map]
      have ix2 := fun (i : Int) (h0 : 0 ≤ i) (h1 : i < a.length) => rw_.at_ (i := i) h0 (by omega)
      have outer := for_find (body := evSs ⟨callF T wf (k + 1), callF T wf k, T.sub, T.meth⟩ wf [IS.forr (.one 5) (.rng [(.bin false .Add (.var 4) (.lit (.int 1))), (.bi false .len [(.idx (.var 0) (.var 3))])]) ib [5]]) (tg := .one 4) (kl := [4, 5]) (s := [some (.d (picD A)), some pv, some (.d (.list (W.map Gv.rowD))), some (.d (.int (r : Int))), none, none, none]) (M := M) (fun i : Nat => Val.d (.int (0 + (i : Int))))
        (fun i => ((List.range (a.length - (i + 1))).findSome? fun j => if a.getD i 0 = a.getD (i + 1 + j) 0 ∧ (B.getD r []).getD i 0 ≠ (B.getD r []).getD (i + 1 + j) 0 then some (i, i + 1 + j) else none).map (barsD r)) (xs := List.range (a.length : Int).toNat) (fun i hi => by
        rw [List.mem_range] at hi
        have inner := for_find (body := evSs ⟨callF T wf (k + 1), callF T wf k, T.sub, T.meth⟩ wf ib) (tg := .one 5) (kl := [5]) (s := [some (.d (picD A)), some pv, some (.d (.list (W.map Gv.rowD))), some (.d (.int (r : Int))), some (.d (.int (i : Int))), none, none]) (M := M) (fun j : Nat => Val.d (.int ((i : Int) + 1 + (j : Int))))
          (fun j => (if a.getD i 0 = a.getD (i + 1 + j) 0 ∧ (B.getD r []).getD i 0 ≠ (B.getD r []).getD (i + 1 + j) 0 then some (i, i + 1 + j) else none).map (barsD r)) (xs := List.range ((a.length : Int) - ((i : Int) + 1)).toNat) (fun j hj => by
          rw [List.mem_range] at hj
          have b1 := ix2 (i : Int) (by omega) (by omega)
          have b2 := ix2 ((i : Int) + 1 + (j : Int)) (by omega) (by omega)
          rw [turn_one, ← eib]
          have e1 : (i : Int).toNat = i := by omega
          have e2 : ((i : Int) + 1 + (j : Int)).toNat = i + 1 + j := by omega
          have ec : ((i : Int) + 1 + (j : Int)) = (((i + 1 + j : Nat)) : Int) := by omega
          rw [show a.getD i 0 = a.getD (i : Int).toNat 0 from by rw [e1], show (B.getD r []).getD i 0 = (B.getD r []).getD (i : Int).toNat 0 from by rw [e1], show a.getD (i + 1 + j) 0 = a.getD ((i : Int) + 1 + (j : Int)).toNat 0 from by rw [e2], show (B.getD r []).getD (i + 1 + j) 0 = (B.getD r []).getD ((i : Int) + 1 + (j : Int)).toNat 0 from by rw [e2]]
          by_cases e : a.getD (i : Int).toNat 0 = a.getD ((i : Int) + 1 + (j : Int)).toNat 0
          · by_cases e' : (B.getD r []).getD (i : Int).toNat 0 = (B.getD r []).getD ((i : Int) + 1 + (j : Int)).toNat 0
            · rw [if_neg (fun h => h.2 e')]
              tbr_iter [ia, ix, b1, b2, ne_eq, eq_true e, eq_true e', not_true]
              all_goals rfl
            · rw [if_pos ⟨e, e'⟩]
              tbr_iter [ia, ix, b1, b2, ne_eq, eq_true e, eq_false e', not_false_iff]
              try rw [ec]
              all_goals rfl
          · rw [if_neg (fun h => e h.1)]
            tbr_iter [ia, ix, b1, b2, eq_false e]
            all_goals rfl)
        rw [turn_one, Int.zero_add]
        have hrg : rngD [.d (.int ((i : Int) + 1)), .d (.int (a.length : Int))] = some (upTo ((i : Int) + 1) ((a.length : Int) - ((i : Int) + 1)).toNat) := rng2_ok (by omega) (by omega) (by omega) (by omega)
        have hup : upTo ((i : Int) + 1) ((a.length : Int) - ((i : Int) + 1)).toNat = (List.range ((a.length : Int) - ((i : Int) + 1)).toNat).map fun j : Nat => Val.d (.int ((i : Int) + 1 + (j : Int))) := rfl
        tbr_iter [ia, ll, hrg, hup, inner]
        have e3 : ((a.length : Int) - ((i : Int) + 1)).toNat = a.length - (i + 1) := by omega
        rw [e3, List.map_findSome?]
        simp only [Function.comp_def]
        cases (List.range (a.length - (i + 1))).findSome? fun j => (if a.getD i 0 = a.getD (i + 1 + j) 0 ∧ (B.getD r []).getD i 0 ≠ (B.getD r []).getD (i + 1 + j) 0 then some (i, i + 1 + j) else none).map (barsD r) with
        | none => rfl
        | some v => rfl)
      have e0 : ((a.length : Int)).toNat = a.length := by omega
      have eb : ((List.range a.length).findSome? fun i => ((List.range (a.length - (i + 1))).findSome? fun j => if a.getD i 0 = a.getD (i + 1 + j) 0 ∧ (B.getD r []).getD i 0 ≠ (B.getD r []).getD (i + 1 + j) 0 then some (i, i + 1 + j) else none).map (barsD r)) = (barL a (B.getD r [])).map (barsD r) := by
        unfold barL
        rw [List.map_findSome?]
        rfl
      rw [e0, eb] at outer
      unfold barF
      rw [ha]
      cases eb2 : barL a (B.getD r []) with
      | some p =>
        rw [eb2] at outer
        simp only [Option.map_some] at outer
        refine .inl ⟨barsD r p, rfl, ?_⟩
        tbr_iter [ia, ll, rng1_ok, upTo_eq, e0, outer]
      | none =>
        rw [eb2] at outer
        simp only [Option.map_none] at outer
        refine .inr ⟨rfl, upW A B (r + 1), ?_, rfl⟩
        tbr_iter [ia, ll, rng1_ok, upTo_eq, e0, outer]
        rw [lc_eq (fun x : Nat => PyData.tuple [.int (r : Int), .int (a.getD x 0), .int ((B.getD r []).getD x 0)]) (fun x hx => by
          have hx := List.mem_range.mp hx
          have b1 := ix2 (x : Int) (by omega) (by omega)
          rw [Int.toNat_natCast] at b1
          rw [Int.zero_add]
          tbr_iter [ia, ix, b1, Int.toNat_natCast])]
        have l1 : (W.map Gv.rowD).length + ((List.range a.length).map fun x : Nat => PyData.tuple [.int (r : Int), .int (a.getD x 0), .int ((B.getD r []).getD x 0)]).length ≤ 16777216 := by
          have h1 := upW_len (B := B) lR r
          have : r * 40 ≤ 40 * 40 := Nat.mul_le_mul_right _ (by omega)
          rw [hW]
          simp
          omega
        tbr_iter [l1]
        rw [wshR_map r a (B.getD r []) hl, ← List.map_append, hW, ← ha, ← upW_succ])
  have e0 : ((A.length : Int)).toNat = A.length := by omega
  rw [e0] at loop
  rcases loop with ⟨v, W, e1, e2⟩ | ⟨e1, W, e2, q⟩
  · have e2' : forL (evSs ⟨callF T wf (k + 1), callF T wf k, T.sub, T.meth⟩ wf bd) (.one 3) [3, 4, 5] ((List.range A.length).map fun r : Nat => Val.d (.int (0 + (r : Int)))) [some (.d (picD A)), some pv, some (.d (.list [])), none, none, none, none] M = .ret (.d v) M := e2
    rw [e0, e2']
    have : dueD A B = v := by unfold dueD; rw [e1]
    rw [this]
    exact fin_r
  · have e2' : forL (evSs ⟨callF T wf (k + 1), callF T wf k, T.sub, T.meth⟩ wf bd) (.one 3) [3, 4, 5] ((List.range A.length).map fun r : Nat => Val.d (.int (0 + (r : Int)))) [some (.d (picD A)), some pv, some (.d (.list [])), none, none, none, none] M = .next [some (.d (picD A)), some pv, some (.d (.list (W.map Gv.rowD))), none, none, none, none] M := e2
    rw [e0, e2']
    rw [List.length_range] at q
    have so := sortset_v (M := M) (W := W) (fun u hu => upW_ne u (q ▸ hu)) (by
      have h1 := upW_len (B := B) lR A.length
      have : A.length * 40 ≤ 40 * 40 := Nat.mul_le_mul_right _ (by omega)
      rw [q]; omega)
    tbr_iter [so]
    have : dueD A B = .tuple [.str "wishes", .list (sortW W)] := by unfold dueD; rw [e1, q]; rfl
    rw [this]
    exact fin_r
end
end Lw

namespace Lw
open PySem Gv
theorem eqv_int (a b : Int) : PyData.eqv (.int a) (.int b) = decide (a = b) := by
  simp [PyData.eqv]
  exact Bool.beq_eq_decide_eq a b
theorem eqv_ints : ∀ (r q : List Int), PyData.eqvAll (r.map .int) (q.map .int) = decide (r = q)
  | [], [] => by simp [PyData.eqvAll]
  | [], _ :: _ => by simp [PyData.eqvAll]
  | _ :: _, [] => by simp [PyData.eqvAll]
  | a :: r, b :: q => by
    rw [List.map_cons, List.map_cons, PyData.eqvAll, eqv_int, eqv_ints r q]
    by_cases h : a = b <;> simp [h]
theorem callV_sh {c c0 : Nat → List Val → Store → R Val} {su : Nat → Nat → Option Bool} {me : Nat → Nat → Option Nat} {f : Nat} {vs : List Val} {ds : List PyData} {M M' : Store} {v : Val} (h : c f vs [] = .ok v M') (hd : allD vs = some ds) : callV ⟨c, c0, su, me⟩ f vs M = .ok (v.shift M.length) (M ++ M'.map (Cell.shift M.length)) := by
  unfold callV
  rw [hd]
  simp only [h]
theorem shift0 (c : Cell) : Cell.shift 0 c = c := by
  have hv : ∀ v : Val, v.shift 0 = v := fun v => by cases v <;> rfl
  cases c with
  | lst vs =>
    show Cell.lst (vs.map (Val.shift 0)) = _
    rw [List.map_congr_left (g := id) (fun v _ => hv v), List.map_id]
  | dct t kvs => simp [Cell.shift, hv]
  | ins c fs => simp [Cell.shift, hv]
  | tup vs =>
    show Cell.tup (vs.map (Val.shift 0)) = _
    rw [List.map_congr_left (g := id) (fun v _ => hv v), List.map_id]
section
variable {k : Nat} {G : Nat → List Val → Store → R Val} {su : Nat → Nat → Option Bool} {me : Nat → Nat → Option Nat} {M : Store}
theorem lcc_tg {α : Type} {F : FEnv} {e : IE} {tg : Tg} {s0 : Slots} {M : Store} {n : Nat} {emb : α → Val} (sl : α → Slots) (g : α → PyData) {xs : List α} (hM : M[n]? = some (.lst (xs.map emb))) (ha : ∀ x, asgT tg (emb x) s0 = some (sl x))
    (he : ∀ x ∈ xs, evE F e (sl x) M = .ok (.d (g x)) M) : lcSE F (.lit (.bool true)) e tg s0 (.cel n false) M = .ok ((xs.map g).map .d) M := by
  show lcC (evE F (.lit (.bool true))) (evE F e) tg s0 n false (lenCel M n) 0 M = _
  rw [lenCel_of hM, List.length_map, lcC_filter (en := false) emb (fun _ x => emb x) (fun _ x => sl x) (fun _ _ => true) (fun _ => g) hM (fun _ _ => rfl) (fun _ x => ha x) (fun j x hx => rfl) (fun j x hx _ => he x (List.mem_of_getElem? hx)) (xs.length + 1) 0 (by omega) (by omega)]
  rw [range_filterMap xs (fun _ x => if true then some (g x) else none) (fun x => some (g x)) (fun _ _ _ => rfl)]
  congr 2
  clear hM he ha
  induction xs with
  | nil => rfl
  | cons x xs ih => simp
end
end Lw

namespace Lw
open PySem Gv
theorem eqv_rows : ∀ (a b : List (List Int)), PyData.eqvAll (a.map fun r => .list (r.map .int)) (b.map fun r => .list (r.map .int)) = decide (a = b)
  | [], [] => by simp [PyData.eqvAll]
  | [], _ :: _ => by simp [PyData.eqvAll]
  | _ :: _, [] => by simp [PyData.eqvAll]
  | r :: a, q :: b => by
    rw [List.map_cons, List.map_cons, PyData.eqvAll, eqv_rows a b, PyData.eqv, eqv_ints]
    by_cases h : r = q <;> simp [h]
theorem eqv_pic (a b : List (List Int)) : PyData.eqv (picD a) (picD b) = decide (a = b) := by
  unfold picD
  rw [PyData.eqv, eqv_rows]
section
variable {k : Nat}
theorem list_refd {M : Store} {a : Nat} {ds : List PyData} (h : M[a]? = some (.lst (ds.map .d))) : biD false .list [.ref a] M = .ok (.d (.list ds)) M := by
  show biList false [.ref a] M = _
  unfold biList
  dsimp only
  unfold lstD
  dsimp only
  rw [h]
  dsimp only
  rw [allD_map]
  rfl
end
end Lw

namespace Lw
open PySem Gv
theorem tape_new {ns : List Int} : mkL true [.list (ns.map .int), .int 0, .int 0] [] = .ok (.ref 0) [Tape.cell ⟨ns, 0, 0⟩] := rfl
theorem Stand.Ok.mono {st : Stand} {a b : Int} (h : st.Ok a) (hab : a ≤ b) : st.Ok b := ⟨h.fl, h.x0, h.x1, h.y0, h.y1, h.bl, h.bk, by have := h.ml; omega, h.mv, h.pl, h.pt⟩
end Lw

namespace Lw
open PySem Gv
abbrev pRows (H Wd : Nat) (F : Nat → Nat → Int) : List (List Int) := (List.range H).map fun r => (List.range Wd).map (F r)
theorem pRows_at {H Wd : Nat} {F : Nat → Nat → Int} {r : Nat} (hr : r < H) : (pRows H Wd F).getD r [] = (List.range Wd).map (F r) := by
  simp [List.getD_eq_getElem?_getD, hr]
/-! ### pictures that lie in cells -/
def PicAt (M : Store) (p : Nat) (rs : List Nat) (rows : List (List Int)) : Prop :=
  M[p]? = some (.lst (rs.map .ref)) ∧ rs.length = rows.length ∧ ∀ i, i < rs.length → M[rs.getD i 0]? = some (.lst (intsV (rows.getD i [])))
theorem PicAt.of {M M' : Store} {p : Nat} {rs : List Nat} {rows : List (List Int)} (h : PicAt M p rs rows) (e : ∀ i, i < M.length → M'[i]? = M[i]?) : PicAt M' p rs rows := by
  obtain ⟨a, b, c⟩ := h
  have up : ∀ {i : Nat} {x : Cell}, M[i]? = some x → M'[i]? = some x := fun {i x} h => by rw [e i (List.getElem?_eq_some_iff.mp h).1]; exact h
  exact ⟨up a, b, fun i hi => up (c i hi)⟩
theorem PicAt.viewd {M : Store} {p : Nat} {rs : List Nat} {rows : List (List Int)} (h : PicAt M p rs rows) : view M (.ref p) = some (picD rows) :=
  view_rows h.1 h.2.1 fun i r hr => by
    obtain ⟨hi, e⟩ := List.getElem?_eq_some_iff.mp hr
    have := h.2.2 i hi
    rw [List.getD_eq_getElem?_getD, List.getElem?_eq_getElem hi] at this
    rw [← e]
    exact this
theorem PicAt.row {M : Store} {p : Nat} {rs : List Nat} {rows : List (List Int)} {i : Nat} (h : PicAt M p rs rows) (hi : i < rows.length) : idxD M (.ref p) (.d (.int (i : Int))) = .ok (.ref (rs.getD i 0)) M := by
  have := idx_rr (i := (i : Int)) (d := 0) h.1 (by omega) (by rw [h.2.1]; omega)
  rw [this, Int.toNat_natCast]
theorem PicAt.rv {M : Store} {p : Nat} {rs : List Nat} {rows : List (List Int)} {i : Nat} (h : PicAt M p rs rows) (hi : i < rows.length) : RowV M (.ref (rs.getD i 0)) (rows.getD i []) := .inr ⟨_, rfl, h.2.2 i (by rw [h.2.1]; exact hi)⟩
abbrev cellP (Wd r x : Nat) (P : Nat → Nat → Int) (v : Int) : Cell := .lst (intsV ((List.range Wd).map fun b => if b = x then v else P r b))
theorem PicAt.put {M : Store} {p : Nat} {rs : List Nat} {H Wd r x : Nat} {P : Nat → Nat → Int} {v : Int} (h : PicAt M p rs (pRows H Wd P)) (hr : r < H) (hx : x < Wd) (hd : rs.Nodup) (hp : p ∉ rs) :
    setD M (.ref (rs.getD r 0)) (.d (.int (x : Int))) (.d (.int v)) = .ok (.d .none) (M.set (rs.getD r 0) (cellP Wd r x P v)) ∧ PicAt (M.set (rs.getD r 0) (cellP Wd r x P v)) p rs (pRows H Wd fun a b => if a = r ∧ b = x then v else P a b) ∧ rs.getD r 0 ∈ rs := by
  have hl : rs.length = H := by rw [h.2.1]; simp
  have hc := h.2.2 r (by omega)
  rw [pRows_at hr] at hc
  have hin : rs.getD r 0 ∈ rs := by
    rw [List.getD_eq_getElem?_getD, List.getElem?_eq_getElem (by omega)]
    exact List.getElem_mem _
  refine ⟨?_, ⟨?_, by rw [hl]; simp, fun i hi => ?_⟩, hin⟩
  · have hlen : (intsV ((List.range Wd).map (P r))).length = Wd := by simp [intsV]
    have : (intsV ((List.range Wd).map (P r))).set x (.d (.int v)) = intsV ((List.range Wd).map fun b => if b = x then v else P r b) := by
      refine List.ext_getElem (by simp [intsV]) fun i h1 h2 => ?_
      simp [intsV, List.getElem_set]
      by_cases c : x = i
      · simp [c]
      · rw [if_neg c, if_neg (fun z => c z.symm)]
    have q := setD_l (v := .d (.int v)) (k := (x : Int)) (j := x) hc (by
      rw [hlen]
      unfold ixN
      rw [if_pos (by omega), if_pos (by omega), Int.toNat_natCast])
    rw [q, this]
  · rw [List.getElem?_set_ne (by rintro rfl; exact hp hin)]
    exact h.1
  · have hi' : i < H := by omega
    rw [pRows_at hi']
    by_cases c : i = r
    · subst c
      rw [List.getElem?_set_self (List.getElem?_eq_some_iff.mp hc).1]
      simp
    · rw [List.getElem?_set_ne (fun e => c (by
        rw [List.getD_eq_getElem?_getD, List.getD_eq_getElem?_getD, List.getElem?_eq_getElem (by omega), List.getElem?_eq_getElem (by omega)] at e
        exact ((List.getElem_inj hd).mp e).symm))]
      have := h.2.2 i (by omega)
      rw [pRows_at hi'] at this
      rw [this]
      simp [c]
/-! ### new lists of new lists -/
theorem lc_new {α : Type} {F : FEnv} {e : IE} {i : Nat} {s0 : Slots} {M : Store} {emb : α → Val} (row : α → List Val) : ∀ {xs : List α} (Q : Store), (∀ x ∈ xs, ∀ Q, evE F e (s0.set i (some (emb x))) (M ++ Q) = .ok (.ref (M ++ Q).length) (M ++ Q ++ [.lst (row x)])) →
    lcE F (.lit (.bool true)) e (.one i) s0 (xs.map emb) (M ++ Q) = .ok ((List.range xs.length).map fun k => .ref ((M ++ Q).length + k)) (M ++ Q ++ xs.map fun x => .lst (row x))
  | [], Q, _ => by simp [lcE, lcL]
  | x :: xs, Q, h => by
    have h1 := h x (by simp) Q
    have h2 := lc_new row (xs := xs) (Q ++ [.lst (row x)]) fun y hy => h y (by simp [hy])
    unfold lcE at *
    rw [List.map_cons]
    unfold lcL
    have ea : asgT (.one i) (emb x) s0 = some (s0.set i (some (emb x))) := rfl
    rw [ea]
    dsimp only
    have ec : evE F (.lit (.bool true)) (s0.set i (some (emb x))) (M ++ Q) = .ok (.d (.bool true)) (M ++ Q) := rfl
    rw [ec]
    dsimp only
    rw [h1, bind_k, List.append_assoc, h2, bind_k]
    congr 1
    · rw [List.length_cons, List.range_succ_eq_map, List.map_cons, List.map_map]
      congr 1
      refine List.map_congr_left fun k _ => ?_
      simp only [Function.comp, List.length_append, List.length_cons, List.length_nil]
      congr 1
      omega
    · simp
end Lw

namespace Lw
open PySem Gv
theorem Told.shift {Q : Store} {v : Val} {D : PyData} (h : Told 0 Q v D) (M : Store) : Told M.length (M ++ Q.map (Cell.shift M.length)) (v.shift M.length) D := by
  have up : ∀ {i : Nat} {c : Cell}, Q[i]? = some c → (M ++ Q.map (Cell.shift M.length))[i + M.length]? = some (c.shift M.length) := fun {i c} e => by
    rw [List.getElem?_append_right (by omega), Nat.add_sub_cancel, List.getElem?_map, e]; rfl
  rcases h with ⟨rfl, h2⟩ | ⟨q, c, ds, rfl, _, _, hcq, h1, h2, h3⟩
  · exact .inl ⟨rfl, h2⟩
  · refine .inr ⟨q + M.length, c + M.length, ds, rfl, by omega, by omega, by omega, up h1, ?_, h3⟩
    have e : (Cell.lst (ds.map .d)).shift M.length = .lst (ds.map .d) := by
      show Cell.lst ((ds.map Val.d).map (Val.shift M.length)) = _
      rw [List.map_map]; rfl
    rw [← e]
    exact up h2
theorem Told.view {b : Nat} {M : Store} {v : Val} {D : PyData} (h : Told b M v D) : view M v = some D := by
  rcases h with ⟨rfl, h2⟩ | ⟨q, c, ds, rfl, _, _, _, h1, h2, rfl⟩
  · rfl
  · show frz 0 8 M (.ref q) = _
    unfold frz
    rw [if_neg (by omega), h1]
    dsimp only
    have e : frz 0 7 M (.ref c) = some (.list ds) := by
      unfold frz
      rw [if_neg (by omega), h2]
      dsimp only
      rw [frz_map]
      rfl
    have e0 : frz 0 7 M (.d (.str "wishes")) = some (.str "wishes") := rfl
    rw [List.mapM_cons, e0, List.mapM_cons, e]
    rfl
theorem Told.tup {b : Nat} {M : Store} {v : Val} {D : PyData} (h : Told b M v D) : isiD T.sub M v .tuple = some true := by
  rcases h with ⟨rfl, r, p, rfl⟩ | ⟨q, c, ds, rfl, _, _, _, h1, h2, rfl⟩
  · rfl
  · show (if plainTy .tuple then (tyD M (.ref q)).map fun u => decide (u = .tuple) || (decide (Ty.tuple = .int) && decide (u = .bool)) else none) = _
    unfold tyD
    dsimp only
    rw [h1]
    rfl
theorem due_okD (A B : List (List Int)) : okD 30 (dueD A B) = true := by
  have s1 : PyData.strOk "bars" = true := by kernel_rfl
  have s2 : PyData.strOk "wishes" = true := by kernel_rfl
  unfold dueD
  cases e : (List.range A.length).findSome? (barF A B) with
  | some d =>
    obtain ⟨r, _, hr⟩ := List.exists_of_findSome?_eq_some e
    unfold barF at hr
    rw [Option.map_eq_some_iff] at hr
    obtain ⟨p, _, rfl⟩ := hr
    simp [barsD, okD, s1]
  | none =>
    have : (sortW (rowsW A B)).all (okD 28) = true := by
      rw [List.all_eq_true]
      intro d hd
      unfold sortW sortD at hd
      obtain ⟨u, _, rfl⟩ := List.mem_map.mp ((List.mergeSort_perm _ _).mem_iff.mp hd)
      exact okD_mapT (n := 27) (fun i => rfl) u
    simp only [okD, List.all_cons, List.all_nil, s2, this, Bool.and_self]
theorem ne_told {b : Nat} {M : Store} {v : Val} {A B : List (List Int)} (h : Told b M v (dueD A B)) : cmpD M .NotEq v (.d (dueD A B)) = bl false M := by
  have e : eqD M v (.d (dueD A B)) = some true := by
    unfold eqD
    rw [h.view, view_d]
    dsimp only
    rw [due_okD, Bool.and_self, if_pos rfl, eqv_self (due_okD A B)]
  show (match eqD M v (.d (dueD A B)) with | some b => bl (!b) M | none => .bad) = _
  rw [e]
  rfl
theorem ne_pic35 {M : Store} {p : Nat} {rs : List Nat} {B : List (List Int)} (hP : PicAt M p rs B) : cmpD M .NotEq (.d (picD B)) (.ref p) = bl false M := by
  have e : eqD M (.d (picD B)) (.ref p) = some true := by
    unfold eqD
    rw [hP.viewd, view_d]
    dsimp only
    rw [pic_okD _ 27, Bool.and_self, if_pos rfl, eqv_pic, decide_eq_true rfl]
  show (match eqD M (.d (picD B)) (.ref p) with | some b => bl (!b) M | none => .bad) = _
  rw [e]
  rfl
theorem s_bw {M : Store} : cmpD M .Eq (.d (.str "bars")) (.d (.str "wishes")) = bl false M := by kernel_rfl
theorem s_ww {M : Store} : cmpD M .Eq (.d (.str "wishes")) (.d (.str "wishes")) = bl true M := by kernel_rfl
theorem isi_lst {sub : Nat → Nat → Option Bool} {M : Store} {c : Nat} {vs : List Val} (h : M[c]? = some (.lst vs)) : isiD sub M (.ref c) .list = some true := by
  show (if plainTy .list then (tyD M (.ref c)).map fun u => decide (u = .list) || (decide (Ty.list = .int) && decide (u = .bool)) else none) = _
  unfold tyD
  dsimp only
  rw [h]
  rfl
theorem tup_at {M : Store} {q i : Nat} {vs : List Val} {v : Val} (h : M[q]? = some (.tup vs)) (e : atI vs (i : Int) = some v) : idxD M (.ref q) (.d (.int (i : Int))) = .ok v M := by
  show (match M[q]? with
    | some (.lst vs) => (match atI vs (i : Int) with | some v => R.ok v M | none => .bad)
    | some (.dct false kvs) => (match dGet kvs (.inl (.inl (i : Int))) with | some v => .ok v M | none => .bad)
    | some (.tup vs) => (match atI vs (i : Int) with | some v => .ok v M | none => .bad)
    | _ => .bad) = _
  rw [h]
  dsimp only
  rw [e]
theorem sortW_len (W : List (List Int)) : (sortW W).length ≤ W.length := by
  unfold sortW sortD
  rw [(List.mergeSort_perm _ _).length_eq, List.length_map]
  have key : ∀ (n : Nat) (l : List (List Int)), l.length ≤ n → l.eraseDups.length ≤ l.length := by
    intro n
    induction n with
    | zero =>
      intro l h
      have : l = [] := List.eq_nil_of_length_eq_zero (by omega)
      subst this
      simp
    | succ n ih =>
      intro l h
      cases l with
      | nil => simp
      | cons a l =>
        rw [List.eraseDups_cons, List.length_cons, List.length_cons]
        have h2 := List.length_filter_le (fun b => !b == a) l
        rw [List.length_cons] at h
        have := ih (l.filter fun b => !b == a) (by omega)
        omega
  exact key _ W (Nat.le_refl _)
abbrev tail35 : List IS := [
      .asg (.one 9) (.lc false [12] (.one 12) (.cseq false (.var 7)) (.lit (.bool true)) (.bi false .list [(.var 12)])),
      .asg (.one 10) (.call i_law_due [(.var 5), (.var 7)]),
      .asg (.one 11) (.call i_wishes_of [(.var 3), (.var 4), (.var 9)]),
      .ite (.or (.not (.isi (.var 11) .tuple)) (.or (.cmp .NotEq (.var 11) (.var 10)) (.cmp .NotEq (.var 9) (.var 7)))) [
        .ret (.lit (.bool false))] [],
      .ite (.cmp .Eq (.idx (.var 11) (.lit (.int 0))) (.lit (.str "wishes"))) [
        .ite (.or (.not (.isi (.idx (.var 11) (.lit (.int 1))) .list)) (.not (.bi false .all [(.lc false [14] (.one 14) (.cseq false (.idx (.var 11) (.lit (.int 1)))) (.lit (.bool true)) (.isi (.var 14) .tuple))]))) [
          .ret (.lit (.bool false))] [],
        .app (.idx (.var 11) (.lit (.int 1))) (.tup [(.lit (.int 0)), (.lit (.int 0)), (.lit (.int 0))]),
        .ite (.cmp .NotEq (.call i_wishes_of [(.var 3), (.var 4), (.var 7)]) (.var 10)) [
          .ret (.lit (.bool false))] []] []]
theorem tail35_ok {M : Store} {ns : List Int} {tn s6 : Option Val} {w h g m : Int} {st : Stand} {P : Nat → Nat → Int} {p : Nat} {rs : List Nat} (hst : st.Ok 12) (w0 : 1 ≤ w) (w1 : w ≤ 40) (h0 : 1 ≤ h) (h1 : h ≤ 40) (hm : 0 ≤ m) (hP : PicAt M p rs (pRows h.toNat w.toNat P)) :
    ∃ s' M', evSs ⟨callF T wf 29, callF T wf 28, T.sub, T.meth⟩ wf tail35 [some (.scr ns), some (.ref 0), tn, some (.d (.tuple [.int w, .int h, .int g, .int m])), some (.d (standD st)), some (.d (picD (inkRows st w h m))), s6, some (.ref p), none, none, none, none, none, none, none] M = .next s' M' ∧
      wipe s' [2, 3, 4, 5, 6, 7, 8, 9, 10, 11] = [some (.scr ns), some (.ref 0), none, none, none, none, none, none, none, none, none, none, none, none, none] ∧ ∀ i, i < M.length → M'[i]? = M[i]? := by
  obtain ⟨A, hA⟩ : ∃ A, inkRows st w h m = A := ⟨_, rfl⟩
  obtain ⟨B, eB⟩ : ∃ B, pRows h.toNat w.toNat P = B := ⟨_, rfl⟩
  have lA : A.length = h.toNat := by rw [← hA]; simp [inkRows]
  have lB : B.length = h.toNat := by rw [← eB]; simp
  have lR : ∀ a ∈ A, a.length ≤ 40 := fun a ha => by
    rw [← hA] at ha
    unfold inkRows at ha
    obtain ⟨r, _, rfl⟩ := List.mem_map.mp ha
    simp
    omega
  have hB : ∀ r, r < A.length → (A.getD r []).length = (B.getD r []).length := fun r hr => by
    have hr : r < h.toNat := by omega
    rw [← eB, pRows_at hr, ← hA]
    unfold inkRows
    simp [List.getD_eq_getElem?_getD, hr]
  rw [eB] at hP
  rw [hA]
  -- the copy
  have hrl : rs.length = h.toNat := by rw [hP.2.1, lB]
  have ers : rs.map Val.ref = (List.range h.toNat).map fun i => Val.ref (rs.getD i 0) := by
    refine List.ext_getElem (by simp [hrl]) fun i h1 h2 => ?_
    have : i < rs.length := by simpa using h1
    simp [List.getD_eq_getElem?_getD, this]
  have hM1 : M[p]? = some (.lst ((List.range h.toNat).map fun i => Val.ref (rs.getD i 0))) := by rw [← ers]; exact hP.1
  have cp := lcc_eq (F := ⟨callF T wf 29, callF T wf 28, T.sub, T.meth⟩) (e := .bi false .list [(.var 12)]) (i := 12) (s0 := [some (.scr ns), some (.ref 0), tn, some (.d (.tuple [.int w, .int h, .int g, .int m])), some (.d (standD st)), some (.d (picD A)), s6, some (.ref p), none, none, none, none, none, none, none]) (fun r : Nat => PyData.list ((B.getD r []).map .int)) hM1 (fun r hr => by
    have hr := List.mem_range.mp hr
    have hrow := hP.2.2 r (by omega)
    rw [intsV_map] at hrow
    have e1 := list_refd hrow
    tbr_iter [e1])
  have ePic : PyData.list ((List.range h.toNat).map fun r : Nat => PyData.list ((B.getD r []).map .int)) = picD B := by
    unfold picD
    congr 1
    refine List.ext_getElem (by simp [lB]) fun i h1 h2 => ?_
    have : i < B.length := by simpa using h2
    simp [List.getD_eq_getElem?_getD, this]
  have du := due_x (k := 27) (M := M) (A := A) (B := B) (pv := .ref p) (by omega) lR hB (fun r hr => ⟨_, hP.row (by omega), hP.rv (by omega)⟩)
  have dv : callV ⟨callF T wf 29, callF T wf 28, T.sub, T.meth⟩ i_law_due [.d (picD A), .ref p] M = .ok (.d (dueD A B)) M := by
    rw [callV_n rfl]; dsimp only; exact du
  obtain ⟨v0, Q0, ew, t0⟩ := wishesof_x (k := 22) (M := []) (g := g) (pv := .d (picD B)) hA hst w0 w1 h0 h1 hm hB (fun r hr => ⟨_, fun Q => pic_row (by omega), .inl rfl⟩)
  rw [List.nil_append] at ew t0
  have wv := callV_sh (c0 := callF T wf 28) (su := T.sub) (me := T.meth) (M := M) ew rfl
  have t1 := t0.shift M
  obtain ⟨Q1, eQ1⟩ : ∃ Q1, Q0.map (Cell.shift M.length) = Q1 := ⟨_, rfl⟩
  obtain ⟨v1, ev1⟩ : ∃ v1, v0.shift M.length = v1 := ⟨_, rfl⟩
  rw [eQ1, ev1] at t1 wv
  clear t0 ew eQ1 ev1
  have isT := t1.tup
  have n1 := ne_told t1
  have n2 := ne_pic35 (hP.of (M' := M ++ Q1) fun i hi => List.getElem?_append_left hi)
  have hMQ : (M ++ Q1)[p]? = some (.lst (rs.map .ref)) := (hP.of (M' := M ++ Q1) fun i hi => List.getElem?_append_left hi).1
  unfold tail35
  rcases t1 with ⟨rfl, r, pp, hbar⟩ | ⟨q, c, ds, rfl, hq, hc, hcq, c1, c2, hD⟩
  · rw [hbar] at n1 dv wv
    have i0 : idxD (M ++ Q1) (.d (barsD r pp)) (.d (.int 0)) = .ok (.d (.str "bars")) (M ++ Q1) := rfl
    rw [hbar] at isT
    refine ⟨[some (.scr ns), some (.ref 0), tn, some (.d (.tuple [.int w, .int h, .int g, .int m])), some (.d (standD st)), some (.d (picD A)), s6, some (.ref p), none, some (.d (picD B)), some (.d (barsD r pp)), some (.d (barsD r pp)), none, none, none], M ++ Q1, ?_, rfl, fun i hi => List.getElem?_append_left hi⟩
    tbr_iter [hM1, cp, ePic, dv, wv, isT, n1, n2, i0, s_bw]
  · have i0 : idxD (M ++ Q1) (.ref q) (.d (.int 0)) = .ok (.d (.str "wishes")) (M ++ Q1) := tup_at (i := 0) c1 rfl
    have i1 : idxD (M ++ Q1) (.ref q) (.d (.int 1)) = .ok (.ref c) (M ++ Q1) := tup_at (i := 1) c1 rfl
    have il := isi_lst (sub := T.sub) c2
    have dlen : ds.length ≤ 16777000 := by
      unfold dueD at hD
      cases e : (List.range A.length).findSome? (barF A B) with
      | some d =>
        rw [e] at hD
        obtain ⟨r, _, hr⟩ := List.exists_of_findSome?_eq_some e
        unfold barF at hr
        rw [Option.map_eq_some_iff] at hr
        obtain ⟨pp, _, rfl⟩ := hr
        have hD : barsD r pp = PyData.tuple [.str "wishes", .list ds] := hD
        unfold barsD at hD
        simp at hD
      | none =>
        rw [e] at hD
        have hD : PyData.tuple [.str "wishes", .list (sortW (rowsW A B))] = .tuple [.str "wishes", .list ds] := hD
        simp only [PyData.tuple.injEq, List.cons.injEq, PyData.list.injEq, and_true, true_and] at hD
        rw [← hD]
        have h1 := sortW_len (rowsW A B)
        have h2 : (rowsW A B).length ≤ A.length * 40 := upW_len lR A.length
        have : A.length * 40 ≤ 40 * 40 := Nat.mul_le_mul_right _ (by omega)
        omega
    have hrows : ∀ d ∈ ds, ∃ u : List PyData, d = .tuple u := by
      unfold dueD at hD
      cases e : (List.range A.length).findSome? (barF A B) with
      | some d =>
        rw [e] at hD
        obtain ⟨r, _, hr⟩ := List.exists_of_findSome?_eq_some e
        unfold barF at hr
        rw [Option.map_eq_some_iff] at hr
        obtain ⟨pp, _, rfl⟩ := hr
        have hD : barsD r pp = PyData.tuple [.str "wishes", .list ds] := hD
        unfold barsD at hD
        simp at hD
      | none =>
        rw [e] at hD
        have hD : PyData.tuple [.str "wishes", .list (sortW (rowsW A B))] = .tuple [.str "wishes", .list ds] := hD
        simp only [PyData.tuple.injEq, List.cons.injEq, PyData.list.injEq, and_true, true_and] at hD
        rw [← hD]
        intro d hd
        unfold sortW sortD at hd
        obtain ⟨u, _, rfl⟩ := List.mem_map.mp ((List.mergeSort_perm _ _).mem_iff.mp hd)
        exact ⟨_, rfl⟩
    have lt := lcc_eq (F := ⟨callF T wf 29, callF T wf 28, T.sub, T.meth⟩) (e := .isi (.var 14) .tuple) (i := 14) (s0 := [some (.scr ns), some (.ref 0), tn, some (.d (.tuple [.int w, .int h, .int g, .int m])), some (.d (standD st)), some (.d (picD A)), s6, some (.ref p), none, some (.d (picD B)), some (.d (dueD A B)), some (.ref q), none, none, none]) (fun _ : PyData => PyData.bool true) c2 (fun d hd => by
      obtain ⟨u, rfl⟩ := hrows d hd
      tbr_iter []
      rfl)
    have al : biD false .all [.d (.list (ds.map fun _ => PyData.bool true))] (M ++ Q1) = bl true (M ++ Q1) := by
      rw [Gv.all_b (xs := ds) (p := fun _ => true), show (ds.all fun _ => true) = true from List.all_eq_true.mpr fun _ _ => rfl]
    have ac := appC_k (M := M ++ Q1) (a := c) (v := .d (.tuple [.int 0, .int 0, .int 0])) (vs := ds.map .d) (by rw [List.length_map]; omega)
    obtain ⟨M2, eM2⟩ : ∃ M2, (M ++ Q1).set c (.lst (ds.map Val.d ++ [.d (.tuple [.int 0, .int 0, .int 0])])) = M2 := ⟨_, rfl⟩
    rw [eM2] at ac
    have old : ∀ i, i < M.length → M2[i]? = M[i]? := fun i hi => by
      rw [← eM2, List.getElem?_set_ne (by omega), List.getElem?_append_left hi]
    have hP2 := hP.of old
    obtain ⟨v2, Q2, ew2, t2⟩ := wishesof_x (k := 22) (M := M2) (g := g) (pv := .ref p) hA hst w0 w1 h0 h1 hm hB (fun r hr => ⟨_, fun Q => (hP2.of (M' := M2 ++ Q) fun i hi => List.getElem?_append_left hi).row (by omega), hP2.rv (by omega)⟩)
    have wv2 : callV ⟨callF T wf 29, callF T wf 28, T.sub, T.meth⟩ i_wishes_of [.d (.tuple [.int w, .int h, .int g, .int m]), .d (standD st), .ref p] M2 = .ok v2 (M2 ++ Q2) := by
      rw [callV_n rfl]; dsimp only; exact ew2
    have n3 := ne_told t2
    refine ⟨[some (.scr ns), some (.ref 0), tn, some (.d (.tuple [.int w, .int h, .int g, .int m])), some (.d (standD st)), some (.d (picD A)), s6, some (.ref p), none, some (.d (picD B)), some (.d (dueD A B)), some (.ref q), none, none, none], M2 ++ Q2, ?_, rfl, fun i hi => by
      rw [List.getElem?_append_left (by rw [← eM2, List.length_set, List.length_append]; omega), old i hi]⟩
    tbr_iter [hM1, cp, ePic, dv, wv, isT, n1, n2, i0, s_ww, i1, il, c2, lt, al, ac, wv2, n3]
end Lw

namespace Lw
open PySem Gv
theorem lstDI (a : List Int) : intsV a = a.map fun i => Val.d (.int i) := rfl
def picB35 : List IS := [
        .setix (.idx (.var 7) (.call i_law_draw [(.var 1), (.idx (.var 3) (.lit (.int 1)))])) (.call i_law_draw [(.var 1), (.idx (.var 3) (.lit (.int 0)))]) (.call i_law_draw [(.var 1), (.lit (.int 64))])]
theorem main : ∀ ns : List Int, ns.length ≤ 63 → ∃ M', callF T wf lev i_law [.scr ns] [] = .ok (.d (.bool true)) M' := by
  intro ns hl
  have : ∃ v M', callF T wf lev i_law [.scr ns] [] = .ok v M' ∧ v = .d (.bool true) := by
    refine call_ws (k := 28) fn_law rfl rfl rfl ?_
    show WS _ (evSs _ wf fn_law.body [some (.scr ns), none, none, none, none, none, none, none, none, none, none, none, none, none, none] [])
    simp only [fn_law]
    have hlim : ns.length ≤ lim := by unfold lim; omega
    obtain ⟨tl, etl⟩ : ∃ tl : List IS, tail35 = tl := ⟨_, rfl⟩
    have htl := fun (M : Store) (p : Nat) (rs : List Nat) (tn s6 : Option Val) (w h g m : Int) (st : Stand) (P : Nat → Nat → Int) => tail35_ok (M := M) (ns := ns) (tn := tn) (s6 := s6) (w := w) (h := h) (g := g) (m := m) (st := st) (P := P) (p := p) (rs := rs)
    unfold tail35 at etl
    unfold tail35 at htl
    rw [etl] at htl ⊢
    obtain ⟨pb, epb⟩ : ∃ pb : List IS, picB35 = pb := ⟨_, rfl⟩
    unfold picB35 at epb
    rw [epb]
    tbr_iter [list_s hlim, tape_new, rng1_ok, upTo_eq]
    refine ws_for (emb := fun k : Nat => .d (.int (0 + (k : Int)))) (S := fun b : Tape × Store => [some (.scr ns), some (.ref 0), none, none, none, none, none, none, none, none, none, none, none, none, none]) (Z := fun b => b.1.cell :: b.2) (I := fun _ b => True) (⟨ns, 0, 0⟩, []) rfl rfl trivial (fun i x hx b hb => ?_) (fun b hb => ?_)
    · obtain ⟨t, Q⟩ := b
      obtain ⟨hi, rfl⟩ := rng_at hx
      dsimp only at hb ⊢
      tbr_iter []
      refine ws_wipe ?_
      with_reducible refine ws_draw (by omega) (by omega) ?_
      intro d4 t1 _ _
      obtain ⟨n, en, n0, n1⟩ : ∃ n : Int, (∀ M : Store, idxD M (.d (.list [.int 12, .int 40])) (.d (.int (d4 / 3))) = .ok (.d (.int n)) M) ∧ 1 ≤ n ∧ n ≤ 40 := by
        by_cases z : d4 / 3 = 0
        · exact ⟨12, fun M => by rw [z]; rfl, by omega, by omega⟩
        · exact ⟨40, fun M => by rw [show d4 / 3 = 1 by omega]; rfl, by omega, by omega⟩
      try tbr_iter [en]
      with_reducible refine ws_frame (by omega) (by omega) ?_
      intro w h g m t2 a1 a2 a3 a4 a5 a6 a7 a8
      try tbr_iter []
      with_reducible refine ws_stand (by omega) (by omega) (by omega) (by omega) (by omega) (by omega) ?_
      intro st t4 hst0
      have hst := hst0.mono (show (6 : Int) ≤ 12 by omega)
      have li := fun M => linkslaid_v (k := 24) (G := callF T wf 28) (su := T.sub) (me := T.meth) (M := M) (st := st) (w := w) (h := h) (g := g) (m := m) hst (by omega) (by omega) (by omega) (by omega) (by omega)
      obtain ⟨A, hA⟩ : ∃ A, inkRows st w h m = A := ⟨_, rfl⟩
      have lA : A.length = h.toNat := by rw [← hA]; simp [inkRows]
      have aR : ∀ r, r < h.toNat → A.getD r [] = (List.range w.toNat).map (inkR st w m (r : Int)) := fun r hr => by
        rw [← hA]
        unfold inkRows
        simp [List.getD_eq_getElem?_getD, hr]
      rw [hA] at li
      have hsrc : ∀ M : Store, srcC false (.d (picD A)) M = .ok (.vs ((A.map fun r => PyData.list (r.map .int)).map .d)) M := fun M => rfl
      have hlen : ∀ M : Store, biD false .len [.d (picD A)] M = .ok (.d (.int A.length)) M := fun M => by unfold picD; rw [len_l, List.length_map]
      tbr_iter [li, hsrc]
      rw [List.map_map]
      refine ws_lcd (β := List Int) (fun r => .list (r.map .int)) (fun r => r.length = 16) (fun x _ t => ?_) fun Hs t5 hyp hH => ?_
      · tbr_iter [rng1_ok, upTo_eq]
        refine ws_lcd (β := Int) .int (fun p => True) (fun x _ t => ?_) fun pots t10 hyp hp => ?_
        · try tbr_iter []
          with_reducible refine ws_draw (by omega) (by omega) ?_
          intro m t' a b
          exact ⟨m, t', rfl⟩
        try tbr_iter []
        exact ⟨pots, t10, rfl, by simpa using hyp⟩
      have hHl : Hs.length = h.toNat := by omega
      have h16 : ∀ r, r < h.toNat → (Hs.getD r []).length = 16 := fun r hr => hH _ (Gv.getD_mem (by omega))
      have hr16 := fun (r x : Nat) (hr : r < h.toNat) (hx : x < w.toNat) => inkR_16 (m := m) (row := (r : Int)) (x := x) hst (w := w) (by omega) (by omega)
      obtain ⟨P, eP⟩ : ∃ P : Nat → Nat → Int, (fun r x => (Hs.getD r []).getD (inkR st w m (r : Int) x).toNat 0) = P := ⟨_, rfl⟩
      have hix : ∀ (M : Store) (r : Nat), r < h.toNat → idxD M (.d (.list (Hs.map fun r => PyData.list (r.map .int)))) (.d (.int (r : Int))) = .ok (.d (.list ((Hs.getD r []).map .int))) M := fun M r hr => by
        have := idx_l (M := M) (map_at (fun r : List Int => PyData.list (r.map .int)) Hs [] (i := (r : Int)) (by omega) (by omega))
        rw [this, Int.toNat_natCast]
      have hiA := fun (M : Store) (r : Nat) (hr : r < h.toNat) => pic_row (M := M) (A := A) (r := r) (by omega)
      have new := lc_new (F := ⟨callF T wf 29, callF T wf 28, T.sub, T.meth⟩) (e := .lc true [13] (.one 13) (.cseq false (.idx (.var 5) (.var 12))) (.lit (.bool true)) (.idx (.idx (.var 6) (.var 12)) (.var 13))) (i := 12)
        (s0 := [some (.scr ns), some (.ref 0), some (.d (.int (0 + (x : Int)))), some (.d (.tuple [.int w, .int h, .int g, .int m])), some (.d (standD st)), some (.d (picD A)), some (.d (.list (Hs.map fun r => PyData.list (r.map .int)))), none, none, none, none, none, none, none, none]) (M := t5.cell :: Q)
        (emb := fun r : Nat => Val.d (.int (0 + (r : Int)))) (fun r => intsV ((List.range w.toNat).map (P r))) (xs := List.range A.length) [] (fun r hr Q' => by
          have hr := List.mem_range.mp hr
          have hr : r < h.toNat := by omega
          rw [Int.zero_add (r : Int)]
          have i1 := fun M => hiA M r hr
          have hsrcR : ∀ (M : Store) (l : List PyData), srcC false (.d (.list l)) M = .ok (.vs (l.map .d)) M := fun M l => rfl
          have i2 := fun M => hix M r hr
          tbr_iter [i1, i2, hsrcR]
          rw [aR r hr, List.map_map, List.map_map]
          rw [lc_eq (fun x : Nat => PyData.int (P r x)) (fun x hx => by
            have hx := List.mem_range.mp hx
            have h3 := hr16 r x hr hx
            have ix := fun M => idx_li (M := M) (xs := Hs.getD r []) (i := inkR st w m (r : Int) x) (by omega) (by rw [h16 r hr]; omega)
            simp only [Function.comp]
            tbr_iter [i2, ix]
            rw [← eP])]
          tbr_iter []
          show R.ok (Val.ref (t5.cell :: (Q ++ Q')).length) ((t5.cell :: (Q ++ Q')) ++ [Cell.lst (((List.range w.toNat).map fun x => PyData.int (P r x)).map .d)]) = _
          unfold intsV
          rw [List.map_map, List.map_map]
          rfl)
      rw [List.append_nil] at new
      have mT : ∀ (vs : List Val) (M : Store), mkLVs true (allD vs) vs M = .ok (.ref M.length) (M ++ [.lst vs]) := fun vs M => mkLV_T
      tbr_iter [hlen, rng1_ok, upTo_eq, Int.toNat_natCast, new, mT]
      obtain ⟨R, eR⟩ : ∃ R : Store, (List.range A.length).map (fun x => Cell.lst (intsV ((List.range w.toNat).map (P x)))) = R := ⟨_, rfl⟩
      have lR : R.length = h.toNat := by rw [← eR, List.length_map, List.length_range, lA]
      obtain ⟨rs, ers⟩ : ∃ rs : List Nat, (List.range h.toNat).map (fun k => Q.length + 1 + k) = rs := ⟨_, rfl⟩
      have hPic : ∀ t : Tape, PicAt (t.cell :: (Q ++ R ++ [Cell.lst (rs.map .ref)])) (Q.length + 1 + h.toNat) rs (pRows h.toNat w.toNat P) := fun t => by
        refine ⟨?_, by rw [← ers]; simp, fun i hi => ?_⟩
        · rw [show Q.length + 1 + h.toNat = (Q ++ R).length + 1 by rw [List.length_append, lR]; omega, List.getElem?_cons_succ]
          simp
        · have hi' : i < h.toNat := by rw [← ers] at hi; simpa using hi
          have e1 : rs.getD i 0 = (Q.length + i) + 1 := by
            rw [← ers]
            simp [List.getD_eq_getElem?_getD, hi']
            omega
          rw [e1, List.getElem?_cons_succ, List.append_assoc, List.getElem?_append_right (by omega), Nat.add_sub_cancel_left, List.getElem?_append_left (by omega), pRows_at hi', ← eR, lA]
          simp [hi']
      have hnd : rs.Nodup := by
        rw [← ers]
        exact List.pairwise_map.mpr (List.nodup_range.imp fun {a b} h e => h (by omega))
      have hpn : Q.length + 1 + h.toNat ∉ rs := fun z => by
        rw [← ers] at z
        obtain ⟨k, hk, e⟩ := List.mem_map.mp z
        rw [List.mem_range] at hk
        omega
      have hpos : ∀ a ∈ rs, 0 < a := fun a z => by
        rw [← ers] at z
        obtain ⟨k, _, e⟩ := List.mem_map.mp z
        omega
      have e1 : (List.range (List.range A.length).length).map (fun k => Val.ref (Q.length + 1 + k)) = rs.map .ref := by rw [List.length_range, lA, ← ers, List.map_map]; rfl
      have e2 : (Q ++ R).length + 1 = Q.length + 1 + h.toNat := by rw [List.length_append, lR]; omega
      rw [eR, e1, e2]
      generalize Q ++ R ++ [Cell.lst (rs.map .ref)] = Q1 at hPic ⊢
      generalize Q.length + 1 + h.toNat = p at hPic hpn ⊢
      with_reducible refine ws_draw (by omega) (by omega) ?_
      intro dk t6 k0 k1
      obtain ⟨nn, enn, nn0, nn1⟩ : ∃ nn : Int, (∀ M : Store, idxD M (.d (.list [.int 0, .int 0, .int 1, .int 2])) (.d (.int dk)) = .ok (.d (.int nn)) M) ∧ 0 ≤ nn ∧ nn ≤ 2 := by
        rcases (show dk = 0 ∨ dk = 1 ∨ dk = 2 ∨ dk = 3 by omega) with rfl | rfl | rfl | rfl
        · exact ⟨0, fun M => rfl, by omega, by omega⟩
        · exact ⟨0, fun M => rfl, by omega, by omega⟩
        · exact ⟨1, fun M => rfl, by omega, by omega⟩
        · exact ⟨2, fun M => rfl, by omega, by omega⟩
      try tbr_iter [enn, rng1_ok, upTo_eq]
      refine ws_for (emb := fun k : Nat => .d (.int (0 + (k : Int)))) (S := fun b : Tape × Store × (Nat → Nat → Int) => [some (.scr ns), some (.ref 0), some (.d (.int (0 + (x : Int)))), some (.d (.tuple [.int w, .int h, .int g, .int m])), some (.d (standD st)), some (.d (picD A)), some (.d (.list (Hs.map fun r => PyData.list (r.map .int)))), some (.ref p), none, none, none, none, none, none, none]) (Z := fun b => b.1.cell :: b.2.1)
        (I := fun _ b => ∀ t : Tape, PicAt (t.cell :: b.2.1) p rs (pRows h.toNat w.toNat b.2.2)) (t6, Q1, P) rfl rfl hPic (fun j y hy b hb => ?_) (fun b hb => ?_)
      · obtain ⟨t7, Q2, P2⟩ := b
        dsimp only at hb ⊢
        rw [← epb]
        tbr_iter [ss_setix1]
        refine ws_wipe ?_
        with_reducible refine ws_draw (by omega) (by omega) ?_
        intro d64 t8 _ _
        try tbr_iter []
        with_reducible refine ws_draw (by omega) (by omega) ?_
        intro r2 t9 _ _
        obtain ⟨r2n, er2⟩ : ∃ r2n : Nat, (r2n : Int) = r2 := ⟨r2.toNat, by omega⟩
        subst er2
        have rw2 := (hb t9).row (i := r2n) (by simp; omega)
        try tbr_iter [rw2]
        with_reducible refine ws_draw (by omega) (by omega) ?_
        intro x2 t10 _ _
        obtain ⟨x2n, ex2⟩ : ∃ x2n : Nat, (x2n : Int) = x2 := ⟨x2.toNat, by omega⟩
        subst ex2
        have hput := fun t : Tape => (hb t).put (r := r2n) (x := x2n) (v := d64) (by omega) (by omega) hnd hpn
        obtain ⟨sd, _, hin⟩ := hput t10
        have hput2 := fun t => (hput t).2.1
        obtain ⟨cc, ecc⟩ : ∃ cc, cellP w.toNat r2n x2n P2 d64 = cc := ⟨_, rfl⟩
        rw [ecc] at sd hput2
        have hp0 := hpos _ hin
        obtain ⟨aa, eaa⟩ : ∃ aa, rs.getD r2n 0 = aa + 1 := ⟨rs.getD r2n 0 - 1, by omega⟩
        rw [eaa, List.set_cons_succ] at sd
        rw [eaa] at hput2
        rw [eaa]
        tbr_iter [sd]
        refine ⟨(t10, Q2.set aa cc, fun a b => if a = r2n ∧ b = x2n then d64 else P2 a b), rfl, fun t => ?_⟩
        have := hput2 t
        rwa [List.set_cons_succ] at this
      · obtain ⟨t7, Q2, P2⟩ := b
        dsimp only at hb ⊢
        obtain ⟨s', M', f1, f2, f3⟩ := htl (t7.cell :: Q2) p rs (some (.d (.int (0 + (x : Int))))) (some (.d (.list (Hs.map fun r => PyData.list (r.map .int))))) w h g m st P2 hst (by omega) (by omega) (by omega) (by omega) (by omega) (hb t7)
        rw [hA] at f1
        rw [f1]
        have h0 := f3 0 (by simp)
        rw [List.getElem?_cons_zero] at h0
        cases M' with
        | nil => simp at h0
        | cons c M' =>
          rw [List.getElem?_cons_zero] at h0
          cases h0
          exact ⟨(t7, M'), congrArg (fun z => SR.next z (t7.cell :: M')) f2⟩
    · obtain ⟨t, Q⟩ := b
      dsimp only
      tbr_iter []
      exact ⟨_, _, by rw [fin_ret]; exact (exit_any 0 (.bool true) (t.cell :: Q)).choose_spec, rfl⟩
  obtain ⟨v, M', e, rfl⟩ := this
  exact ⟨M', e⟩
end Lw

namespace Lw
open PySem PySem.Spec L2 Gv
theorem closing {P : Program} {w : World} {K : PySem.W.Frag} {h : Heap} {mg : Str → Option Value} {fa : Addr} (X : K.In h) (G : h.Ns mainGlobals mg) (hfa : mg ("law" : Str) = some (.ref fa)) (c : He.SaysX tx.fa (dfl.map (·.d)) tx.ts [] tx.exB w h K) :
    ∃ (K' : PySem.W.Frag) (fd : FuncData) (sp : Sp), K'.In h ∧ (∀ (s : Shared) (u : Value), BindsTo s fd ⟨[u], []⟩ [("script", u)]) ∧
      (∀ (H : Hp) (a : Addr) (ns : List Int), ns.length ≤ 63 → Only H → SqL K' H a (ns.map V.int) → sp [.ref a] H (fun v _ => v = .bl true) fun _ _ _ => False) ∧
      ∀ base : Heap, K'.In base → base.Ns mainGlobals mg → FnOk P w K' mg base (CXa P) lev fa fd ["script"] sp :=
  law_end (i := i_law) (k := lev) (wf := wf) (g := g_law) X G hfa c tx_ok dfl_ok rfl rfl rfl (fun K f fd F s v => (FunD.bindsA (ps := ["script"]) F fun _ _ _ _ _ _ us hl => match us, hl with | [_], _ => rfl) s [v] rfl) main
end Lw

open PySem PySem.W PySem.Calls PyProof.Rows
set_option maxHeartbeats 0 in
theorem PySem.Challenge.cw_glowrow_k35_wishes_of_pictures_holds : PySem.Challenge.rw_glowrow_k35_wishes_of_pictures.Holds := by
  w_on; o_law
  refine HandSHeadRun.head_any (r := OpenLaw.row PySem.Challenge.rw_glowrow_k35_wishes_of_pictures) (q := view (OpenLaw.row PySem.Challenge.rw_glowrow_k35_wishes_of_pictures).prog [29]) (H := Lw.hk) (ob := Lw.ob) (M := 9000) (loose := Lw.loose) (d := HandSHeadRun.topDef (OpenLaw.row PySem.Challenge.rw_glowrow_k35_wishes_of_pictures).prog 29) (kwd := []) Lw.ob_eq
    (by kernel_rfl) (fun s => by kernel_rfl) Lw.run (by kernel_rfl) (by kernel_rfl) (by kernel_rfl) (by rfl) (by first | assumption | decide +kernel) (by decide +kernel) ⟨rfl, rfl, rfl, rfl, rfl, by decide +kernel⟩ ?hw ?hc
  case hw => w_witness2
  case hc =>
    refine L2.walk_ofE (l := PySem.Challenge.rw_glowrow_k35_wishes_of_pictures) (n := 63) (k := Lw.lev) (x := "script") (CX := Gv.CXa (PySem.Challenge.rw_glowrow_k35_wishes_of_pictures).prog) rfl (by decide) (by kernel_rfl) ⟨rfl, by decide, by decide⟩ ?F (fun H s e s' z => Gv.cx_no H s e s' z)
    intro w mg fa h Y G hmg0
    obtain ⟨K, KX, c⟩ := Y
    have hmg : mg ("law" : PySem.Str) = some (.ref fa) := by
      have e : (HandSHeadRun.topDef (OpenLaw.row PySem.Challenge.rw_glowrow_k35_wishes_of_pictures).prog 29).name = ("law" : PySem.Str) := by kernel_rfl
      rw [← e]
      exact hmg0
    exact Lw.closing KX G hmg c
