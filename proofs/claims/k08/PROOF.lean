import PyProof.Rows.All
import Wide.All
import OpenK.AllK
import Wide.FinOn
import HandS.ForSpec
import HandS.ForMost
import HandS.Deep
import HandS.TupAny
import HandS.TupMul
import HandS.IsInst
import HandS.Wide
import HandS.Codes
import HandS.Zip
import HandS.Style
import HandS.Conv
import HandS.TupLe
import HandS.StrSplit
import HandS.Small
import HandS.Flow
import KE.GoesMore
import HandS.More
import HandS.WordsExc
import HandS.Defaults
import HandS.Head0
import HandS.Head1
import HandS.Head2
import HandS.HeadEnd
import HandS.HeadHook1
import HandS.HeadHook2
import HandS.HeadHook3
import PySem.Challenge.RW_glowrow_k08_rows_taken
set_option Elab.async false
set_option linter.all false
set_option maxRecDepth 100000
namespace Gv
open PySem

/-- a value: plain data, a place of the store, an exception held -/
inductive Val where
  | d (x : PyData) | ref (n : Nat) | exc (c : Nat) | scr (ns : List Int)
/-- what may change -/
inductive Cell where
  | lst (xs : List Val) | dct (kvs : List (PyData × Val)) | ins (c : Nat) (fs : List (Str × Val))
abbrev Store := List Cell
abbrev Slots := List (Option Val)
inductive R (α : Type) where
  | ok (a : α) (M : Store) | exc (c : Nat) (M : Store) | bad
def R.bind {α β : Type} (r : R α) (f : α → Store → R β) : R β :=
  match r with
  | .ok a M => f a M
  | .exc c M => .exc c M
  | .bad => .bad
@[simp] theorem R.bind_ok {α β : Type} (a : α) (M : Store) (f : α → Store → R β) : (R.ok a M).bind f = f a M := rfl
@[simp] theorem R.bind_exc {α β : Type} (c : Nat) (M : Store) (f : α → Store → R β) : (R.exc c M : R α).bind f = .exc c M := rfl
@[simp] theorem R.bind_bad {α β : Type} (f : α → Store → R β) : (R.bad : R α).bind f = .bad := rfl
def R.noexc {α : Type} (r : R α) : R α := match r with | .exc _ _ => .bad | r => r
@[simp] theorem R.noexc_ok {α : Type} (a : α) (M : Store) : (R.ok a M).noexc = .ok a M := rfl
@[simp] theorem R.noexc_bad {α : Type} : (R.bad : R α).noexc = .bad := rfl
@[simp] theorem R.noexc_exc {α : Type} (c : Nat) (M : Store) : (R.exc c M : R α).noexc = .bad := rfl
inductive SR where
  | next (s : Slots) (M : Store) | ret (v : Val) (M : Store) | exc (c : Nat) (s : Slots) (M : Store) | bad

def allD : List Val → Option (List PyData)
  | [] => some []
  | .d x :: r => (allD r).map (x :: ·)
  | _ :: _ => none
@[simp] theorem allD_map (xs : List PyData) : allD (xs.map Val.d) = some xs := by
  induction xs with
  | nil => rfl
  | cons x xs ih => simp [allD, ih]
/-- data read out of the store, from the place n0 on -/
def frz (n0 : Nat) : Nat → Store → Val → Option PyData
  | _, _, .d x => some x
  | n + 1, M, .ref a => if a < n0 then none else match M[a]? with
    | some (.lst vs) => (vs.mapM (frz n0 n M)).map PyData.list
    | _ => none
  | _, _, _ => none
def view (M : Store) (v : Val) : Option PyData := frz 0 8 M v
@[simp] theorem view_d (M : Store) (x : PyData) : view M (.d x) = some x := rfl
/-- a list's items, all data -/
def lstD (M : Store) : Val → Option (List PyData)
  | .d (.list xs) => some xs
  | .ref a => match M[a]? with
    | some (.lst vs) => allD vs
    | _ => none
  | _ => none
def lim : Nat := 16777216
/-- a new list -/
def mkL (al : Bool) (xs : List PyData) (M : Store) : R Val :=
  if al then .ok (.ref M.length) (M ++ [.lst (xs.map .d)]) else .ok (.d (.list xs)) M
def mkLV (al : Bool) (vs : List Val) (M : Store) : R Val :=
  match allD vs with
  | some ds => mkL al ds M
  | none => .ok (.ref M.length) (M ++ [.lst vs])

/-! ### operations on values -/
def mulOk (i j : Int) : Bool := (decide (-(2 ^ 64) < i) && decide (i < 2 ^ 64)) || (decide (-(2 ^ 64) < j) && decide (j < 2 ^ 64))
def bigB : Int := 2 ^ 250
def addD (al : Bool) (M : Store) (x y : Val) : R Val :=
  match x, y with
  | .d (.int i), .d (.int j) => .ok (.d (.int (i + j))) M
  | .d (.str a), .d (.str b) => if a.length + b.length ≤ lim then .ok (.d (.str (a ++ b))) M else .bad
  | .d (.tuple a), .d (.tuple b) => if a.length + b.length ≤ lim then .ok (.d (.tuple (a ++ b))) M else .bad
  | x, y => match lstD M x, lstD M y with
    | some a, some b => if a.length + b.length ≤ lim then mkL al (a ++ b) M else .bad
    | _, _ => .bad
def mulD (al : Bool) (M : Store) (x y : Val) : R Val :=
  match x, y with
  | .d (.int i), .d (.int j) => if mulOk i j then .ok (.d (.int (i * j))) M else .bad
  | .d (.tuple a), .d (.int k) => if !a.isEmpty && decide (2 ≤ k) && decide (k ≤ 1000) && decide (a.length ≤ 1000) then .ok (.d (.tuple (List.replicate k.toNat a).flatten)) M else .bad
  | x, .d (.int k) => match lstD M x with
    | some a => if decide (-(2 ^ 63) ≤ k) && decide (k < 2 ^ 63) && decide (a.length * k.toNat ≤ lim) then mkL al (List.replicate k.toNat a).flatten M else .bad
    | none => .bad
  | _, _ => .bad
def binD (al : Bool) (M : Store) (op : Operator) (x y : Val) : R Val :=
  match op with
  | .Add => addD al M x y
  | .Mult => mulD al M x y
  | .Sub => (match x, y with
    | .d (.int i), .d (.int j) => .ok (.d (.int (i - j))) M
    | _, _ => .bad)
  | .FloorDiv => (match x, y with
    | .d (.int i), .d (.int j) => if decide (0 < j) && decide (j < bigB) then .ok (.d (.int (i / j))) M else .bad
    | _, _ => .bad)
  | .Mod => (match x, y with
    | .d (.int i), .d (.int j) => if 0 < j then .ok (.d (.int (i % j))) M else .bad
    | _, _ => .bad)
  | .Pow => (match x, y with
    | .d (.int i), .d (.int j) => if decide (0 ≤ j) && decide (j ≤ 1000) && decide (i.natAbs ≤ 1000) then .ok (.d (.int (i ^ j.toNat))) M else .bad
    | _, _ => .bad)
  | _ => .bad
/-- data that may be compared: no dicts, at most n deep, signs of texts in their range -/
def okD : Nat → PyData → Bool
  | _, .none => true
  | _, .bool _ => true
  | _, .int _ => true
  | _, .str x => PyData.strOk x
  | n + 1, .list xs => xs.all (okD n)
  | n + 1, .tuple xs => xs.all (okD n)
  | _, _ => false
def eqD (M : Store) (x y : Val) : Option Bool :=
  match view M x, view M y with
  | some a, some b => if okD 30 a && okD 30 b then some (PyData.eqv a b) else none
  | _, _ => none
def bl (b : Bool) (M : Store) : R Val := .ok (.d (.bool b)) M
def isNone : Val → Bool
  | .d .none => true
  | _ => false
def inStr (x y : Str) : Bool := !(Builtin.Str.occurrences y x 0 y.length 1).isEmpty
def inD (M : Store) (x y : Val) : Option Bool :=
  match x, y with
  | .d (.str a), .d (.str b) => some (inStr a b)
  | x, y => match view M x, lstD M y with
    | some a, some ds => if okD 30 a && ds.all (okD 30) then some (ds.any fun z => PyData.eqv z a) else none
    | _, _ => none
def cmpD (M : Store) (op : CmpOp) (x y : Val) : R Val :=
  match op with
  | .Eq => (match eqD M x y with | some b => bl b M | none => .bad)
  | .NotEq => (match eqD M x y with | some b => bl (!b) M | none => .bad)
  | .Lt => (match x, y with | .d (.int i), .d (.int j) => bl (decide (i < j)) M | _, _ => .bad)
  | .LtE => (match x, y with | .d (.int i), .d (.int j) => bl (decide (i ≤ j)) M | _, _ => .bad)
  | .Gt => (match x, y with | .d (.int i), .d (.int j) => bl (decide (j < i)) M | _, _ => .bad)
  | .GtE => (match x, y with | .d (.int i), .d (.int j) => bl (decide (j ≤ i)) M | _, _ => .bad)
  | .Is => (match x, y with
    | x, .d .none => bl (isNone x) M
    | .d (.bool a), .d (.bool b) => bl (decide (a = b)) M
    | _, _ => .bad)
  | .IsNot => (match x, y with
    | x, .d .none => bl (!isNone x) M
    | .d (.bool a), .d (.bool b) => bl (!decide (a = b)) M
    | _, _ => .bad)
  | .In => (match inD M x y with | some b => bl b M | none => .bad)
  | .NotIn => (match inD M x y with | some b => bl (!b) M | none => .bad)
def ixN (n : Nat) (i : Int) : Option Nat := if 0 ≤ i then (if i < n then some i.toNat else none) else if -(n : Int) ≤ i then some (i + n).toNat else none
def atI {α : Type} (xs : List α) (i : Int) : Option α := (ixN xs.length i).bind fun j => xs[j]?
def idxD (M : Store) (x i : Val) : R Val :=
  match x, i with
  | .d (.list xs), .d (.int i) => (match atI xs i with | some v => .ok (.d v) M | none => .bad)
  | .d (.tuple xs), .d (.int i) => (match atI xs i with | some v => .ok (.d v) M | none => .bad)
  | .d (.str z), .d (.int i) => if z.length ≤ lim then (match atI z.cps.toList i with | some c => .ok (.d (.str ⟨#[c]⟩)) M | none => .bad) else .bad
  | .ref a, .d (.int i) => (match M[a]? with
    | some (.lst vs) => (match atI vs i with | some v => .ok v M | none => .bad)
    | _ => .bad)
  | _, _ => .bad
def sIx (n d : Nat) : Option Int → Nat
  | none => d
  | some v => if v < 0 then (v + (n : Int)).toNat else min v.toNat n
def cut {α : Type} (xs : List α) (lo hi : Option Int) : List α := (xs.drop (sIx xs.length 0 lo)).take (sIx xs.length xs.length hi - sIx xs.length 0 lo)
def part : Val → Option (Option Int)
  | .d .none => some none
  | .d (.int i) => some (some i)
  | _ => none
def slD (al : Bool) (M : Store) (x : Val) (lo hi : Option Int) : R Val :=
  match x with
  | .d (.tuple xs) => .ok (.d (.tuple (cut xs lo hi))) M
  | x => match lstD M x with
    | some xs => mkL al (cut xs lo hi) M
    | none => .bad
def revD (al : Bool) (M : Store) (x : Val) : R Val :=
  match x with
  | .d (.tuple xs) => .ok (.d (.tuple xs.reverse)) M
  | _ => .bad
inductive Ty where
  | int | bool | str | list | tuple | none_ | verr | cls (c : Nat)
  deriving DecidableEq
def tyD (M : Store) : Val → Option Ty
  | .d .none => some .none_
  | .d (.bool _) => some .bool
  | .d (.int _) => some .int
  | .d (.str _) => some .str
  | .d (.list _) => some .list
  | .d (.tuple _) => some .tuple
  | .ref a => match M[a]? with
    | some (.lst _) => some .list
    | _ => none
  | _ => none
def plainTy : Ty → Bool
  | .verr => false
  | .none_ => false
  | .cls _ => false
  | _ => true
def isiD (sub : Nat → Nat → Bool) (M : Store) (v : Val) (t : Ty) : Option Bool :=
  match v, t with
  | .exc c, .cls k => some (sub c k)
  | .exc _, .verr => some true
  | v, t => if plainTy t then (tyD M v).map fun u => decide (u = t) || (decide (t = .int) && decide (u = .bool)) else none
inductive Bf where
  | len | list | tuple | int | min2 | max2 | all | divmod
def lenD (M : Store) : Val → Option Nat
  | .d (.list xs) => some xs.length
  | .d (.tuple xs) => some xs.length
  | .d (.str x) => if x.length ≤ lim then some x.length else none
  | .ref a => match M[a]? with
    | some (.lst vs) => some vs.length
    | _ => none
  | _ => none
def allB : List PyData → Option (List Bool)
  | [] => some []
  | .bool b :: r => (allB r).map (b :: ·)
  | _ :: _ => none
def biLen (vs : List Val) (M : Store) : R Val := match vs with
  | [x] => (match lenD M x with | some n => .ok (.d (.int n)) M | none => .bad)
  | _ => .bad
def biList (al : Bool) (vs : List Val) (M : Store) : R Val := match vs with
  | [.d (.tuple xs)] => mkL al xs M
  | [.scr ns] => if ns.length ≤ lim then mkL al (ns.map .int) M else .bad
  | [x] => (match lstD M x with | some xs => mkL al xs M | none => .bad)
  | _ => .bad
def biTuple (vs : List Val) (M : Store) : R Val := match vs with
  | [.d (.tuple xs)] => .ok (.d (.tuple xs)) M
  | [x] => (match lstD M x with | some xs => .ok (.d (.tuple xs)) M | none => .bad)
  | _ => .bad
def biInt (vs : List Val) (M : Store) : R Val := match vs with
  | [.d (.int i)] => .ok (.d (.int i)) M
  | [.d (.bool b)] => .ok (.d (.int (if b then 1 else 0))) M
  | _ => .bad
def biMin (vs : List Val) (M : Store) : R Val := match vs with
  | [.d (.int i), .d (.int j)] => .ok (.d (.int (if j < i then j else i))) M
  | _ => .bad
def biMax (vs : List Val) (M : Store) : R Val := match vs with
  | [.d (.int i), .d (.int j)] => .ok (.d (.int (if j > i then j else i))) M
  | _ => .bad
def biAll (vs : List Val) (M : Store) : R Val := match vs with
  | [x] => (match (lstD M x).bind allB with | some bs => bl (bs.all id) M | none => .bad)
  | _ => .bad
def biDivmod (vs : List Val) (M : Store) : R Val := match vs with
  | [.d (.int i), .d (.int j)] => if decide (0 < j) && decide (j < 1073741824) then .ok (.d (.tuple [.int (i / j), .int (i % j)])) M else .bad
  | _ => .bad
def biD (al : Bool) (f : Bf) (vs : List Val) (M : Store) : R Val :=
  match f with
  | .len => biLen vs M
  | .list => biList al vs M
  | .tuple => biTuple vs M
  | .int => biInt vs M
  | .min2 => biMin vs M
  | .max2 => biMax vs M
  | .all => biAll vs M
  | .divmod => biDivmod vs M

/-! ### methods of lists -/
inductive Mt where
  | clear | extend | pop | popAt | insert | index
def itemsV (M : Store) : Val → Option (List Val)
  | .d (.list xs) => some (xs.map .d)
  | .ref b => (match M[b]? with | some (.lst vs) => some vs | _ => none)
  | _ => none
def findE (d : PyData) : List PyData → Option Nat
  | [] => none
  | x :: xs => if PyData.eqv x d then some 0 else (findE d xs).map (· + 1)
def mtL (m : Mt) (a : Nat) (ls : List Val) (vs : List Val) (M : Store) : R Val :=
  match m, vs with
  | .clear, [] => .ok (.d .none) (M.set a (.lst []))
  | .extend, [v] => (match itemsV M v with
    | some zs => if ls.length + zs.length ≤ lim then .ok (.d .none) (M.set a (.lst (ls ++ zs))) else .bad
    | none => .bad)
  | .pop, [] => (match ls[ls.length - 1]? with | some v => .ok v (M.set a (.lst ls.dropLast)) | none => .bad)
  | .popAt, [.d (.int i)] => if decide (-(2 ^ 62) ≤ i) && decide (i < 2 ^ 62) then (match ixN ls.length i with
    | some k => (match ls[k]? with | some v => .ok v (M.set a (.lst (ls.eraseIdx k))) | none => .bad)
    | none => .bad) else .bad
  | .insert, [.d (.int i), v] => if decide (0 ≤ i) && decide (i < 2 ^ 62) && decide (ls.length < lim) then .ok (.d .none) (M.set a (.lst (ls.take i.toNat ++ [v] ++ ls.drop i.toNat))) else .bad
  | _, _ => .bad
def mtD (m : Mt) (x : Val) (vs : List Val) (M : Store) : R Val :=
  match m, vs with
  | .index, [y] => (match lstD M x, view M y with
    | some ds, some d => if okD 30 d && ds.all (okD 30) then (match findE d ds with | some j => .ok (.d (.int (j : Nat))) M | none => .bad) else .bad
    | _, _ => .bad)
  | m, vs => (match x with
    | .ref a => (match M[a]? with | some (.lst ls) => mtL m a ls vs M | _ => .bad)
    | _ => .bad)
def isLst (M : Store) : Val → Bool
  | .d (.list _) => true
  | .ref a => (match M[a]? with | some (.lst _) => true | _ => false)
  | _ => false
/-! ### the small language -/
inductive Tg where
  | one (i : Nat) | many (is : List Nat)
inductive IE where
  | lit (x : PyData) | var (i : Nat) | toI (a : IE)
  | bin (al : Bool) (op : Operator) (a b : IE) | neg (a : IE) | not (a : IE) | and (a b : IE) | or (a b : IE)
  | cmp (op : CmpOp) (a b : IE) | chain (op op' : CmpOp) (a b c : IE) | ifx (c a b : IE)
  | tup (es : List IE) | lst (al : Bool) (es : List IE)
  | idx (a i : IE) | sl (al : Bool) (a lo hi : IE) | rev (al : Bool) (a : IE)
  | bi (al : Bool) (f : Bf) (es : List IE) | isi (a : IE) (t : Ty) | call (f : Nat) (es : List IE)
  | lc (al : Bool) (own : List Nat) (tg : Tg) (it cond elt : IE)
  | seq (a : IE) | rng (es : List IE) | enum (a : IE) | zip (a b : IE) | lrng (al : Bool) (es : List IE) | mt (m : Mt) (o : IE) (es : List IE)
inductive IS where
  | expr (e : IE) | asg (tg : Tg) (e : IE) | setix (o i e : IE) | app (o e : IE)
  | ret (e : IE) | ite (c : IE) (t e : List IS) | forr (tg : Tg) (it : IE) (b : List IS) | whil (c : IE) (b : List IS)
  | pass | rais (c : Nat) | tryas (b : List IS) (c : Nat) (i : Nat) (j : Nat)
structure Fn where
  ps : Nat
  n : Nat
  body : List IS
  keep : Bool := false
structure FEnv where
  call : Nat → List Val → Store → R Val
  sub : Nat → Nat → Bool

def setAll : List Nat → List Val → Slots → Option Slots
  | [], [], s => some s
  | i :: is, v :: vs, s => setAll is vs (s.set i (some v))
  | _, _, _ => none
def asgT (tg : Tg) (v : Val) (s : Slots) : Option Slots :=
  match tg with
  | .one i => some (s.set i (some v))
  | .many is => (match v with
    | .d (.tuple xs) => setAll is (xs.map .d) s
    | _ => none)
def wipe (s : Slots) : List Nat → Slots
  | [] => s
  | v :: vs => (wipe s vs).set v none
def Val.shift (k : Nat) : Val → Val
  | .ref n => .ref (n + k)
  | v => v
def Cell.shift (k : Nat) : Cell → Cell
  | .lst vs => .lst (vs.map (Val.shift k))
  | .dct kvs => .dct (kvs.map fun p => (p.1, p.2.shift k))
  | .ins c fs => .ins c (fs.map fun p => (p.1, p.2.shift k))
def callV (F : FEnv) (f : Nat) (vs : List Val) (M : Store) : R Val :=
  match allD vs with
  | some _ => (match F.call f vs [] with
    | .ok v M' => .ok (v.shift M.length) (M ++ M'.map (Cell.shift M.length))
    | .exc c _ => .exc c M
    | .bad => .bad)
  | none => F.call f vs M
def upTo (i : Int) (n : Nat) : List Val := (List.range n).map fun (k : Nat) => .d (.int (i + (k : Int)))
def rngD (vs : List Val) : Option (List Val) :=
  match vs with
  | [.d (.int j)] => if decide (j < 2 ^ 24) && decide (-(2 ^ 62) ≤ j) then some (upTo 0 j.toNat) else none
  | [.d (.int i), .d (.int j)] => if decide (-(2 ^ 62) ≤ i) && decide (i < 2 ^ 62) && decide (-(2 ^ 62) ≤ j) && decide (j < 2 ^ 62) && decide (j - i < 2 ^ 24) then some (upTo i (j - i).toNat) else none
  | _ => none
def seqD : Val → Option (List Val)
  | .d (.list xs) => some (xs.map .d)
  | .d (.tuple xs) => some (xs.map .d)
  | _ => none
def enumD : Val → Option (List Val)
  | .d (.list xs) => some ((List.range xs.length).zipWith (fun (k : Nat) x => Val.d (.tuple [.int (k : Int), x])) xs)
  | .d (.tuple xs) => some ((List.range xs.length).zipWith (fun (k : Nat) x => Val.d (.tuple [.int (k : Int), x])) xs)
  | _ => none
def zipD : Val → Val → Option (List Val)
  | .d (.list xs), .d (.list ys) => some (xs.zipWith (fun x y => Val.d (.tuple [x, y])) ys)
  | .d (.tuple xs), .d (.tuple ys) => some (xs.zipWith (fun x y => Val.d (.tuple [x, y])) ys)
  | _, _ => none
def lcL (cond elt : Slots → Store → R Val) (tg : Tg) (s : Slots) : List Val → Store → R (List Val)
  | [], M => .ok [] M
  | v :: vs, M => match asgT tg v s with
    | none => .bad
    | some s1 => match cond s1 M with
      | .ok (.d (.bool true)) M1 => (elt s1 M1).noexc.bind fun y M2 => (lcL cond elt tg s vs M2).bind fun ys M3 => .ok (y :: ys) M3
      | .ok (.d (.bool false)) M1 => lcL cond elt tg s vs M1
      | _ => .bad
def ofOpt {α : Type} (o : Option α) (M : Store) : R α := match o with | some a => .ok a M | none => .bad
@[simp] theorem ofOpt_some {α : Type} (a : α) (M : Store) : ofOpt (some a) M = .ok a M := rfl
@[simp] theorem ofOpt_none {α : Type} (M : Store) : ofOpt (none : Option α) M = .bad := rfl
/-- two ways, by a truth -/
def brV (x : Val) (M : Store) (f g : Store → R Val) : R Val := match x with
  | .d (.bool true) => f M
  | .d (.bool false) => g M
  | _ => .bad
mutual
def evE (F : FEnv) : IE → Slots → Store → R Val
  | .lit x, _, M => .ok (.d x) M
  | .var i, s, M => (match s[i]? with | some (some v) => .ok v M | _ => .bad)
  | .bin al op a b, s, M => (evE F a s M).bind fun x M => (evE F b s M).bind fun y M => binD al M op x y
  | .neg a, s, M => (evE F a s M).bind fun x M => (match x with | .d (.int i) => .ok (.d (.int (-i))) M | _ => .bad)
  | .not a, s, M => (evE F a s M).bind fun x M => (match x with | .d (.bool b) => bl (!b) M | _ => .bad)
  | .and a b, s, M => (evE F a s M).bind fun x M => brV x M (fun M => evE F b s M) (fun M => bl false M)
  | .or a b, s, M => (evE F a s M).bind fun x M => brV x M (fun M => bl true M) (fun M => evE F b s M)
  | .cmp op a b, s, M => (evE F a s M).bind fun x M => (evE F b s M).bind fun y M => cmpD M op x y
  | .chain op op' a b c, s, M => (evE F a s M).bind fun x M => (evE F b s M).bind fun y M => (cmpD M op x y).bind fun z M => brV z M (fun M => (evE F c s M).bind fun w M => cmpD M op' y w) (fun M => bl false M)
  | .ifx c a b, s, M => (evE F c s M).bind fun x M => brV x M (fun M => evE F a s M) (fun M => evE F b s M)
  | .tup es, s, M => (evEs F es s M).bind fun vs M => (match allD vs with | some ds => .ok (.d (.tuple ds)) M | none => .bad)
  | .lst al es, s, M => (evEs F es s M).bind fun vs M => mkLV al vs M
  | .idx a i, s, M => (evE F a s M).bind fun x M => (evE F i s M).bind fun y M => idxD M x y
  | .toI a, s, M => (evE F a s M).bind fun v M => (match v with | .d (.int i) => .ok (.d (.int i)) M | _ => .bad)
  | .sl al a lo hi, s, M => (evE F a s M).bind fun x M => (evE F lo s M).bind fun l M => (ofOpt (part l) M).bind fun l M => (evE F hi s M).bind fun h M => (ofOpt (part h) M).bind fun h M => slD al M x l h
  | .rev al a, s, M => (evE F a s M).bind fun x M => revD al M x
  | .bi al f es, s, M => (evEs F es s M).bind fun vs M => biD al f vs M
  | .isi a t, s, M => (evE F a s M).bind fun x M => (match isiD F.sub M x t with
      | some b => bl b M
      | none => .bad)
  | .call f es, s, M => (evEs F es s M).bind fun vs M => callV F f vs M
  | .lc al own tg it cond elt, s, M => (evI F it s M).bind fun vs M => (lcL (evE F cond) (evE F elt) tg (wipe s own) vs M).bind fun ys M => mkLV al ys M
  | .lrng al es, s, M => (evEs F es s M).bind fun vs M => (match (rngD vs).bind allD with | some ds => mkL al ds M | none => .bad)
  | .mt m o es, s, M => (evE F o s M).bind fun x M => if isLst M x then (evEs F es s M).bind fun vs M => mtD m x vs M else .bad
  | .seq _, _, _ => .bad
  | .rng _, _, _ => .bad
  | .enum _, _, _ => .bad
  | .zip _ _, _, _ => .bad
def evEs (F : FEnv) : List IE → Slots → Store → R (List Val)
  | [], _, M => .ok [] M
  | e :: es, s, M => (evE F e s M).bind fun v M => (evEs F es s M).bind fun vs M => .ok (v :: vs) M
def evI (F : FEnv) : IE → Slots → Store → R (List Val)
  | .rng es, s, M => (evEs F es s M).bind fun vs M => ofOpt (rngD vs) M
  | .enum a, s, M => (evE F a s M).bind fun v M => ofOpt (enumD v) M
  | .zip a b, s, M => (evE F a s M).bind fun v M => (evE F b s M).bind fun w M => ofOpt (zipD v w) M
  | .seq a, s, M => (evE F a s M).bind fun v M => ofOpt (seqD v) M
  | _, _, _ => .bad
end

def forL (body : Slots → Store → SR) (tg : Tg) : List Val → Slots → Store → SR
  | [], s, M => .next s M
  | v :: vs, s, M => match asgT tg v s with
    | none => .bad
    | some s1 => match body s1 M with
      | .next s2 M2 => forL body tg vs s2 M2
      | r => r
def whileL (c : Slots → Store → R Val) (body : Slots → Store → SR) : Nat → Slots → Store → SR
  | 0, _, _ => .bad
  | n + 1, s, M => match c s M with
    | .ok (.d (.bool true)) M1 => (match body s M1 with
      | .next s2 M2 => whileL c body n s2 M2
      | r => r)
    | .ok (.d (.bool false)) M1 => .next s M1
    | .exc k M1 => .exc k s M1
    | _ => .bad
def R.toS (r : R Val) (s : Slots) (f : Val → Store → SR) : SR :=
  match r with
  | .ok v M => f v M
  | .exc c M => .exc c s M
  | .bad => .bad
@[simp] theorem R.toS_ok (v : Val) (M : Store) (s : Slots) (f : Val → Store → SR) : (R.ok v M).toS s f = f v M := rfl
@[simp] theorem R.toS_exc (c : Nat) (M : Store) (s : Slots) (f : Val → Store → SR) : (R.exc c M : R Val).toS s f = .exc c s M := rfl
@[simp] theorem R.toS_bad (s : Slots) (f : Val → Store → SR) : (R.bad : R Val).toS s f = .bad := rfl
mutual
def evS (F : FEnv) (wf : Nat) : IS → Slots → Store → SR
  | .expr e, s, M => (evE F e s M).toS s fun _ M => .next s M
  | .asg tg e, s, M => (evE F e s M).toS s fun v M => (match asgT tg v s with | some s' => .next s' M | none => .bad)
  | .setix o i e, s, M => (evE F e s M).toS s fun v M => (evE F o s M).toS s fun x M => (evE F i s M).toS s fun y M => (match x, y with
      | .ref a, .d (.int k) => (match M[a]? with
        | some (.lst vs) => (match ixN vs.length k with | some j => .next s (M.set a (.lst (vs.set j v))) | none => .bad)
        | _ => .bad)
      | _, _ => .bad)
  | .app o e, s, M => (evE F o s M).toS s fun x M => (match x with
      | .ref a => (match M[a]? with
        | some (.lst _) => (evE F e s M).toS s fun v M => (match M[a]? with
          | some (.lst vs) => if vs.length < lim then .next s (M.set a (.lst (vs ++ [v]))) else .bad
          | _ => .bad)
        | _ => .bad)
      | _ => .bad)
  | .ret e, s, M => (evE F e s M).toS s fun v M => .ret v M
  | .ite c t e, s, M => (evE F c s M).toS s fun x M => (match x with | .d (.bool true) => evSs F wf t s M | .d (.bool false) => evSs F wf e s M | _ => .bad)
  | .forr tg it b, s, M => (match evI F it s M with
      | .ok vs M => forL (evSs F wf b) tg vs s M
      | .exc c M => .exc c s M
      | .bad => .bad)
  | .whil c b, s, M => whileL (evE F c) (evSs F wf b) wf s M
  | .pass, s, M => .next s M
  | .rais c, s, M => .exc c s M
  | .tryas b c i j, s, M => (match evSs F wf b s M with
      | .exc k s1 M1 => if F.sub k c then .next ((s1.set j (some (.exc k))).set i none) M1 else .exc k s1 M1
      | r => r)
def evSs (F : FEnv) (wf : Nat) : List IS → Slots → Store → SR
  | [], s, M => .next s M
  | st :: r, s, M => (match evS F wf st s M with
      | .next s1 M1 => evSs F wf r s1 M1
      | x => x)
end
def below (n : Nat) : Val → Bool
  | .ref m => decide (m < n)
  | _ => true
def Cell.below (n : Nat) : Cell → Bool
  | .lst vs => vs.all (Gv.below n)
  | .dct kvs => kvs.all fun p => Gv.below n p.2
  | .ins _ fs => fs.all fun p => Gv.below n p.2
/-- what leaves a def: new lists become data, new cells are forgotten, where nothing that stays holds them -/
def exitV (n0 : Nat) (v : Val) (M : Store) : R Val :=
  if (M.take n0).all (Cell.below n0) then
    (match v with
    | .ref a => if a < n0 then .ok v (M.take n0) else (match frz n0 8 M v with | some x => .ok (.d x) (M.take n0) | none => .ok v M)
    | v => .ok v (M.take n0))
  else .ok v M
def exitX (n0 : Nat) (c : Nat) (M : Store) : R Val :=
  if (M.take n0).all (Cell.below n0) then .exc c (M.take n0) else .exc c M
def fin (n0 : Nat) : SR → R Val
  | .next _ M => exitV n0 (.d .none) M
  | .ret v M => exitV n0 v M
  | .exc c _ M => exitX n0 c M
  | .bad => .bad
def finK : SR → R Val
  | .next _ M => .ok (.d .none) M
  | .ret v M => .ok v M
  | .exc c _ M => .exc c M
  | .bad => .bad
def finB (kp : Bool) (n0 : Nat) (x : SR) : R Val := if kp then finK x else fin n0 x
def enter (fn : Fn) (vs : List Val) : Slots := vs.map some ++ List.replicate (fn.n - vs.length) none
def callF (T : List Fn) (sub : Nat → Nat → Bool) (wf : Nat) : Nat → Nat → List Val → Store → R Val
  | 0, _, _, _ => .bad
  | k + 1, f, vs, M => match T[f]? with
    | none => .bad
    | some fn => if vs.length = fn.ps then finB fn.keep M.length (evSs ⟨callF T sub wf k, sub⟩ wf fn.body (enter fn vs) M) else .bad
end Gv

set_option maxHeartbeats 1000000
namespace Gv
open PySem PySem.Spec PyProof.Rows L2
/-! ### enumerate over a tuple -/
theorem enum_mkT {t : Addr} {items : Array Value} :
    Meets (Builtin.«enumerate.__new__» ⟨[.type "enumerate", .ref t], []⟩) (fun _ R s => s.heap.IsTuple t items ∧
      R (.ok (.ret (.ref (s.heap.push { cls := .type "tuple_iterator", data := .fields #[.ref t, .int 0 0] }).objs.size)))
        { s with heap := (s.heap.push { cls := .type "tuple_iterator", data := .fields #[.ref t, .int 0 0] }).push { cls := .type "enumerate", data := .fields #[.none, .bool false, .ref s.heap.objs.size, rawInt 0, .none, .none] } }) :=
  .of_wp fun prog w A R s hh => by
    obtain ⟨hp, g, d, tk, os⟩ := s
    obtain ⟨ht, hr⟩ := hh
    have hsub := sub_enumerate
    have ht' : Heap.IsTuple (Shared.heap ⟨hp, g, d, tk, os⟩) t items := ht
    obtain ⟨⟨c, dct, dt, sl⟩, hl, hc, n, hd⟩ := id ht'
    replace hc : c = .type "tuple" := hc
    replace hd : dt = .seq items n := hd
    subst hc hd
    wp_walk using AutoSeq1.wpAny_loadPart' hl
    refine wpAny_stack_any fun st => wpAny_pure ?_
    split
    · rename_i c _ _ _ _ _
      cases (c == Value.type "enumerate") <;> (wp_walk using AutoSeq1.wpAny_loadPart' hl, wpAny_pyIter_tuple ht'; exact ⟨_, rfl, hr⟩)
    · wp_walk using AutoSeq1.wpAny_loadPart' hl, wpAny_pyIter_tuple ht'
      exact ⟨_, rfl, hr⟩
section
variable {prog : Program} {w : World} {A : Around} {E : Value → Shared → Prop} {s : Shared}
theorem enum_callT {t : Addr} {items : Array Value} {Q : Value → Shared → Prop} (ht : s.heap.IsTuple t items)
    (k : ∀ h', IsEnum h' (s.heap.objs.size + 1) s.heap.objs.size 0 .none → h'.IsTupleIter s.heap.objs.size t 0 → (∀ b o, s.heap.get? b = some o → h'.get? b = some o) → Q (.ref (s.heap.objs.size + 1)) { s with heap := h' }) :
    wpAny (model prog w) A (call (.type "enumerate") [.ref t]) Q E s := by
  refine callType_new F.called_enumerate (by decide) (F.typeCall_enumerate_1 _) (F.newCall_enumerate_1 _) (fun ob => F.args_object_init_2 ob _) F.entry_enumerate_new (enum_mkT (items := items)) ⟨ht, ?_⟩
  have hz : (s.heap.push { cls := .type "tuple_iterator", data := .fields #[.ref t, .int 0 0] }).objs.size = s.heap.objs.size + 1 := Heap.size_push ..
  show _ ∧ _
  rw [hz]
  have he : IsEnum ((s.heap.push { cls := .type "tuple_iterator", data := .fields #[.ref t, .int 0 0] }).push { cls := .type "enumerate", data := .fields #[.none, .bool false, .ref s.heap.objs.size, rawInt 0, .none, .none] }) (s.heap.objs.size + 1) s.heap.objs.size 0 .none := by
    have q := Heap.get?_push_size (s.heap.push { cls := .type "tuple_iterator", data := .fields #[.ref t, .int 0 0] }) (o := { cls := .type "enumerate", data := .fields #[.none, .bool false, .ref s.heap.objs.size, rawInt 0, .none, .none] }) rfl
    rw [hz] at q
    exact q
  exact ⟨⟨_, he, rfl⟩, k _ he ⟨_, Heap.get?_push_of_some _ (Heap.get?_push_size _ rfl), rfl, rfl⟩ fun b o x => Heap.get?_push_of_some _ (Heap.get?_push_of_some _ x)⟩
end
/-- the tuple at a, each item in a new pair with its place -/
def ItT (K : PySem.W.Frag) (a : Addr) : It :=
  ⟨fun i H => ∃ (xs : List V) (x : V), SqT K H a xs ∧ xs[i]? = some x,
   fun i H v H' => ∃ T x, v = .ref T ∧ H T = none ∧ H' = upd H T (.tup [.int (i : Nat), x]) ∧ ∀ xs, SqT K H a xs → xs[i]? = some x,
   fun i H => ∃ xs : List V, SqT K H a xs ∧ xs.length ≤ i⟩
theorem turn_enumT {P : Program} {w : World} {K : PySem.W.Frag} {elts : List Expr} {kk : Nat} {tpos : Pos} (a e it : Addr) (hae : a ≠ e) (hai : a ≠ it) :
    Turn P w K (.Tuple elts kk tpos) (ItT K a) [e, it] e (fun i h => (∃ old, IsEnum h e it ((i : Nat) : Int) old) ∧ h.IsTupleIter it a i ∧ e ≠ it) where
  mem := by simp
  obj := fun i h st b hb => by
    obtain ⟨⟨old, he⟩, ⟨o, ho, hc, hd⟩, _⟩ := st
    rcases (by simpa using hb : b = e ∨ b = it) with rfl | rfl
    · exact ⟨_, he, fun v q => nomatch q⟩
    · exact ⟨o, ho, fun v q => by rw [hd] at q; cases q⟩
  keep := fun i h h' st k => by
    obtain ⟨⟨old, he⟩, hi, hne⟩ := st
    exact ⟨⟨old, k e (by simp) _ he⟩, hi.at fun o q => k it (by simp) o q, hne⟩
  item := by
    intro X hP hw hK hc i pins s σ H E I hf st hg
    subst hP hw hK
    obtain ⟨⟨old, he⟩, hit, hne⟩ := st
    obtain ⟨xs, x, hq, hx⟩ := hg
    obtain ⟨its, rv, p, hz⟩ := I.tuple hq
    obtain ⟨u, hu, ru⟩ := rv.get hx
    have hel : e < s.heap.objs.size := Heap.lt_size he
    have hil : it < s.heap.objs.size := by obtain ⟨_, q, _⟩ := hit; exact Heap.lt_size q
    have hp : s.heap.IsTuple a its.toArray := p
    have D := Draws.tuple (prog := X.prog) (w := X.w) (A := X.A.in1) (I.ok.hd hc) it a hai its.toArray
    have hin : i < its.toArray.size := by
      have := (List.getElem?_eq_some_iff.mp hu).1
      simpa using this
    refine wpAny_pyNext_enum_itemD D he ⟨hit, hp⟩ hin hne (by simp [hne, Ne.symm hae]) fun x' h' tk hx' ho hit' hT hsz hk => ?_
    have hxu : x' = u := by
      have h1 : its[i]? = some x' := by simpa using hx'
      rw [hu] at h1
      exact (Option.some.inj h1).symm
    subst hxu
    refine ⟨_, rfl, wpAny_letOwnedTupleGo_enum (s := { s with heap := h', toks := tk + 1 }) ho fun h2 he' sb => ?_⟩
    have hT2 : h2.get? s.heap.objs.size = some { cls := .type "tuple", data := .seq #[.int i tk, x'] } := (sb.2 _ (Nat.ne_of_gt hel)).trans hT
    have fresh : ObjOk X.prog X.w (upd H s.heap.objs.size (.tup [.int (i : Nat), x])) h2 s.heap.objs.size (.tup [.int (i : Nat), x]) :=
      ⟨by show 2 ≤ sizeLine; decide, [.int i tk, x'], .cons ⟨_, rfl⟩ (.cons ru .nil), ⟨_, hT2, rfl, _, rfl⟩⟩
    have I1 : Inv X pins σ (upd H s.heap.objs.size (.tup [.int (i : Nat), x])) { s with heap := h2, toks := tk + 1 } :=
      I.turnedNew (ch := [e, it]) (fun b ob hb q => (sb.2 b (fun z => hb (by simp [z]))).trans (hk b ob (fun z => hb (by simp [z])) (fun z => hb (by simp [z])) q)) hf (Nat.le_refl _) fresh
    refine ⟨.ref s.heap.objs.size, _, I1, rfl, ⟨_, x, rfl, I.hok.fresh (Nat.le_refl _), rfl, fun ys hy => by rw [I.tuple_inj hy hq]; exact hx⟩, ⟨⟨x', ?_⟩, hit'.1.at fun o q => (sb.2 it (Ne.symm hne)).trans q, hne⟩, fun b hb => ?_⟩
    · rw [show ((i + 1 : Nat) : Int) = (i : Int) + 1 from by omega]
      exact he'
    · have hb' : b < s.heap.objs.size := by
        rcases (by simpa using hb : b = e ∨ b = it) with rfl | rfl
        · exact hel
        · exact hil
      rw [upd_ne (Nat.ne_of_lt hb')]
      exact (hf b hb).1
  done := by
    intro X hP hw hK hc i pins s σ H E I hf st hg
    subst hP hw hK
    obtain ⟨⟨old, he⟩, hit, hne⟩ := st
    obtain ⟨xs, hq, hx⟩ := hg
    obtain ⟨its, rv, p, hz⟩ := I.tuple hq
    obtain ⟨f0, f1, f2, f3, f4, f5⟩ := hf it (by simp)
    have hl := rv.length
    have hp : s.heap.IsTuple a its.toArray := p
    have D : Draws X.prog X.w X.A.in1 it [it, a] i (fun _ _ => False) (fun j h => j = i ∧ h.IsTupleIter it a j ∧ h.IsTuple a its.toArray) :=
      { live := fun _ _ st => let ⟨o, ho, _⟩ := st.2.1; ⟨o, ho⟩
        frame := fun _ _ _ st hk => ⟨st.1, st.2.1.at fun o e => hk it (by simp) o e, st.2.2.at fun o e => hk a (by simp) o e⟩
        item := fun j s Q E hi st hQ => by have := st.1; omega
        done := fun s Q E st hE => wpAny_nextOf_tuple_end (I.ok.hd hc) st.2.1 st.2.2 (by simp; omega) hE }
    exact wpAny_pyNext_enum_endD D he ⟨rfl, hit, hp⟩ fun h' eb => ⟨rfl, I.turned (t' := s.toks) (fun b o hb q => eb b o hb q) f0 f1 f3 f4 f5⟩
  self := fun A i s Q E st h => by
    obtain ⟨⟨_, he⟩, _⟩ := st
    exact wpAny_pyIter_enum he h
def iEnumA (K : PySem.W.Frag) (ta : TA) : TI := fun σ H R => ta σ H fun vs H1 => ∃ a xs, vs = [.ref a] ∧ ((SqL K H1 a xs ∧ R (Ite K a) H1) ∨ (SqT K H1 a xs ∧ R (ItT K a) H1))
theorem pi_enumA {X : Cx} {e : Expr} {ta : TA} {p pos tpos : Pos} {elts : List Expr} {kk : Nat} (hg : Gl X "enumerate") (hm : X.mg "enumerate" = none) (ha : PA X [e] ta) (hs : starEach [e] X.env = [(false, eval e X.env)]) :
    PI X (.Tuple elts kk tpos) (.Call (.Name "enumerate" p) [e] [] pos) (iEnumA X.K ta) := by
  refine ⟨fun pins s σ H R I h => Call_ (ld_blt I hg hm boot_enumerate (PyProof.Rows.callWith_type1 (thn (ha.run pos pins s σ H _ I h) fun us s1 ⟨vs, H1, I1, r1, q1⟩ => ?_) hs rfl))⟩
  obtain ⟨a, xs, ex, q⟩ := q1
  subst ex
  cases r1 with
  | cons r rr =>
    cases rr
    cases r
    have two : ∀ b, b ∈ [s1.heap.objs.size + 1, s1.heap.objs.size] → s1.heap.objs.size ≤ b := fun b hb => by
      rcases (by simpa using hb : b = s1.heap.objs.size + 1 ∨ b = s1.heap.objs.size) with z | z <;> (rw [z]; omega)
    rcases q with ⟨hq, q⟩ | ⟨hq, q⟩
    · obtain ⟨its, rv, p', hz⟩ := I1.list hq
      refine call_enumerate_list p'.isList fun h' he hit hsz hk => wpAny_pyIter_enum he ?_
      have I2 : Inv X pins σ H1 { s1 with heap := h' } := I1.kept (t' := s1.toks) hk
      exact ⟨s1.heap.objs.size + 1, [s1.heap.objs.size + 1, s1.heap.objs.size], _, _, H1, rfl, I2, turn_enum a (s1.heap.objs.size + 1) s1.heap.objs.size, ⟨⟨.none, he⟩, hit, Nat.succ_ne_self _⟩, fun b hb => I1.fpOk (two b hb) (I1.hok.fresh (two b hb)), q⟩
    · obtain ⟨its, rv, p', hz⟩ := I1.tuple hq
      have hp : s1.heap.IsTuple a its.toArray := p'
      have hlt : a < s1.heap.objs.size := by obtain ⟨o, ho, _⟩ := hp; exact Heap.lt_size ho
      refine enum_callT hp fun h' he hit hk => wpAny_pyIter_enum he ?_
      have I2 : Inv X pins σ H1 { s1 with heap := h' } := I1.kept (t' := s1.toks) hk
      exact ⟨s1.heap.objs.size + 1, [s1.heap.objs.size + 1, s1.heap.objs.size], _, _, H1, rfl, I2, turn_enumT a (s1.heap.objs.size + 1) s1.heap.objs.size (Nat.ne_of_lt (Nat.lt_succ_of_lt hlt)) (Nat.ne_of_lt hlt), ⟨⟨.none, he⟩, hit, Nat.succ_ne_self _⟩, fun b hb => I1.fpOk (two b hb) (I1.hok.fresh (two b hb)), q⟩
end Gv

namespace Gv
open PySem PySem.Spec L2

theorem lim_eq : lim = sizeLine := by rw [sizeLine_eq]; rfl

/-- an own exception that was caught, at a -/
def ExV (C a : Addr) : HO := .ext fun h => ∃ (oe : Obj) (vs : Array Value), h.get? a = some oe ∧ Zc (.ref C) none oe ∧ oe.data = .fields vs

section
variable (K : PySem.W.Frag) (cl : Nat → Addr) (B : List Addr)
mutual
inductive DR (r : List Addr) (H : Hp) : V → PyData → Prop
  | non : DR r H .non .none
  | bl (b : Bool) : DR r H (.bl b) (.bool b)
  | int (i : Int) : DR r H (.int i) (.int i)
  | str (x : Str) : DR r H (.str x) (.str x)
  | lst {a : Addr} {xs : List V} {ds : List PyData} : H a = some (.lst xs) → a ∉ B → a ∉ r → ds.length ≤ lim → DRs r H xs ds → DR r H (.ref a) (.list ds)
  | tup {a : Addr} {xs : List V} {ds : List PyData} : SqT K H a xs → ds.length ≤ lim → DRs r H xs ds → DR r H (.ref a) (.tuple ds)
inductive DRs (r : List Addr) (H : Hp) : List V → List PyData → Prop
  | nil : DRs r H [] []
  | cons {v : V} {vs : List V} {d : PyData} {ds : List PyData} : DR r H v d → DRs r H vs ds → DRs r H (v :: vs) (d :: ds)
end
/-- the script: read, never written -/
def Scr (r : List Addr) (H : Hp) (a : Addr) (xs : List V) : Prop := (Rd H a (.lst xs) ∧ a ∉ B ∧ a ∉ r) ∨ ∀ H', SqL K H' a xs
/-- a value -/
inductive VR (r : List Addr) (H : Hp) : V → Val → Prop
  | d {x : V} {y : PyData} : DR K B r H x y → VR r H x (.d y)
  | ref {a : Addr} {n : Nat} : r[n]? = some a → VR r H (.ref a) (.ref n)
  | exc {a : Addr} {c : Nat} : H a = some (ExV (cl c) a) → a ∉ B → a ∉ r → VR r H (.ref a) (.exc c)
  | scr {a : Addr} {ns : List Int} : Scr K B r H a (ns.map V.int) → VR r H (.ref a) (.scr ns)
abbrev VRs (r : List Addr) (H : Hp) : List V → List Val → Prop := Paired (VR K cl B r H)
inductive CR (r : List Addr) (H : Hp) (a : Addr) : Cell → Prop
  | lst {xs : List V} {vs : List Val} : H a = some (.lst xs) → vs.length ≤ lim → VRs K cl B r H xs vs → CR r H a (.lst vs)
structure Rel (r : List Addr) (M : Store) (H : Hp) : Prop where
  len : r.length = M.length
  nd : r.Nodup
  blk : ∀ a ∈ r, a ∉ B
  bs : ∀ a ∈ B, H a ≠ none
  cell : ∀ (n : Nat) (c : Cell) (a : Addr), M[n]? = some c → r[n]? = some a → CR K cl B r H a c
structure SRel (r : List Addr) (H : Hp) (σ : St) (s : Slots) : Prop where
  len : σ.length = s.length
  get : ∀ (i : Nat) (v : Val), s[i]? = some (some v) → ∃ x, σ[i]? = some (some x) ∧ VR K cl B r H x v
end

structure Grow (r : List Addr) (H : Hp) (r' : List Addr) (H' : Hp) : Prop where
  pre : ∃ e, r' = r ++ e
  keep : ∀ a o, H a = some o → a ∉ r → H' a = some o
  new : ∀ a ∈ r', a ∈ r ∨ H a = none
  some : ∀ a, H a ≠ none → H' a ≠ none
  tup : ∀ a xs, Rd H a (.tup xs) → Rd H' a (.tup xs)

theorem Grow.refl {r : List Addr} {H : Hp} : Grow r H r H := ⟨⟨[], by simp⟩, fun _ _ h _ => h, fun _ h => .inl h, fun _ h => h, fun _ _ h => h⟩
theorem Grow.trans {r r1 r2 : List Addr} {H H1 H2 : Hp} (a : Grow r H r1 H1) (b : Grow r1 H1 r2 H2) : Grow r H r2 H2 := by
  refine ⟨?_, fun c o h n => ?_, fun c h => ?_, fun c h => b.some c (a.some c h), fun c xs h => b.tup c xs (a.tup c xs h)⟩
  · obtain ⟨e, he⟩ := a.pre
    obtain ⟨f, hf⟩ := b.pre
    exact ⟨e ++ f, by rw [hf, he, List.append_assoc]⟩
  · refine b.keep c o (a.keep c o h n) fun h1 => ?_
    rcases a.new c h1 with z | z
    · exact n z
    · rw [h] at z; cases z
  · rcases b.new c h with z | z
    · exact a.new c z
    · cases q : H c with
      | none => exact .inr rfl
      | some o => exact absurd z (a.some c (by rw [q]; exact fun z => nomatch z))
theorem rd_upd {H : Hp} {p a : Addr} {o u : HO} (h : H p = none) (q : Rd H a u) : Rd (upd H p o) a u := by
  have hne : ∀ v, H a = some v → a ≠ p := fun v e z => by rw [z, h] at e; cases e
  rcases q with q | ⟨v, q⟩
  · exact .inl (by rw [upd_ne (hne _ q)]; exact q)
  · exact .inr ⟨v, by rw [upd_ne (hne _ q)]; exact q⟩
theorem upd_some {H : Hp} {p a : Addr} {o : HO} (z : H a ≠ none) : upd H p o a ≠ none := by
  by_cases q : a = p
  · rw [q, upd_same]; exact fun z => nomatch z
  · rw [upd_ne q]; exact z
/-- a new object that is not a cell -/
theorem Grow.laid {r : List Addr} {H : Hp} {p : Addr} {o : HO} (h : H p = none) : Grow r H r (upd H p o) := by
  refine ⟨⟨[], by simp⟩, fun a u e _ => ?_, fun _ z => .inl z, fun a z => upd_some z, fun a xs q => rd_upd h q⟩
  rw [upd_ne (fun q => by rw [q, h] at e; cases e)]; exact e
/-- a new object that is one -/
theorem Grow.cell {r : List Addr} {H : Hp} {p : Addr} {o : HO} (h : H p = none) : Grow r H (r ++ [p]) (upd H p o) := by
  refine ⟨⟨[p], rfl⟩, fun a u e _ => ?_, fun a z => ?_, fun a z => upd_some z, fun a xs q => rd_upd h q⟩
  · rw [upd_ne (fun q => by rw [q, h] at e; cases e)]; exact e
  · rcases List.mem_append.mp z with z | z
    · exact .inl z
    · simp at z; subst z; exact .inr h
/-- a cell is written -/
theorem Grow.write {r : List Addr} {H : Hp} {p : Addr} {o : HO} (h : p ∈ r) (nt : ∀ xs, ¬ Rd H p (.tup xs)) : Grow r H r (upd H p o) := by
  refine ⟨⟨[], by simp⟩, fun a u e n => ?_, fun _ z => .inl z, fun a z => upd_some z, fun a xs q => ?_⟩
  · rw [upd_ne (fun q => n (by rw [q]; exact h))]; exact e
  · have hne : a ≠ p := fun z => nt xs (z ▸ q)
    rcases q with q | ⟨v, q⟩
    · exact .inl (by rw [upd_ne hne]; exact q)
    · exact .inr ⟨v, by rw [upd_ne hne]; exact q⟩

section
variable {K : PySem.W.Frag} {cl : Nat → Addr} {B : List Addr} {r r' : List Addr} {H H' : Hp}
theorem Rd.some {a : Addr} {u : HO} (h : Rd H a u) : ∃ o, H a = some o ∧ ∀ H', H' a = Option.some o → Rd H' a u := by
  rcases h with h | ⟨o, h⟩
  · exact ⟨_, h, fun _ e => .inl e⟩
  · exact ⟨_, h, fun _ e => .inr ⟨o, e⟩⟩
theorem Grow.rd (g : Grow r H r' H') {a : Addr} {u : HO} (h : Rd H a u) (n : a ∉ r) : Rd H' a u := by
  obtain ⟨o, e, f⟩ := Rd.some h
  exact f _ (g.keep a o e n)
theorem Grow.notin (g : Grow r H r' H') {a : Addr} {u : HO} (h : Rd H a u) (n : a ∉ r) : a ∉ r' := fun z => by
  obtain ⟨o, e, _⟩ := Rd.some h
  rcases g.new a z with q | q
  · exact n q
  · rw [e] at q; cases q
theorem Grow.sqt (g : Grow r H r' H') {a : Addr} {xs : List V} (h : SqT K H a xs) : SqT K H' a xs := by
  rcases h with h | h
  · exact .inl (g.tup a xs h)
  · exact .inr h
mutual
theorem DR.mono (g : Grow r H r' H') : ∀ {x : V} {d : PyData}, DR K B r H x d → DR K B r' H' x d
  | _, _, .non => .non
  | _, _, .bl b => .bl b
  | _, _, .int i => .int i
  | _, _, .str x => .str x
  | _, _, .lst h n1 n2 l hs => .lst (g.keep _ _ h n2) n1 (g.notin (.inl h) n2) l (DRs.mono g hs)
  | _, _, .tup h l hs => .tup (g.sqt h) l (DRs.mono g hs)
theorem DRs.mono (g : Grow r H r' H') : ∀ {xs : List V} {ds : List PyData}, DRs K B r H xs ds → DRs K B r' H' xs ds
  | _, _, .nil => .nil
  | _, _, .cons a b => .cons (DR.mono g a) (DRs.mono g b)
end
theorem DRs.length : ∀ {xs : List V} {ds : List PyData}, DRs K B r H xs ds → xs.length = ds.length
  | _, _, .nil => rfl
  | _, _, .cons _ b => by simp [DRs.length b]
theorem DRs.get : ∀ {xs : List V} {ds : List PyData} {i : Nat} {d : PyData}, DRs K B r H xs ds → ds[i]? = some d → ∃ x, xs[i]? = some x ∧ DR K B r H x d
  | _, _, _, _, .nil, e => by simp at e
  | _, _, 0, _, .cons a _, e => by simp at e; subst e; exact ⟨_, rfl, a⟩
  | _, _, i + 1, _, .cons _ b, e => by simp at e; exact DRs.get (i := i) b e
theorem DRs.append : ∀ {xs ys : List V} {ds es : List PyData}, DRs K B r H xs ds → DRs K B r H ys es → DRs K B r H (xs ++ ys) (ds ++ es)
  | _, _, _, _, .nil, s => s
  | _, _, _, _, .cons a t, s => .cons a (DRs.append t s)
theorem DRs.take : ∀ {xs : List V} {ds : List PyData} (n : Nat), DRs K B r H xs ds → DRs K B r H (xs.take n) (ds.take n)
  | _, _, 0, _ => .nil
  | _, _, _ + 1, .nil => .nil
  | _, _, n + 1, .cons a t => .cons a (DRs.take n t)
theorem DRs.drop : ∀ {xs : List V} {ds : List PyData} (n : Nat), DRs K B r H xs ds → DRs K B r H (xs.drop n) (ds.drop n)
  | _, _, 0, a => a
  | _, _, _ + 1, .nil => .nil
  | _, _, n + 1, .cons _ t => DRs.drop n t
theorem DRs.rev : ∀ {xs : List V} {ds : List PyData}, DRs K B r H xs ds → DRs K B r H xs.reverse ds.reverse
  | _, _, .nil => .nil
  | _, _, .cons a t => by simp only [List.reverse_cons]; exact (DRs.rev t).append (.cons a .nil)
theorem DRs.reps (n : Nat) {xs : List V} {ds : List PyData} (h : DRs K B r H xs ds) : DRs K B r H (List.replicate n xs).flatten (List.replicate n ds).flatten := by
  induction n with
  | zero => exact .nil
  | succ n ih => simp only [List.replicate_succ, List.flatten_cons]; exact h.append ih
theorem Scr.mono (g : Grow r H r' H') {a : Addr} {xs : List V} (h : Scr K B r H a xs) : Scr K B r' H' a xs := by
  rcases h with ⟨h, nb, n⟩ | h
  · exact .inl ⟨g.rd h n, nb, g.notin h n⟩
  · exact .inr h
theorem Scr.sq {a : Addr} {xs : List V} (h : Scr K B r H a xs) : SqL K H a xs := by
  rcases h with ⟨h, n⟩ | h
  · exact .inl h
  · exact h H
theorem VR.mono (g : Grow r H r' H') {x : V} {v : Val} (h : VR K cl B r H x v) : VR K cl B r' H' x v := by
  cases h with
  | d h => exact .d (h.mono g)
  | ref h =>
    obtain ⟨e, he⟩ := g.pre
    exact .ref (by rw [he, List.getElem?_append_left (List.getElem?_eq_some_iff.mp h).1]; exact h)
  | exc h nb n =>
    refine .exc (g.keep _ _ h n) nb fun z => ?_
    rcases g.new _ z with q | q
    · exact n q
    · rw [h] at q; cases q
  | scr h => exact .scr (Scr.mono g h)
theorem VRs.mono (g : Grow r H r' H') {xs : List V} {vs : List Val} (h : VRs K cl B r H xs vs) : VRs K cl B r' H' xs vs := Paired.mapP h fun _ _ z => z.mono g
theorem SRel.mono (g : Grow r H r' H') {σ : L2.St} {s : Slots} (h : SRel K cl B r H σ s) : SRel K cl B r' H' σ s :=
  ⟨h.len, fun i v e => let ⟨x, a, b⟩ := h.get i v e; ⟨x, a, b.mono g⟩⟩
/-- the data of a list of values -/
theorem VRs.allD : ∀ {xs : List V} {vs : List Val} {ds : List PyData}, VRs K cl B r H xs vs → Gv.allD vs = some ds → DRs K B r H xs ds
  | _, _, _, .nil, e => by simp only [Gv.allD, Option.some.injEq] at e; subst e; exact .nil
  | _, _, _, .cons (a := x) (b := v) h t, e => by
    cases h with
    | d h =>
      simp only [Gv.allD, Option.map_eq_some_iff] at e
      obtain ⟨ds', e1, rfl⟩ := e
      exact .cons h (VRs.allD t e1)
    | ref h => simp [Gv.allD] at e
    | exc h nb n => simp [Gv.allD] at e
    | scr h => simp [Gv.allD] at e
theorem DRs.vrs : ∀ {xs : List V} {ds : List PyData}, DRs K B r H xs ds → VRs K cl B r H xs (ds.map .d)
  | _, _, .nil => .nil
  | _, _, .cons a b => .cons (.d a) (DRs.vrs b)
/-! deep data as it reads now -/
mutual
theorem DR.dp : ∀ {x : V} {d : PyData}, DR K B r H x d → Dp K H x d
  | _, _, .non => .non
  | _, _, .bl b => .bl b
  | _, _, .int i => .int i
  | _, _, .str x => .str x
  | _, _, .lst h _ _ _ hs => .lst (.inl (.inl h)) (DRs.dp hs)
  | _, _, .tup h _ hs => .tup h (DRs.dp hs)
theorem DRs.dp : ∀ {xs : List V} {ds : List PyData}, DRs K B r H xs ds → DpAll K H xs ds
  | _, _, .nil => .nil
  | _, _, .cons a b => .cons (DR.dp a) (DRs.dp b)
end
end

section
variable {K : PySem.W.Frag} {cl : Nat → Addr} {B : List Addr} {r : List Addr} {H : Hp} {x : V}
theorem VR.int {i : Int} (h : VR K cl B r H x (.d (.int i))) : x = .int i := by
  cases h with | d h => cases h; rfl
theorem VR.bool {b : Bool} (h : VR K cl B r H x (.d (.bool b))) : x = .bl b := by
  cases h with | d h => cases h; rfl
theorem VR.str {z : Str} (h : VR K cl B r H x (.d (.str z))) : x = .str z := by
  cases h with | d h => cases h; rfl
theorem VR.none (h : VR K cl B r H x (.d .none)) : x = .non := by
  cases h with | d h => cases h; rfl
theorem VR.tuple {ds : List PyData} (h : VR K cl B r H x (.d (.tuple ds))) : ∃ a xs, x = .ref a ∧ SqT K H a xs ∧ ds.length ≤ lim ∧ DRs K B r H xs ds := by
  cases h with | d h => cases h with | tup h l hs => exact ⟨_, _, rfl, h, l, hs⟩
theorem VR.list {ds : List PyData} (h : VR K cl B r H x (.d (.list ds))) : ∃ a xs, x = .ref a ∧ H a = some (.lst xs) ∧ a ∉ B ∧ a ∉ r ∧ ds.length ≤ lim ∧ DRs K B r H xs ds := by
  cases h with | d h => cases h with | lst h n1 n2 l hs => exact ⟨_, _, rfl, h, n1, n2, l, hs⟩
theorem VR.inv {y : PyData} (h : VR K cl B r H x (.d y)) : DR K B r H x y := by
  cases h with | d h => exact h
theorem VR.atRef {n : Nat} (h : VR K cl B r H x (.ref n)) : ∃ a, x = .ref a ∧ r[n]? = some a := by
  cases h with | ref h => exact ⟨_, rfl, h⟩
end

/-! ### what the store tells, after a step -/
section
variable {K : PySem.W.Frag} {cl : Nat → Addr} {B : List Addr} {r : List Addr} {H : Hp} {M : Store}
theorem CR.mono {r' : List Addr} {H' : Hp} (g : Grow r H r' H') {a : Addr} {c : Cell} (h : CR K cl B r H a c) (e : H' a = H a) : CR K cl B r' H' a c := by
  cases h with
  | lst h l hs => exact .lst (e.trans h) l (hs.mono g)
theorem Rel.mem (R : Rel K cl B r M H) {n : Nat} {a : Addr} (h : r[n]? = some a) : ∃ c, M[n]? = some c ∧ CR K cl B r H a c := by
  have hn : n < M.length := by rw [← R.len]; exact (List.getElem?_eq_some_iff.mp h).1
  exact ⟨M[n], by simp [hn], R.cell n _ a (by simp [hn]) h⟩
theorem Rel.isSome (R : Rel K cl B r M H) {a : Addr} (h : a ∈ r) : ∃ o, H a = some o ∧ ∀ xs, ¬ Rd H a (.tup xs) := by
  obtain ⟨n, hn⟩ := List.getElem?_of_mem h
  obtain ⟨c, _, hc⟩ := R.mem hn
  cases hc with
  | lst h l hs => exact ⟨_, h, fun xs q => by rcases q with q | ⟨v, q⟩ <;> (rw [h] at q; cases q)⟩
/-- a new object that is no cell -/
theorem Rel.laid (R : Rel K cl B r M H) {p : Addr} {o : HO} (h : H p = none) : Rel K cl B r M (upd H p o) := by
  refine ⟨R.len, R.nd, R.blk, fun a ha => upd_some (R.bs a ha), fun n c a e1 e2 => (R.cell n c a e1 e2).mono (Grow.laid h) ?_⟩
  obtain ⟨o', q, _⟩ := R.isSome (List.mem_of_getElem? e2)
  rw [upd_ne (fun z => by rw [z, h] at q; cases q)]
/-- a new cell -/
theorem Rel.newcell (R : Rel K cl B r M H) {p : Addr} {o : HO} {c : Cell} (h : H p = none) (hc : CR K cl B (r ++ [p]) (upd H p o) p c) : Rel K cl B (r ++ [p]) (M ++ [c]) (upd H p o) := by
  have hp : p ∉ r := fun z => by obtain ⟨o', q, _⟩ := R.isSome z; rw [h] at q; cases q
  refine ⟨by simp [R.len], ?_, fun a ha => ?_, fun a ha => upd_some (R.bs a ha), fun n c' a e1 e2 => ?_⟩
  · rw [List.nodup_append]
    refine ⟨R.nd, by simp, fun a ha b hb => ?_⟩
    simp at hb
    subst hb
    exact fun z => hp (z ▸ ha)
  · rcases List.mem_append.mp ha with z | z
    · exact R.blk a z
    · simp at z; subst z
      exact fun q => R.bs _ q h
  · by_cases hn : n < M.length
    · have hr : n < r.length := by rw [R.len]; exact hn
      rw [List.getElem?_append_left hn] at e1
      rw [List.getElem?_append_left hr] at e2
      refine (R.cell n c' a e1 e2).mono (Grow.cell h) ?_
      obtain ⟨o', q, _⟩ := R.isSome (List.mem_of_getElem? e2)
      rw [upd_ne (fun z => by rw [z, h] at q; cases q)]
    · rw [List.getElem?_append_right (by omega)] at e1
      rw [List.getElem?_append_right (by rw [R.len]; omega)] at e2
      have hz : n - M.length = 0 := by
        have := (List.getElem?_eq_some_iff.mp e1).1
        simp at this
        omega
      rw [R.len] at e2
      rw [hz] at e1 e2
      simp at e1 e2
      subst e1 e2
      exact hc
/-- a cell written -/
theorem Rel.write (R : Rel K cl B r M H) {p : Addr} {n : Nat} {o : HO} {c : Cell} (h : r[n]? = some p) (hc : CR K cl B r (upd H p o) p c) : Rel K cl B r (M.set n c) (upd H p o) := by
  have hm := List.mem_of_getElem? h
  obtain ⟨o0, q0, nt⟩ := R.isSome hm
  refine ⟨by simp [R.len], R.nd, R.blk, fun a ha => upd_some (R.bs a ha), fun m c' a e1 e2 => ?_⟩
  by_cases hn : n = m
  · subst hn
    rw [h] at e2; cases e2
    have hl : n < M.length := by rw [← R.len]; exact (List.getElem?_eq_some_iff.mp h).1
    rw [List.getElem?_set_self hl] at e1
    cases e1
    exact hc
  · rw [List.getElem?_set_ne hn] at e1
    refine (R.cell m c' a e1 e2).mono (Grow.write hm nt) ?_
    refine upd_ne fun z => ?_
    subst z
    obtain ⟨h1, q1⟩ := List.getElem?_eq_some_iff.mp h
    obtain ⟨h2, q2⟩ := List.getElem?_eq_some_iff.mp e2
    exact hn ((List.getElem_inj R.nd).mp (q1.trans q2.symm))
theorem Rel.growW (R : Rel K cl B r M H) {p : Addr} {n : Nat} {o : HO} (h : r[n]? = some p) : Grow r H r (upd H p o) := by
  have hm := List.mem_of_getElem? h
  obtain ⟨o0, q0, nt⟩ := R.isSome hm
  exact Grow.write hm nt
/-- a list that is read -/
theorem VR.lstD (R : Rel K cl B r M H) {x : V} {v : Val} {ds : List PyData} (h : VR K cl B r H x v) (e : Gv.lstD M v = some ds) : ∃ a xs, x = .ref a ∧ H a = some (.lst xs) ∧ DRs K B r H xs ds ∧ ds.length ≤ lim := by
  cases h with
  | d h =>
    cases h <;> simp only [Gv.lstD, Option.some.injEq, reduceCtorEq] at e
    rename_i a xs ds' h n1 n2 l hs
    subst e
    exact ⟨a, xs, rfl, h, hs, l⟩
  | ref h =>
    obtain ⟨c, e1, hc⟩ := R.mem h
    cases hc with
    | lst h' l hs =>
      simp only [Gv.lstD, e1] at e
      have hd := VRs.allD hs e
      exact ⟨_, _, rfl, h', hd, by rw [← hd.length, hs.length]; exact l⟩
  | exc h nb n => simp [Gv.lstD] at e
  | scr h => simp [Gv.lstD] at e
end
end Gv

namespace Gv
open PySem PySem.Spec L2

/-! ### readings by an evaluator -/
section
variable (K : PySem.W.Frag) (cl : Nat → Addr)
def Out {α β : Type} (P : List Addr → Hp → β → α → Prop) (W : WX) (σ : L2.St) (B r : List Addr) (H : Hp) (x : R α) (k : β → α → List Addr → Store → Hp → Prop) : Prop :=
  match x with
  | .ok v M' => ∀ u H' r', Grow r H r' H' → Rel K cl B r' M' H' → P r' H' u v → k u v r' M' H'
  | .exc c M' => ∀ H' r', Grow r H r' H' → Rel K cl B r' M' H' → W (.ref (cl c)) none σ H'
  | .bad => False
def rdE (W : WX) (g : Slots → Store → R Val) : TE := fun σ H Q => ∃ B r M s, Rel K cl B r M H ∧ SRel K cl B r H σ s ∧
  Out K cl (VR K cl B) W σ B r H (g s M) fun u _ _ _ H' => Q u H'
def rdT (W : WX) (g : Slots → Store → R Val) : TT := fun σ H Q => ∃ B r M s, Rel K cl B r M H ∧ SRel K cl B r H σ s ∧
  Out K cl (VR K cl B) W σ B r H (g s M) fun _ v _ _ H' => ∃ b, v = .d (.bool b) ∧ Q b H'
def rdA (W : WX) (g : Slots → Store → R (List Val)) : TA := fun σ H Q => ∃ B r M s, Rel K cl B r M H ∧ SRel K cl B r H σ s ∧
  Out K cl (VRs K cl B) W σ B r H (g s M) fun u _ _ _ H' => Q u H'
end
section
variable {K : PySem.W.Frag} {cl : Nat → Addr} {α β : Type} {P : List Addr → Hp → β → α → Prop} {W : WX} {σ : L2.St} {B r : List Addr} {H : Hp} {M : Store}
theorem Out.step {γ δ : Type} {P' : List Addr → Hp → δ → γ → Prop} {x : R α} {f : α → Store → R γ} {k : δ → γ → List Addr → Store → Hp → Prop} {k' : β → α → List Addr → Store → Hp → Prop}
    (o : Out K cl P' W σ B r H (x.bind f) k)
    (h : ∀ u v r1 M1 H1, Grow r H r1 H1 → Rel K cl B r1 M1 H1 → P r1 H1 u v → Out K cl P' W σ B r1 H1 (f v M1) k → k' u v r1 M1 H1) : Out K cl P W σ B r H x k' := by
  cases x with
  | bad => exact o
  | exc c M' => exact o
  | ok v M' =>
    intro u H1 r1 g R p
    refine h u v r1 M' H1 g R p ?_
    have o : Out K cl P' W σ B r H (f v M') k := o
    generalize f v M' = y at o ⊢
    cases y with
    | bad => exact o
    | exc c M2 => exact fun H2 r2 g2 R2 => o H2 r2 (g.trans g2) R2
    | ok w M2 => exact fun u2 H2 r2 g2 R2 p2 => o u2 H2 r2 (g.trans g2) R2 p2
theorem Out.here {v : α} {u : β} {k : β → α → List Addr → Store → Hp → Prop} (o : Out K cl P W σ B r H (.ok v M) k) (R : Rel K cl B r M H) (p : P r H u v) : k u v r M H := o u H r .refl R p
theorem Out.imp {x : R α} {k k' : β → α → List Addr → Store → Hp → Prop} (o : Out K cl P W σ B r H x k) (h : ∀ u v r1 M1 H1, Grow r H r1 H1 → Rel K cl B r1 M1 H1 → P r1 H1 u v → k u v r1 M1 H1 → k' u v r1 M1 H1) : Out K cl P W σ B r H x k' := by
  cases x with
  | bad => exact o
  | exc c M' => exact o
  | ok v M' => exact fun u H' r' g R p => h u v r' M' H' g R p (o u H' r' g R p)
/-- a new list, at any free place -/
theorem Out.newL {al : Bool} {ds : List PyData} {xs : List V} {k : V → Val → List Addr → Store → Hp → Prop} (o : Out K cl (VR K cl B) W σ B r H (mkL al ds M) k) (R : Rel K cl B r M H) (hx : DRs K B r H xs ds) (hl : ds.length ≤ lim)
    {p : Addr} (hp : H p = none) : ∃ v r' M', k (.ref p) v r' M' (upd H p (.lst xs)) := by
  unfold mkL at o
  cases al with
  | false =>
    have o : Out K cl (VR K cl B) W σ B r H (.ok (.d (.list ds)) M) k := o
    have hpr : p ∉ r := fun z => by obtain ⟨_, q, _⟩ := R.isSome z; rw [hp] at q; cases q
    exact ⟨_, _, _, o _ _ _ (Grow.laid hp) (R.laid hp) (.d (.lst upd_same (fun z => R.bs p z hp) hpr hl (hx.mono (Grow.laid hp))))⟩
  | true =>
    have o : Out K cl (VR K cl B) W σ B r H (.ok (.ref M.length) (M ++ [.lst (ds.map .d)])) k := o
    have g : Grow r H (r ++ [p]) (upd H p (.lst xs)) := Grow.cell hp
    refine ⟨_, _, _, o (.ref p) _ _ g (R.newcell hp (.lst upd_same (by simpa using hl) (hx.mono g).vrs)) (.ref ?_)⟩
    rw [← R.len]; simp
theorem allD_none {vs : List Val} : ∀ {xs : List V}, VRs K cl B r H xs vs → xs.length = vs.length := fun h => Paired.length h
theorem Out.newLV {al : Bool} {vs : List Val} {xs : List V} {k : V → Val → List Addr → Store → Hp → Prop} (o : Out K cl (VR K cl B) W σ B r H (mkLV al vs M) k) (R : Rel K cl B r M H) (hx : VRs K cl B r H xs vs) (hl : vs.length ≤ lim)
    {p : Addr} (hp : H p = none) : ∃ v r' M', k (.ref p) v r' M' (upd H p (.lst xs)) := by
  unfold mkLV at o
  cases e : allD vs with
  | some ds =>
    rw [e] at o
    have hd := VRs.allD hx e
    exact Out.newL o R hd (by rw [← hd.length, hx.length]; exact hl) hp
  | none =>
    rw [e] at o
    have g : Grow r H (r ++ [p]) (upd H p (.lst xs)) := Grow.cell hp
    refine ⟨_, _, _, o (.ref p) _ _ g (R.newcell hp (.lst upd_same hl (VRs.mono g hx))) (.ref ?_)⟩
    rw [← R.len]; simp
/-- a new tuple -/
theorem Out.newT {ds : List PyData} {xs : List V} {k : V → Val → List Addr → Store → Hp → Prop} (o : Out K cl (VR K cl B) W σ B r H (.ok (.d (.tuple ds)) M) k) (R : Rel K cl B r M H) (hx : DRs K B r H xs ds) (hl : ds.length ≤ lim)
    {p : Addr} (hp : H p = none) : ∃ v r' M', k (.ref p) v r' M' (upd H p (.tup xs)) :=
  ⟨_, _, _, o _ _ _ (Grow.laid hp) (R.laid hp) (.d (.tup (.inl (.inl upd_same)) hl (hx.mono (Grow.laid hp))))⟩
end

/-! ### weakening -/
section
variable {X : Cx}
theorem PE.imp {e : Expr} {t t' : TE} (h : PE X e t) (i : ∀ σ H Q, t' σ H Q → t σ H Q) : PE X e t' := ⟨fun pins s σ H Q I w => h.run pins s σ H Q I (i σ H Q w)⟩
theorem PT.imp {e : Expr} {t t' : TT} (h : PT X e t) (i : ∀ σ H Q, t' σ H Q → t σ H Q) : PT X e t' := ⟨fun pins s σ H Q I w => h.run pins s σ H Q I (i σ H Q w)⟩
theorem PW.imp {e : Expr} {t t' : TT} (h : PW X e t) (i : ∀ σ H Q, t' σ H Q → t σ H Q) : PW X e t' := ⟨fun wh pins s σ H Q I w => h.run wh pins s σ H Q I (i σ H Q w)⟩
theorem PA.imp {e : List Expr} {t t' : TA} (h : PA X e t) (i : ∀ σ H Q, t' σ H Q → t σ H Q) : PA X e t' := ⟨fun pos pins s σ H Q I w => h.run pos pins s σ H Q I (i σ H Q w)⟩
theorem PS.imp {e : Stmt} {t t' : TS} (h : PS X e t) (i : ∀ D σ H, t' D σ H → t D σ H) : PS X e t' := ⟨fun pins s σ H D I w => h.run pins s σ H D I (i D σ H w)⟩
theorem PSs.imp {e : List Stmt} {t t' : TS} (h : PSs X e t) (i : ∀ D σ H, t' D σ H → t D σ H) : PSs X e t' := ⟨fun pins s σ H D I w => h.run pins s σ H D I (i D σ H w)⟩

abbrev SE (X : Cx) (cl : Nat → Addr) (W : WX) (e : Expr) (g : Slots → Store → R Val) : Prop := PE X e (rdE X.K cl W g)
abbrev ST (X : Cx) (cl : Nat → Addr) (W : WX) (e : Expr) (g : Slots → Store → R Val) : Prop := PT X e (rdT X.K cl W g)
abbrev SA (X : Cx) (cl : Nat → Addr) (W : WX) (e : List Expr) (g : Slots → Store → R (List Val)) : Prop := PA X e (rdA X.K cl W g)

variable {cl : Nat → Addr} {W : WX} {a b c : Expr} {ga gb gc : Slots → Store → R Val} {pos : Pos} {F : FEnv}

theorem se_lit {e : Expr} {v : V} {d : PyData} (h : PE X e (tC v)) (q : ∀ B r H, DR X.K B r H v d) : SE X cl W e (fun _ M => .ok (.d d) M) :=
  PE.imp h fun σ H Q ⟨B, r, M, s, R, S, o⟩ => Out.here (u := v) o R (.d (q B r H))
theorem se_var {e : Expr} {i : Nat} (h : PE X e (tVar i)) : SE X cl W e (fun s M => (match s[i]? with | some (some v) => .ok v M | _ => .bad)) :=
  PE.imp h fun σ H Q ⟨B, r, M, s, R, S, o⟩ => by
    dsimp only at o
    split at o
    · rename_i v e
      obtain ⟨x, hx, vr⟩ := S.get i v e
      exact ⟨x, hx, o.here R vr⟩
    · exact o.elim

/-! operators -/
theorem mulOk_c {i j : Int} (h : mulOk i j = true) : CMul i j := by
  unfold mulOk at h
  simp only [Bool.or_eq_true, Bool.and_eq_true, decide_eq_true_eq] at h
  exact h
theorem bigB_c {j : Int} (h1 : 0 < j) (h2 : j < bigB) : j.natAbs < 2 ^ 250 := by
  unfold bigB at h2
  have : ((2 : Int) ^ 250) = ((2 ^ 250 : Nat) : Int) := by norm_cast
  omega
theorem op_addAll : OpR X (binaryOp .Add) (fun x y H Q => rI0 (fun i j => .int (i + j)) x y H Q ∨ (∃ i j, x = .str i ∧ y = .str j ∧ i.length + j.length ≤ sizeLine ∧ Q (.str (i ++ j)) H) ∨ rCatA X.K x y H Q ∨ rCat x y H Q) :=
  op_add.or (op_add_str.or (op_catA.or op_cat))
theorem op_mulAll : OpR X (binaryOp .Mult) (fun x y H Q => rI CMul (fun i j => .int (i * j)) x y H Q ∨ rRepT X.K x y H Q ∨ rRep x y H Q) :=
  op_mul.or (op_repT.or op_rep)

section
variable {K : PySem.W.Frag} {σ : L2.St} {B r : List Addr} {H : Hp} {M : Store} {Q : VK} {x y : V} {v w : Val}
abbrev KQ (Q : VK) : V → Val → List Addr → Store → Hp → Prop := fun u _ _ _ H' => Q u H'
theorem add_ok {al : Bool} (R : Rel K cl B r M H) (hx : VR K cl B r H x v) (hy : VR K cl B r H y w) (o : Out K cl (VR K cl B) W σ B r H (addD al M v w) (KQ Q)) :
    rI0 (fun i j => .int (i + j)) x y H Q ∨ (∃ i j, x = .str i ∧ y = .str j ∧ i.length + j.length ≤ sizeLine ∧ Q (.str (i ++ j)) H) ∨ rCatA K x y H Q ∨ rCat x y H Q := by
  unfold addD at o
  split at o
  · rename_i i j
    obtain rfl := hx.int
    obtain rfl := hy.int
    exact .inl ⟨i, j, rfl, rfl, Out.here (u := .int (i + j)) o R (.d (.int _))⟩
  · rename_i i j
    split at o
    · rename_i hl
      obtain rfl := hx.str
      obtain rfl := hy.str
      exact .inr (.inl ⟨i, j, rfl, rfl, by rw [← lim_eq]; exact hl, Out.here (u := .str (i ++ j)) o R (.d (.str _))⟩)
    · exact o.elim
  · split at o
    · rename_i hl
      obtain ⟨a, xs, rfl, h1, l1, d1⟩ := hx.tuple
      obtain ⟨b, ys, rfl, h2, l2, d2⟩ := hy.tuple
      refine .inr (.inr (.inl ⟨a, b, xs, ys, rfl, rfl, h1, h2, by rw [d1.length, d2.length, ← lim_eq]; exact hl, fun e => ?_, fun e1 e2 => ?_, fun e1 e2 p hp => ?_⟩))
      · subst e
        cases d1
        exact Out.here (u := .ref b) o R (.d (.tup h2 l2 d2))
      · subst e2
        cases d2
        rw [List.append_nil] at o
        exact Out.here (u := .ref a) o R (.d (.tup h1 l1 d1))
      · obtain ⟨_, _, _, q⟩ := Out.newT o R (d1.append d2) (by simpa using hl) hp
        exact q
    · exact o.elim
  · split at o
    · rename_i a b ea eb
      split at o
      · rename_i hl
        obtain ⟨pa, xs, rfl, ha, da, la⟩ := VR.lstD R hx ea
        obtain ⟨pb, ys, rfl, hb, db, lb⟩ := VR.lstD R hy eb
        refine .inr (.inr (.inr ⟨pa, pb, xs, ys, rfl, rfl, ha, hb, by rw [da.length, db.length, ← lim_eq]; exact hl, fun p hp => ?_⟩))
        obtain ⟨_, _, _, q⟩ := Out.newL o R (da.append db) (by simpa using hl) hp
        exact q
      · exact o.elim
    · exact o.elim
theorem rep_len {α : Type} (xs : List α) (n : Nat) : (List.replicate n xs).flatten.length = xs.length * n := by
  rw [List.length_flatten, List.map_replicate, List.sum_replicate_nat, Nat.mul_comm]
theorem mul_ok {al : Bool} (R : Rel K cl B r M H) (hx : VR K cl B r H x v) (hy : VR K cl B r H y w) (o : Out K cl (VR K cl B) W σ B r H (mulD al M v w) (KQ Q)) :
    rI CMul (fun i j => .int (i * j)) x y H Q ∨ rRepT K x y H Q ∨ rRep x y H Q := by
  unfold mulD at o
  split at o
  · rename_i i j
    split at o
    · rename_i hl
      obtain rfl := hx.int
      obtain rfl := hy.int
      exact .inl ⟨i, j, rfl, rfl, mulOk_c hl, Out.here (u := .int (i * j)) o R (.d (.int _))⟩
    · exact o.elim
  · rename_i ds k
    split at o
    · rename_i hl
      simp only [Bool.and_eq_true, Bool.not_eq_true', decide_eq_true_eq] at hl
      obtain ⟨⟨⟨h1, h2⟩, h3⟩, h4⟩ := hl
      obtain ⟨a, xs, rfl, ht, l1, d1⟩ := hx.tuple
      obtain rfl := hy.int
      refine .inr (.inl ⟨a, k, xs, rfl, rfl, ht, fun e => ?_, h2, h3, by rw [d1.length]; exact h4, fun p hp => ?_⟩)
      · subst e; cases d1; simp at h1
      · obtain ⟨_, _, _, q⟩ := Out.newT o R (d1.reps k.toNat) (by
          rw [rep_len]
          have : ds.length * k.toNat ≤ 1000 * 1000 := Nat.mul_le_mul h4 (by omega)
          unfold lim; omega) hp
        exact q
    · exact o.elim
  · rename_i k n1 n2
    split at o
    · rename_i a ea
      split at o
      · rename_i hl
        simp only [Bool.and_eq_true, decide_eq_true_eq] at hl
        obtain ⟨⟨h1, h2⟩, h3⟩ := hl
        obtain ⟨pa, xs, rfl, ha, da, la⟩ := VR.lstD R hx ea
        obtain rfl := hy.int
        refine .inr (.inr ⟨pa, _, xs, rfl, rfl, ha, h1, h2, by rw [da.length, ← lim_eq]; exact h3, fun p hp => ?_⟩)
        obtain ⟨_, _, _, q⟩ := Out.newL o R (da.reps _) (by rw [rep_len]; exact h3) hp
        exact q
      · exact o.elim
    · exact o.elim
  · exact o.elim
end
theorem op_no {f : Value → Value → Sem Value} : OpR X f (fun _ _ _ _ => False) := fun _ _ _ _ _ _ _ _ _ _ _ _ h => h.elim
theorem se_op {f : Val → Val → Store → R Val} {op : Operator} {rr : R2} (ho : OpR X (binaryOp op) rr) (ha : SE X cl W a ga) (hb : SE X cl W b gb)
    (hk : ∀ σ B r H M Q x y v w, Rel X.K cl B r M H → VR X.K cl B r H x v → VR X.K cl B r H y w → Out X.K cl (VR X.K cl B) W σ B r H (f v w M) (KQ Q) → rr x y H Q) :
    SE X cl W (.BinOp a op b pos) (fun s M => (ga s M).bind fun x M => (gb s M).bind fun y M => f x y M) :=
  PE.imp (pe_op ho ha hb) fun σ H Q ⟨B, r, M, s, R, S, o⟩ => ⟨B, r, M, s, R, S, o.step fun x v r1 M1 H1 g1 R1 v1 o1 =>
    ⟨B, r1, M1, s, R1, S.mono g1, o1.step fun y w r2 M2 H2 g2 R2 v2 o2 => hk σ B r2 H2 M2 Q x y v w R2 (v1.mono g2) v2 o2⟩⟩
theorem se_bin {al : Bool} {op : Operator} (ha : SE X cl W a ga) (hb : SE X cl W b gb) : SE X cl W (.BinOp a op b pos) (fun s M => (ga s M).bind fun x M => (gb s M).bind fun y M => binD al M op x y) := by
  cases op with
  | Add => exact se_op (f := fun x y M => binD al M .Add x y) op_addAll ha hb fun σ B r H M Q x y v w R hx hy o => add_ok R hx hy o
  | Mult => exact se_op (f := fun x y M => binD al M .Mult x y) op_mulAll ha hb fun σ B r H M Q x y v w R hx hy o => mul_ok R hx hy o
  | Sub =>
    refine se_op (f := fun x y M => binD al M .Sub x y) op_sub ha hb fun σ B r H M Q x y v w R hx hy o => ?_
    dsimp only [binD] at o
    split at o
    · rename_i i j
      obtain rfl := hx.int
      obtain rfl := hy.int
      exact ⟨i, j, rfl, rfl, Out.here (u := .int (i - j)) o R (.d (.int _))⟩
    · exact o.elim
  | FloorDiv =>
    refine se_op (f := fun x y M => binD al M .FloorDiv x y) op_fdivW ha hb fun σ B r H M Q x y v w R hx hy o => ?_
    dsimp only [binD] at o
    split at o
    · rename_i i j
      split at o
      · rename_i hl
        simp only [Bool.and_eq_true, decide_eq_true_eq] at hl
        obtain rfl := hx.int
        obtain rfl := hy.int
        exact ⟨i, j, rfl, rfl, wide_div hl.1 (bigB_c hl.1 hl.2) (by decide) (by decide), Out.here (u := .int (i / j)) o R (.d (.int _))⟩
      · exact o.elim
    · exact o.elim
  | Mod =>
    refine se_op (f := fun x y M => binD al M .Mod x y) op_mod ha hb fun σ B r H M Q x y v w R hx hy o => ?_
    dsimp only [binD] at o
    split at o
    · rename_i i j
      split at o
      · rename_i hl
        obtain rfl := hx.int
        obtain rfl := hy.int
        exact ⟨i, j, rfl, rfl, hl, Out.here (u := .int (i % j)) o R (.d (.int _))⟩
      · exact o.elim
    · exact o.elim
  | Pow =>
    refine se_op (f := fun x y M => binD al M .Pow x y) op_pow ha hb fun σ B r H M Q x y v w R hx hy o => ?_
    dsimp only [binD] at o
    split at o
    · rename_i i j
      split at o
      · rename_i hl
        simp only [Bool.and_eq_true, decide_eq_true_eq] at hl
        obtain ⟨⟨h1, h2⟩, h3⟩ := hl
        obtain rfl := hx.int
        obtain rfl := hy.int
        exact ⟨i, j, rfl, rfl, ⟨h1, by omega, by omega⟩, Out.here (u := .int (i ^ j.toNat)) o R (.d (.int _))⟩
      · exact o.elim
    · exact o.elim
  | MatMult => exact se_op (f := fun x y M => binD al M .MatMult x y) op_no ha hb fun σ B r H M Q x y v w R hx hy o => o
  | Div => exact se_op (f := fun x y M => binD al M .Div x y) op_no ha hb fun σ B r H M Q x y v w R hx hy o => o
  | LShift => exact se_op (f := fun x y M => binD al M .LShift x y) op_no ha hb fun σ B r H M Q x y v w R hx hy o => o
  | RShift => exact se_op (f := fun x y M => binD al M .RShift x y) op_no ha hb fun σ B r H M Q x y v w R hx hy o => o
  | BitOr => exact se_op (f := fun x y M => binD al M .BitOr x y) op_no ha hb fun σ B r H M Q x y v w R hx hy o => o
  | BitXor => exact se_op (f := fun x y M => binD al M .BitXor x y) op_no ha hb fun σ B r H M Q x y v w R hx hy o => o
  | BitAnd => exact se_op (f := fun x y M => binD al M .BitAnd x y) op_no ha hb fun σ B r H M Q x y v w R hx hy o => o
end
end Gv

namespace Gv
open PySem PySem.Spec L2

/-! ### data that is compared -/
theorem okD_ok : ∀ (n : Nat) (d : PyData), okD n d = true → d.canLay0 = true ∧ d.depth ≤ n
  | _, .none, _ => by simp [PyData.canLay0, PyData.depth]
  | _, .bool _, _ => by simp [PyData.canLay0, PyData.depth]
  | _, .int _, _ => by simp [PyData.canLay0, PyData.depth]
  | n, .str x, h => by
    have h' : PyData.strOk x = true := by cases n <;> simpa [okD] using h
    simp [PyData.canLay0, PyData.depth, h']
  | 0, .list xs, h => by simp [okD] at h
  | 0, .tuple xs, h => by simp [okD] at h
  | n + 1, .list xs, h => by
    have h' : ∀ x ∈ xs, okD n x = true := by simpa [okD, List.all_eq_true] using h
    have : ∀ ys : List PyData, (∀ x ∈ ys, okD n x = true) → PyData.canLayAll0 ys = true ∧ PyData.depthAll ys ≤ n := by
      intro ys
      induction ys with
      | nil => intro _; simp [PyData.canLayAll0, PyData.depthAll]
      | cons y ys ih =>
        intro hy
        have h1 := okD_ok n y (hy y (by simp))
        have h2 := ih fun x hx => hy x (by simp [hx])
        simp [PyData.canLayAll0, PyData.depthAll, h1.1, h2.1]
        omega
    have q := this xs h'
    simp [PyData.canLay0, PyData.depth, q.1]
    omega
  | n + 1, .tuple xs, h => by
    have h' : ∀ x ∈ xs, okD n x = true := by simpa [okD, List.all_eq_true] using h
    have : ∀ ys : List PyData, (∀ x ∈ ys, okD n x = true) → PyData.canLayAll0 ys = true ∧ PyData.depthAll ys ≤ n := by
      intro ys
      induction ys with
      | nil => intro _; simp [PyData.canLayAll0, PyData.depthAll]
      | cons y ys ih =>
        intro hy
        have h1 := okD_ok n y (hy y (by simp))
        have h2 := ih fun x hx => hy x (by simp [hx])
        simp [PyData.canLayAll0, PyData.depthAll, h1.1, h2.1]
        omega
    have q := this xs h'
    simp [PyData.canLay0, PyData.depth, q.1]
    omega
  | n, .dict _, h => by cases n <;> simp [okD] at h
theorem okD_shaped {n : Nat} {d : PyData} (h : okD n d = true) (hn : n ≤ 64) : SeqAt.shaped d = true := by
  obtain ⟨a, b⟩ := okD_ok n d h
  unfold SeqAt.shaped
  simp [a]
  omega

section
variable {K : PySem.W.Frag} {cl : Nat → Addr} {B : List Addr} {r : List Addr} {H : Hp} {M : Store}
theorem mapM_dp {f : Val → Option PyData} (hf : ∀ x v d, VR K cl B r H x v → f v = some d → Dp K H x d) : ∀ {xs : List V} {vs : List Val} {ds : List PyData}, VRs K cl B r H xs vs → vs.mapM f = some ds → DpAll K H xs ds
  | _, _, _, .nil, e => by simp at e; subst e; exact .nil
  | _, _, ds, .cons (a := x) (b := v) h t, e => by
    rw [List.mapM_cons] at e
    cases e1 : f v with
    | none => simp [e1] at e
    | some d =>
      rename_i vs
      cases e2 : List.mapM f vs with
      | none => simp [e1, e2] at e
      | some ds' =>
        simp [e1, e2] at e
        subst e
        exact .cons (hf _ _ _ h e1) (mapM_dp hf t e2)
theorem frz_dp (R : Rel K cl B r M H) (n0 : Nat) : ∀ (n : Nat) (x : V) (v : Val) (d : PyData), VR K cl B r H x v → frz n0 n M v = some d → Dp K H x d
  | n, x, .d y, d, h, e => by
    have e' : y = d := by cases n <;> simpa [frz] using e
    subst e'
    exact h.inv.dp
  | 0, x, .ref a, d, h, e => by simp [frz] at e
  | n + 1, x, .ref a, d, h, e => by
    obtain ⟨p, rfl, hp⟩ := h.atRef
    obtain ⟨c, e1, hc⟩ := R.mem hp
    simp only [frz] at e
    split at e
    · cases e
    · cases hc with
      | lst h' l hs =>
        rw [e1] at e
        simp only [Option.map_eq_some_iff] at e
        obtain ⟨ds, e2, rfl⟩ := e
        exact .lst (.inl (.inl h')) (mapM_dp (fun x v d hv hd => frz_dp R n0 n x v d hv hd) hs e2)
  | 0, x, .exc c, d, h, e => by simp [frz] at e
  | n + 1, x, .exc c, d, h, e => by simp [frz] at e
  | 0, x, .scr c, d, h, e => by simp [frz] at e
  | n + 1, x, .scr c, d, h, e => by simp [frz] at e
theorem VR.view (R : Rel K cl B r M H) {x : V} {v : Val} {d : PyData} (h : VR K cl B r H x v) (e : Gv.view M v = some d) : Dp K H x d := frz_dp R 0 8 x v d h e
theorem VR.isNone {x : V} {v : Val} (h : VR K cl B r H x v) : Gv.isNone v = decide (x = .non) := by
  cases h with
  | d h => cases h <;> simp [Gv.isNone]
  | ref h => simp [Gv.isNone]
  | exc h nb n => simp [Gv.isNone]
  | scr h => simp [Gv.isNone]
end

section
variable {X : Cx} {cl : Nat → Addr} {W : WX} {a b c : Expr} {ga gb gc : Slots → Store → R Val} {pos : Pos} {F : FEnv}

/-- a comparison by values -/
structure CmpR (X : Cx) (cl : Nat → Addr) (W : WX) (op : CmpOp) (rr : R2) : Prop where
  run : OpR X (compareOp op) rr
  ok : ∀ (σ : L2.St) (B r : List Addr) (H : Hp) (M : Store) (Q : VK) (x y : V) (v w : Val), Rel X.K cl B r M H → VR X.K cl B r H x v → VR X.K cl B r H y w → Out X.K cl (VR X.K cl B) W σ B r H (cmpD M op v w) (KQ Q) → rr x y H Q
theorem bl_ok {K : PySem.W.Frag} {σ : L2.St} {B r : List Addr} {H : Hp} {M : Store} {Q : VK} {z : Bool} (R : Rel K cl B r M H) (o : Out K cl (VR K cl B) W σ B r H (bl z M) (KQ Q)) : Q (.bl z) H :=
  Out.here (u := .bl z) o R (.d (.bl z))
theorem cmp_int {op : CmpOp} {f : Int → Int → Bool} (ho : OpR X (compareOp op) (rI0 fun i j => .bl (f i j)))
    (he : ∀ M v w, cmpD M op v w = (match v, w with | .d (.int i), .d (.int j) => bl (f i j) M | _, _ => .bad)) : CmpR X cl W op (rI0 fun i j => .bl (f i j)) :=
  ⟨ho, fun σ B r H M Q x y v w R hx hy o => by
    rw [he] at o
    split at o
    · rename_i i j
      obtain rfl := hx.int
      obtain rfl := hy.int
      exact ⟨i, j, rfl, rfl, bl_ok R o⟩
    · exact o.elim⟩
theorem cmp_all (hu : X.A.units + 65 < cLine) (op : CmpOp) : ∃ rr, CmpR X cl W op rr := by
  cases op with
  | Lt => exact ⟨_, cmp_int op_lt fun M v w => rfl⟩
  | LtE => exact ⟨_, cmp_int op_le fun M v w => rfl⟩
  | Gt => exact ⟨_, cmp_int op_gt fun M v w => rfl⟩
  | GtE => exact ⟨_, cmp_int op_ge fun M v w => rfl⟩
  | Eq =>
    refine ⟨_, op_eqD (by omega), fun σ B r H M Q x y v w R hx hy o => ?_⟩
    dsimp only [cmpD, eqD] at o
    split at o
    · rename_i b e
      split at e
      · rename_i d1 d2 e1 e2
        split at e
        · rename_i ho
          simp only [Bool.and_eq_true] at ho
          simp only [Option.some.injEq] at e
          subst e
          exact ⟨d1, d2, hx.view R e1, hy.view R e2, okD_shaped ho.1 (by decide), okD_shaped ho.2 (by decide), bl_ok R o⟩
        · cases e
      · cases e
    · exact o.elim
  | NotEq =>
    refine ⟨_, op_neD (by omega), fun σ B r H M Q x y v w R hx hy o => ?_⟩
    dsimp only [cmpD, eqD] at o
    split at o
    · rename_i b e
      split at e
      · rename_i d1 d2 e1 e2
        split at e
        · rename_i ho
          simp only [Bool.and_eq_true] at ho
          simp only [Option.some.injEq] at e
          subst e
          exact ⟨d1, d2, hx.view R e1, hy.view R e2, okD_shaped ho.1 (by decide), okD_shaped ho.2 (by decide), bl_ok R o⟩
        · cases e
      · cases e
    · exact o.elim
  | Is =>
    refine ⟨_, op_isN.or op_isBl, fun σ B r H M Q x y v w R hx hy o => ?_⟩
    dsimp only [cmpD] at o
    split at o
    · obtain rfl := hy.none
      rw [hx.isNone] at o
      exact .inl ⟨rfl, bl_ok R o⟩
    · rename_i i j
      obtain rfl := hx.bool
      obtain rfl := hy.bool
      exact .inr ⟨i, j, rfl, rfl, bl_ok R o⟩
    · exact o.elim
  | IsNot =>
    refine ⟨_, op_notN.or op_notBl, fun σ B r H M Q x y v w R hx hy o => ?_⟩
    dsimp only [cmpD] at o
    split at o
    · obtain rfl := hy.none
      rw [hx.isNone] at o
      exact .inl ⟨rfl, bl_ok R o⟩
    · rename_i i j
      obtain rfl := hx.bool
      obtain rfl := hy.bool
      exact .inr ⟨i, j, rfl, rfl, bl_ok R o⟩
    · exact o.elim
  | In =>
    refine ⟨_, op_in_str.or (op_inD hu), fun σ B r H M Q x y v w R hx hy o => ?_⟩
    dsimp only [cmpD] at o
    split at o
    · rename_i b e
      unfold inD at e
      split at e
      · rename_i i j
        simp only [Option.some.injEq] at e
        subst e
        obtain rfl := hx.str
        obtain rfl := hy.str
        exact .inl ⟨i, j, rfl, rfl, bl_ok R o⟩
      · split at e
        · rename_i d1 ds e1 e2
          split at e
          · rename_i ho
            simp only [Bool.and_eq_true] at ho
            simp only [Option.some.injEq] at e
            subst e
            obtain ⟨p, xs, rfl, hp, hd, hl⟩ := VR.lstD R hy e2
            exact .inr ⟨d1, ds, hx.view R e1, .lst (.inl (.inl hp)) hd.dp, okD_shaped ho.1 (by decide), okD_shaped (n := 31) (by simpa [okD] using ho.2) (by decide), bl_ok R o⟩
          · cases e
        · cases e
    · exact o.elim
  | NotIn =>
    refine ⟨_, op_notIn_str.or (op_notInD hu), fun σ B r H M Q x y v w R hx hy o => ?_⟩
    dsimp only [cmpD] at o
    split at o
    · rename_i b e
      unfold inD at e
      split at e
      · rename_i i j
        simp only [Option.some.injEq] at e
        subst e
        obtain rfl := hx.str
        obtain rfl := hy.str
        exact .inl ⟨i, j, rfl, rfl, bl_ok R o⟩
      · split at e
        · rename_i d1 ds e1 e2
          split at e
          · rename_i ho
            simp only [Bool.and_eq_true] at ho
            simp only [Option.some.injEq] at e
            subst e
            obtain ⟨p, xs, rfl, hp, hd, hl⟩ := VR.lstD R hy e2
            exact .inr ⟨d1, ds, hx.view R e1, .lst (.inl (.inl hp)) hd.dp, okD_shaped ho.1 (by decide), okD_shaped (n := 31) (by simpa [okD] using ho.2) (by decide), bl_ok R o⟩
          · cases e
        · cases e
    · exact o.elim

/-- a test's wish as an expression's -/
theorem tT {K : PySem.W.Frag} {g : Slots → Store → R Val} {σ : L2.St} {H : Hp} {Q : Bool → Hp → Prop} (h : rdT K cl W g σ H Q) : rdE K cl W g σ H (fun x H' => ∃ k, x = .bl k ∧ Q k H') := by
  obtain ⟨B, r, M, s, R, S, o⟩ := h
  exact ⟨B, r, M, s, R, S, o.imp fun u v r1 M1 H1 g1 R1 v1 ⟨b, e, q⟩ => ⟨b, by subst e; exact v1.bool, q⟩⟩
theorem cmp_imp {op : CmpOp} {rr : R2} (hc : CmpR X cl W op rr) {σ : L2.St} {H : Hp} {Q : VK} (h : rdE X.K cl W (fun s M => (ga s M).bind fun x M => (gb s M).bind fun y M => cmpD M op x y) σ H Q) :
    tOp rr (rdE X.K cl W ga) (rdE X.K cl W gb) σ H Q := by
  obtain ⟨B, r, M, s, R, S, o⟩ := h
  exact ⟨B, r, M, s, R, S, o.step fun x v r1 M1 H1 g1 R1 v1 o1 =>
    ⟨B, r1, M1, s, R1, S.mono g1, o1.step fun y w r2 M2 H2 g2 R2 v2 o2 => hc.ok σ B r2 H2 M2 Q x y v w R2 (v1.mono g2) v2 o2⟩⟩
theorem se_cmp (hu : X.A.units + 65 < cLine) {op : CmpOp} (hm : behindInMarks op b = false) (ha : SE X cl W a ga) (hb : SE X cl W b gb) : SE X cl W (.Compare a [op] [b] pos) (fun s M => (ga s M).bind fun x M => (gb s M).bind fun y M => cmpD M op x y) := by
  obtain ⟨rr, hc⟩ := cmp_all (cl := cl) (W := W) hu op
  exact PE.imp (pe_cmpR hc.run ha hb hm) fun σ H Q h => cmp_imp hc h
theorem st_cmp (hu : X.A.units + 65 < cLine) {op : CmpOp} (hm : behindInMarks op b = false) (ha : SE X cl W a ga) (hb : SE X cl W b gb) : ST X cl W (.Compare a [op] [b] pos) (fun s M => (ga s M).bind fun x M => (gb s M).bind fun y M => cmpD M op x y) := by
  obtain ⟨rr, hc⟩ := cmp_all (cl := cl) (W := W) hu op
  exact PT.imp (pt_cmpR hc.run ha hb hm) fun σ H Q h => cmp_imp hc (tT h)
theorem chain_imp {op op' : CmpOp} {rr rr' : R2} (hc : CmpR X cl W op rr) (hc' : CmpR X cl W op' rr') {σ : L2.St} {H : Hp} {Q : VK}
    (h : rdE X.K cl W (fun s M => (ga s M).bind fun x M => (gb s M).bind fun y M => (cmpD M op x y).bind fun z M => brV z M (fun M => (gc s M).bind fun w M => cmpD M op' y w) (fun M => bl false M)) σ H Q) :
    tChain rr rr' (rdE X.K cl W ga) (rdE X.K cl W gb) (rdE X.K cl W gc) σ H Q := by
  obtain ⟨B, r, M, s, R, S, o⟩ := h
  refine ⟨B, r, M, s, R, S, o.step fun x v r1 M1 H1 g1 R1 v1 o1 => ⟨B, r1, M1, s, R1, S.mono g1, o1.step fun y w r2 M2 H2 g2 R2 v2 o2 => ?_⟩⟩
  refine hc.ok σ B r2 H2 M2 _ x y v w R2 (v1.mono g2) v2 (o2.step fun z u r3 M3 H3 g3 R3 v3 o3 => ?_)
  unfold brV at o3
  split at o3
  · obtain rfl := v3.bool
    refine ⟨true, rfl, ?_⟩
    rw [if_pos rfl]
    exact ⟨B, r3, M3, s, R3, ((S.mono g1).mono g2).mono g3, o3.step fun z' u' r4 M4 H4 g4 R4 v4 o4 => hc'.ok σ B r4 H4 M4 Q y z' w u' R4 ((v2.mono g3).mono g4) v4 o4⟩
  · obtain rfl := v3.bool
    exact ⟨false, rfl, by rw [if_neg Bool.false_ne_true]; exact bl_ok R3 o3⟩
  · exact o3.elim
theorem se_chain (hu : X.A.units + 65 < cLine) {op op' : CmpOp} (hm : lastMarks [op, op'] [b, c] = false) (ha : SE X cl W a ga) (hb : SE X cl W b gb) (hgc : SE X cl W c gc) :
    SE X cl W (.Compare a [op, op'] [b, c] pos) (fun s M => (ga s M).bind fun x M => (gb s M).bind fun y M => (cmpD M op x y).bind fun z M => brV z M (fun M => (gc s M).bind fun w M => cmpD M op' y w) (fun M => bl false M)) := by
  obtain ⟨rr, hc⟩ := cmp_all (cl := cl) (W := W) hu op
  obtain ⟨rr', hc'⟩ := cmp_all (cl := cl) (W := W) hu op'
  exact PE.imp (pe_chain hc.run hc'.run ha hb hgc hm) fun σ H Q h => chain_imp hc hc' h
theorem st_chain (hu : X.A.units + 65 < cLine) {op op' : CmpOp} (hm : lastMarks [op, op'] [b, c] = false) (ha : SE X cl W a ga) (hb : SE X cl W b gb) (hgc : SE X cl W c gc) :
    ST X cl W (.Compare a [op, op'] [b, c] pos) (fun s M => (ga s M).bind fun x M => (gb s M).bind fun y M => (cmpD M op x y).bind fun z M => brV z M (fun M => (gc s M).bind fun w M => cmpD M op' y w) (fun M => bl false M)) := by
  obtain ⟨rr, hc⟩ := cmp_all (cl := cl) (W := W) hu op
  obtain ⟨rr', hc'⟩ := cmp_all (cl := cl) (W := W) hu op'
  exact PT.imp (pt_chain hc.run hc'.run ha hb hgc hm) fun σ H Q h => chain_imp hc hc' (tT h)
end
end Gv

namespace Gv
open PySem PySem.Spec L2
section
variable {X : Cx} {cl : Nat → Addr} {W : WX} {a b c e : Expr} {es : List Expr} {ga gb gc ge : Slots → Store → R Val} {gs : Slots → Store → R (List Val)} {pos : Pos} {F : FEnv} {rest : List Expr}

/-! ### tests, and, or, not -/
abbrev SW (X : Cx) (cl : Nat → Addr) (W : WX) (e : Expr) (g : Slots → Store → R Val) : Prop := PW X e (rdT X.K cl W g)
def eNot (g : Slots → Store → R Val) : Slots → Store → R Val := fun s M => (g s M).bind fun x M => (match x with | .d (.bool b) => bl (!b) M | _ => .bad)
def eAnd (f g : Slots → Store → R Val) : Slots → Store → R Val := fun s M => (f s M).bind fun x M => brV x M (fun M => g s M) (fun M => bl false M)
def eOr (f g : Slots → Store → R Val) : Slots → Store → R Val := fun s M => (f s M).bind fun x M => brV x M (fun M => bl true M) (fun M => g s M)
def eIf (c f g : Slots → Store → R Val) : Slots → Store → R Val := fun s M => (c s M).bind fun x M => brV x M (fun M => f s M) (fun M => g s M)
theorem se_neg (ha : SE X cl W a ga) : SE X cl W (.UnaryOp .USub a pos) (fun s M => (ga s M).bind fun x M => (match x with | .d (.int i) => .ok (.d (.int (-i))) M | _ => .bad)) :=
  PE.imp (pe_un un_neg ha) fun σ H Q ⟨B, r, M, s, R, S, o⟩ => ⟨B, r, M, s, R, S, o.step fun x v r1 M1 H1 g1 R1 v1 o1 => by
    split at o1
    · rename_i i
      exact ⟨i, v1.int, Out.here (u := .int (-i)) o1 R1 (.d (.int _))⟩
    · exact o1.elim⟩
theorem se_not (ha : SE X cl W a ga) : SE X cl W (.UnaryOp .Not a pos) (eNot ga) :=
  PE.imp (pe_not ha) fun σ H Q ⟨B, r, M, s, R, S, o⟩ => ⟨B, r, M, s, R, S, o.step fun x v r1 M1 H1 g1 R1 v1 o1 => by
    split at o1
    · rename_i i
      exact ⟨i, v1.bool, bl_ok R1 o1⟩
    · exact o1.elim⟩
theorem st_not (ha : ST X cl W a ga) : ST X cl W (.UnaryOp .Not a pos) (eNot ga) :=
  PT.imp (pt_not ha) fun σ H Q ⟨B, r, M, s, R, S, o⟩ => ⟨B, r, M, s, R, S, o.step fun x v r1 M1 H1 g1 R1 v1 o1 => by
    split at o1
    · rename_i i
      obtain ⟨b, e, q⟩ := Out.here (u := .bl (!i)) o1 R1 (.d (.bl _))
      cases e
      exact ⟨i, rfl, q⟩
    · exact o1.elim⟩
theorem se_one {op : BoolOp} (ha : SE X cl W a ga) : SE X cl W (.BoolOp op [a] pos) ga := pe_one ha
theorem sw_and1 (ha : ST X cl W a ga) : SW X cl W (.BoolOp .And [a] pos) ga := pw_and1 ha
theorem sw_or1 (ha : ST X cl W a ga) : SW X cl W (.BoolOp .Or [a] pos) ga := pw_or1 ha
theorem se_and (ha : SE X cl W a ga) (hb : SE X cl W (.BoolOp .And (b :: rest) pos) gb) : SE X cl W (.BoolOp .And (a :: b :: rest) pos) (eAnd ga gb) :=
  PE.imp (pe_and ha hb) fun σ H Q ⟨B, r, M, s, R, S, o⟩ => ⟨B, r, M, s, R, S, o.step fun x v r1 M1 H1 g1 R1 v1 o1 => by
    dsimp only [brV] at o1
    split at o1
    · exact ⟨true, v1.bool, by rw [if_pos rfl]; exact ⟨B, r1, M1, s, R1, S.mono g1, o1⟩⟩
    · exact ⟨false, v1.bool, by rw [if_neg Bool.false_ne_true]; exact bl_ok R1 o1⟩
    · exact o1.elim⟩
theorem se_or (ha : SE X cl W a ga) (hb : SE X cl W (.BoolOp .Or (b :: rest) pos) gb) : SE X cl W (.BoolOp .Or (a :: b :: rest) pos) (eOr ga gb) :=
  PE.imp (pe_or ha hb) fun σ H Q ⟨B, r, M, s, R, S, o⟩ => ⟨B, r, M, s, R, S, o.step fun x v r1 M1 H1 g1 R1 v1 o1 => by
    dsimp only [brV] at o1
    split at o1
    · exact ⟨true, v1.bool, by rw [if_pos rfl]; exact bl_ok R1 o1⟩
    · exact ⟨false, v1.bool, by rw [if_neg Bool.false_ne_true]; exact ⟨B, r1, M1, s, R1, S.mono g1, o1⟩⟩
    · exact o1.elim⟩
theorem sw_and (ha : ST X cl W a ga) (hb : SW X cl W (.BoolOp .And (b :: rest) pos) gb) : SW X cl W (.BoolOp .And (a :: b :: rest) pos) (eAnd ga gb) :=
  PW.imp (pw_and ha hb) fun σ H Q ⟨B, r, M, s, R, S, o⟩ => ⟨B, r, M, s, R, S, o.step fun x v r1 M1 H1 g1 R1 v1 o1 => by
    dsimp only [brV] at o1
    split at o1
    · exact ⟨true, rfl, by dsimp only; rw [if_pos rfl]; exact ⟨B, r1, M1, s, R1, S.mono g1, o1⟩⟩
    · obtain ⟨b, e, q⟩ := Out.here (u := .bl false) o1 R1 (.d (.bl _))
      cases e
      exact ⟨false, rfl, by dsimp only; rw [if_neg Bool.false_ne_true]; exact q⟩
    · exact o1.elim⟩
theorem sw_or (ha : ST X cl W a ga) (hb : SW X cl W (.BoolOp .Or (b :: rest) pos) gb) : SW X cl W (.BoolOp .Or (a :: b :: rest) pos) (eOr ga gb) :=
  PW.imp (pw_or ha hb) fun σ H Q ⟨B, r, M, s, R, S, o⟩ => ⟨B, r, M, s, R, S, o.step fun x v r1 M1 H1 g1 R1 v1 o1 => by
    dsimp only [brV] at o1
    split at o1
    · obtain ⟨b, e, q⟩ := Out.here (u := .bl true) o1 R1 (.d (.bl _))
      cases e
      exact ⟨true, rfl, by dsimp only; rw [if_pos rfl]; exact q⟩
    · exact ⟨false, rfl, by dsimp only; rw [if_neg Bool.false_ne_true]; exact ⟨B, r1, M1, s, R1, S.mono g1, o1⟩⟩
    · exact o1.elim⟩
theorem st_val (h : SE X cl W e ge) (he : ∀ whole, isTrue e X.env whole = (do let v ← whole; standAt e.pos; holding [v] (truthy v))) : ST X cl W e ge :=
  PT.imp (pt_val h he) fun σ H Q h => tT h
theorem se_if (hc : ST X cl W c gc) (ha : SE X cl W a ga) (hb : SE X cl W b gb) : SE X cl W (.IfExp c a b pos) (eIf gc ga gb) :=
  PE.imp (pe_ifExp hc ha hb) fun σ H Q ⟨B, r, M, s, R, S, o⟩ => ⟨B, r, M, s, R, S, o.step fun x v r1 M1 H1 g1 R1 v1 o1 => by
    dsimp only [brV] at o1
    split at o1
    · exact ⟨true, rfl, by dsimp only; rw [if_pos rfl]; exact ⟨B, r1, M1, s, R1, S.mono g1, o1⟩⟩
    · exact ⟨false, rfl, by dsimp only; rw [if_neg Bool.false_ne_true]; exact ⟨B, r1, M1, s, R1, S.mono g1, o1⟩⟩
    · exact o1.elim⟩

/-! ### displays -/
def eNil : Slots → Store → R (List Val) := fun _ M => .ok [] M
def eCons (g : Slots → Store → R Val) (gs : Slots → Store → R (List Val)) : Slots → Store → R (List Val) := fun s M => (g s M).bind fun v M => (gs s M).bind fun vs M => .ok (v :: vs) M
theorem sa_nil : SA X cl W [] eNil := PA.imp pa_nil fun σ H Q ⟨B, r, M, s, R, S, o⟩ => Out.here (u := ([] : List V)) o R .nil
theorem sa_cons (ha : SE X cl W e ge) (hr : SA X cl W es gs) (hs : starEach (e :: es) X.env = (false, eval e X.env) :: starEach es X.env) : SA X cl W (e :: es) (eCons ge gs) :=
  PA.imp (pa_cons ha hr hs) fun σ H Q ⟨B, r, M, s, R, S, o⟩ => ⟨B, r, M, s, R, S, o.step fun x v r1 M1 H1 g1 R1 v1 o1 =>
    ⟨B, r1, M1, s, R1, S.mono g1, o1.step fun xs vs r2 M2 H2 g2 R2 v2 o2 => Out.here (u := x :: xs) o2 R2 (.cons (v1.mono g2) v2)⟩⟩
theorem Out.stepE {K : PySem.W.Frag} {σ : L2.St} {B r : List Addr} {H : Hp} {α β γ δ : Type} {P : List Addr → Hp → β → α → Prop} {P' : List Addr → Hp → δ → γ → Prop} {x : R α} {f : α → Store → R γ} {k : δ → γ → List Addr → Store → Hp → Prop} {k' : β → α → List Addr → Store → Hp → Prop}
    (o : Out K cl P' W σ B r H (x.bind f) k)
    (h : ∀ u v r1 M1 H1, x = .ok v M1 → Grow r H r1 H1 → Rel K cl B r1 M1 H1 → P r1 H1 u v → Out K cl P' W σ B r1 H1 (f v M1) k → k' u v r1 M1 H1) : Out K cl P W σ B r H x k' := by
  have key := Out.step (P := P) (k' := fun u v r1 M1 H1 => x = .ok v M1 → k' u v r1 M1 H1) o fun u v r1 M1 H1 g R p o1 e => h u v r1 M1 H1 e g R p o1
  cases x with
  | bad => exact key
  | exc c M' => exact key
  | ok v M' => exact fun u H' r' g R p => key u H' r' g R p rfl
/-- the count of what is evaluated -/
def Cnt (n : Nat) (gs : Slots → Store → R (List Val)) : Prop := ∀ s M vs M', gs s M = .ok vs M' → vs.length = n
theorem cnt_nil : Cnt 0 eNil := fun s M vs M' e => by cases e; rfl
theorem cnt_cons {n : Nat} (h : Cnt n gs) : Cnt (n + 1) (eCons ge gs) := fun s M vs M' e => by
  unfold eCons at e
  cases q : ge s M with
  | bad => rw [q] at e; cases e
  | exc c M' => rw [q] at e; cases e
  | ok v M1 =>
    rw [q] at e
    simp only [R.bind_ok] at e
    cases q2 : gs s M1 with
    | bad => rw [q2] at e; cases e
    | exc c M' => rw [q2] at e; cases e
    | ok ws M2 =>
      rw [q2] at e
      cases e
      simp [h s M1 ws _ q2]
theorem se_tup {x1} {n : Nat} (hn : Cnt n gs) (hl : n ≤ lim) (h : SA X cl W es gs) : SE X cl W (.Tuple es x1 pos) (fun s M => (gs s M).bind fun vs M => (match allD vs with | some ds => .ok (.d (.tuple ds)) M | none => .bad)) :=
  PE.imp (pe_tup h) fun σ H Q ⟨B, r, M, s, R, S, o⟩ => ⟨B, r, M, s, R, S, o.stepE fun xs vs r1 M1 H1 e g1 R1 v1 o1 => by
    have hv := hn s M vs M1 e
    split at o1
    · rename_i ds ed
      have hd := VRs.allD v1 ed
      have hlx : xs.length = n := by rw [Paired.length v1, hv]
      refine ⟨by rw [hlx, ← lim_eq]; exact hl, fun p hp => ?_⟩
      obtain ⟨_, _, _, q⟩ := Out.newT o1 R1 hd (by rw [← hd.length, hlx]; exact hl) hp
      exact q
    · exact o1.elim⟩
theorem se_lst {al : Bool} {n : Nat} (hn : Cnt n gs) (hl : n ≤ lim) (h : SA X cl W es gs) : SE X cl W (.List es pos) (fun s M => (gs s M).bind fun vs M => mkLV al vs M) :=
  PE.imp (pe_lst h) fun σ H Q ⟨B, r, M, s, R, S, o⟩ => ⟨B, r, M, s, R, S, o.stepE fun xs vs r1 M1 H1 e g1 R1 v1 o1 => by
    have hv := hn s M vs M1 e
    have hlx : xs.length = n := by rw [Paired.length v1, hv]
    refine ⟨by rw [hlx, ← lim_eq]; exact hl, fun p hp => ?_⟩
    obtain ⟨_, _, _, q⟩ := Out.newLV o1 R1 v1 (by rw [hv]; exact hl) hp
    exact q⟩

/-! ### subscripts -/
theorem atI_eq : @Gv.atI = @L2.atI := rfl
theorem DRs.at {K : PySem.W.Frag} {B r : List Addr} {H : Hp} {xs : List V} {ds : List PyData} {i : Int} {d : PyData} (h : DRs K B r H xs ds) (e : Gv.atI ds i = some d) : ∃ x, L2.atI xs i = some x ∧ DR K B r H x d := by
  unfold Gv.atI at e
  simp only [Option.bind_eq_some_iff] at e
  obtain ⟨j, e1, e2⟩ := e
  obtain ⟨x, hx, hd⟩ := h.get e2
  refine ⟨x, ?_, hd⟩
  show (L2.ixN xs.length i).bind (fun j => xs[j]?) = some x
  have : L2.ixN xs.length i = some j := by rw [h.length]; exact e1
  rw [this]
  exact hx
theorem paired_get {α β : Type} {P : α → β → Prop} : ∀ {xs : List α} {ys : List β} {i : Nat} {y : β}, Paired P xs ys → ys[i]? = some y → ∃ x, xs[i]? = some x ∧ P x y
  | _, _, _, _, .nil, e => by simp at e
  | _, _, 0, _, .cons a _, e => by simp at e; subst e; exact ⟨_, rfl, a⟩
  | _, _, i + 1, _, .cons _ t, e => by simp at e; exact paired_get (i := i) t e
theorem VRs.at {K : PySem.W.Frag} {B r : List Addr} {H : Hp} {xs : List V} {vs : List Val} {i : Int} {v : Val} (h : VRs K cl B r H xs vs) (e : Gv.atI vs i = some v) : ∃ x, L2.atI xs i = some x ∧ VR K cl B r H x v := by
  unfold Gv.atI at e
  simp only [Option.bind_eq_some_iff] at e
  obtain ⟨j, e1, e2⟩ := e
  obtain ⟨x, hx, hd⟩ := paired_get h e2
  refine ⟨x, ?_, hd⟩
  show (L2.ixN xs.length i).bind (fun j => xs[j]?) = some x
  have : L2.ixN xs.length i = some j := by rw [Paired.length h]; exact e1
  rw [this]
  exact hx
theorem ix_ok {K : PySem.W.Frag} {σ : L2.St} {B r : List Addr} {H : Hp} {M : Store} {Q : VK} {x y : V} {v w : Val} (R : Rel K cl B r M H) (hx : VR K cl B r H x v) (hy : VR K cl B r H y w) (o : Out K cl (VR K cl B) W σ B r H (idxD M v w) (KQ Q)) : rIx K x y H Q := by
  unfold idxD at o
  split at o
  · split at o
    · rename_i e
      obtain ⟨a, xs, rfl, h, _, _, _, hs⟩ := hx.list
      obtain rfl := hy.int
      obtain ⟨u, e1, hd⟩ := hs.at e
      exact .inl ⟨a, xs, _, u, rfl, rfl, .inl (.inl h), e1, o.here R (.d hd)⟩
    · exact o.elim
  · split at o
    · rename_i e
      obtain ⟨a, xs, rfl, h, _, hs⟩ := hx.tuple
      obtain rfl := hy.int
      obtain ⟨u, e1, hd⟩ := hs.at e
      exact .inr (.inl ⟨a, xs, _, u, rfl, rfl, h, e1, o.here R (.d hd)⟩)
    · exact o.elim
  · split at o
    · rename_i hz
      split at o
      · rename_i e
        obtain rfl := hx.str
        obtain rfl := hy.int
        exact .inr (.inr ⟨_, _, _, rfl, rfl, by rw [← lim_eq]; exact hz, e, Out.here (u := .str _) o R (.d (.str _))⟩)
      · exact o.elim
    · exact o.elim
  · split at o
    · rename_i vs e
      split at o
      · rename_i u eu
        obtain ⟨p, rfl, hp⟩ := hx.atRef
        obtain rfl := hy.int
        obtain ⟨c, e1, hc⟩ := R.mem hp
        rw [e] at e1
        cases e1
        cases hc with
        | lst h' l hs =>
          obtain ⟨x', ex, hv⟩ := hs.at eu
          exact .inl ⟨p, _, _, x', rfl, rfl, .inl (.inl h'), ex, o.here R hv⟩
      · exact o.elim
    · exact o.elim
  · exact o.elim
theorem se_idx (ha : SE X cl W a ga) (hb : SE X cl W b gb) (hs : PlainIx b) : SE X cl W (.Subscript a b pos) (fun s M => (ga s M).bind fun x M => (gb s M).bind fun y M => idxD M x y) :=
  PE.imp (pe_ix ix_seq ha hb hs) fun σ H Q ⟨B, r, M, s, R, S, o⟩ => ⟨B, r, M, s, R, S, o.step fun x v r1 M1 H1 g1 R1 v1 o1 =>
    ⟨B, r1, M1, s, R1, S.mono g1, o1.step fun y w r2 M2 H2 g2 R2 v2 o2 => ix_ok R2 (v1.mono g2) v2 o2⟩⟩

/-! ### slices -/
def rdO (K : PySem.W.Frag) (cl : Nat → Addr) (W : WX) (g : Slots → Store → R Val) : TO := fun σ H Q => ∃ B r M s, Rel K cl B r M H ∧ SRel K cl B r H σ s ∧
  Out K cl (VR K cl B) W σ B r H (g s M) fun _ v _ _ H' => ∃ p, part v = some p ∧ Q p H'
structure SO (X : Cx) (cl : Nat → Addr) (W : WX) (e : Option Expr) (g : Slots → Store → R Val) : Prop where
  run : PO X e (rdO X.K cl W g)
theorem PO.imp {e : Option Expr} {t t' : TO} (h : PO X e t) (i : ∀ σ H Q, t' σ H Q → t σ H Q) : PO X e t' := ⟨fun pins s σ H Q I w => h.run pins s σ H Q I (i σ H Q w)⟩
theorem so_none : SO X cl W none (fun _ M => .ok (.d .none) M) :=
  ⟨PO.imp po_none fun σ H Q ⟨B, r, M, s, R, S, o⟩ => by
    obtain ⟨p, e, q⟩ := Out.here (u := .non) o R (.d .non)
    cases e
    exact q⟩
theorem so_some (h : SE X cl W e ge) : SO X cl W (some e) (fun s M => (ge s M).bind fun v M => (match v with | .d (.int i) => .ok (.d (.int i)) M | _ => .bad)) :=
  ⟨PO.imp (po_some h) fun σ H Q ⟨B, r, M, s, R, S, o⟩ => ⟨B, r, M, s, R, S, o.step fun x v r1 M1 H1 g1 R1 v1 o1 => by
    split at o1
    · rename_i i
      obtain ⟨p, e, q⟩ := Out.here (u := .int i) o1 R1 (.d (.int i))
      cases e
      exact ⟨i, v1.int, q⟩
    · exact o1.elim⟩⟩
theorem cut_dr {K : PySem.W.Frag} {B r : List Addr} {H : Hp} {xs : List V} {ds : List PyData} (h : DRs K B r H xs ds) (lo hi : Option Int) : DRs K B r H (cutV xs lo hi) (cut ds lo hi) := by
  unfold cutV cut
  rw [h.length]
  exact (h.drop _).take _
theorem cut_whole {α : Type} (ds : List α) (lo hi : Option Int) (h : HT.sIx ds.length 0 lo = 0 ∧ HT.sIx ds.length ds.length hi = ds.length) : cut ds lo hi = ds := by
  show (ds.drop (HT.sIx ds.length 0 lo)).take (HT.sIx ds.length ds.length hi - HT.sIx ds.length 0 lo) = ds
  rw [h.1, h.2]
  simp
theorem cut_len {α : Type} (ds : List α) (lo hi : Option Int) : (cut ds lo hi).length ≤ ds.length := by
  unfold cut
  rw [List.length_take, List.length_drop]
  omega
theorem sl_ok {K : PySem.W.Frag} {σ : L2.St} {B r : List Addr} {H : Hp} {M : Store} {Q : VK} {x : V} {v : Val} {al : Bool} {lo hi : Option Int} (R : Rel K cl B r M H) (hx : VR K cl B r H x v) (o : Out K cl (VR K cl B) W σ B r H (slD al M v lo hi) (KQ Q)) :
    rSlA K x lo hi H Q ∨ rSlL K x lo hi H Q := by
  unfold slD at o
  split at o
  · rename_i ds
    obtain ⟨a, xs, rfl, h, l, hs⟩ := hx.tuple
    refine .inl ⟨a, xs, rfl, h, fun hw => ?_, fun hw p hp => ?_⟩
    · rw [hs.length] at hw
      rw [cut_whole _ _ _ hw] at o
      exact o.here R (.d (.tup h l hs))
    · obtain ⟨_, _, _, q⟩ := Out.newT o R (cut_dr hs lo hi) (Nat.le_trans (cut_len _ _ _) l) hp
      exact q
  · split at o
    · rename_i xs e
      obtain ⟨pa, ys, rfl, ha, da, la⟩ := VR.lstD R hx e
      refine .inr ⟨pa, ys, rfl, .inl (.inl ha), fun p hp => ?_⟩
      obtain ⟨_, _, _, q⟩ := Out.newL o R (cut_dr da lo hi) (Nat.le_trans (cut_len _ _ _) la) hp
      exact q
    · exact o.elim
def eSl (al : Bool) (g l h : Slots → Store → R Val) : Slots → Store → R Val := fun s M => (g s M).bind fun x M => (l s M).bind fun l M => (ofOpt (part l) M).bind fun l M => (h s M).bind fun h M => (ofOpt (part h) M).bind fun h M => slD al M x l h
theorem se_sl {al : Bool} {lo hi : Option Expr} {gl gh : Slots → Store → R Val} {p2 : Pos} (he : SE X cl W e ge) (hl : SO X cl W lo gl) (hh : SO X cl W hi gh) : SE X cl W (.Subscript e (.Slice lo hi none p2) pos) (eSl al ge gl gh) :=
  PE.imp (pe_slice (sl_tupA.or sl_list) he hl.run hh.run) fun σ H Q ⟨B, r, M, s, R, S, o⟩ => ⟨B, r, M, s, R, S, o.step fun x v r1 M1 H1 g1 R1 v1 o1 =>
    ⟨B, r1, M1, s, R1, S.mono g1, o1.step fun _ l r2 M2 H2 g2 R2 v2 o2 => by
      have S2 := (S.mono g1).mono g2
      cases el : part l with
      | none => rw [el] at o2; exact o2.elim
      | some pl =>
        rw [el] at o2
        refine ⟨pl, rfl, B, r2, M2, s, R2, S2, Out.step (x := gh s M2) o2 fun _ h r3 M3 H3 g3 R3 v3 o3 => ?_⟩
        cases eh : part h with
        | none => rw [eh] at o3; exact o3.elim
        | some ph =>
          rw [eh] at o3
          exact ⟨ph, rfl, sl_ok R3 ((v1.mono g2).mono g3) o3⟩⟩⟩
end
end Gv

namespace Gv
open PySem PySem.Spec L2

/-! ### calls of built-ins -/
def notStar : Expr → Bool
  | .Starred .. => false
  | _ => true
theorem star_cons {e : Expr} {es : List Expr} {env : Env} (h : notStar e = true) : starEach (e :: es) env = (false, eval e env) :: starEach es env := by
  cases e <;> first | rfl | cases h
theorem star_all {env : Env} {pos : Pos} : ∀ {es : List Expr}, es.all notStar = true → ((backTo pos (starEach es env)).any fun x => x.1) = false
  | [], _ => rfl
  | e :: es, h => by
    simp only [List.all_cons, Bool.and_eq_true] at h
    rw [star_cons h.1]
    have ih := star_all (env := env) (pos := pos) h.2
    simp only [backTo, List.map_cons, List.any_cons, Bool.false_or] at ih ⊢
    exact ih
section
variable {X : Cx} {cl : Nat → Addr} {W : WX} {a b c e : Expr} {es : List Expr} {ga gb gc ge : Slots → Store → R Val} {gs : Slots → Store → R (List Val)} {pos p : Pos} {F : FEnv} {x : Str}

theorem se_callB {id : String} {rr : List V → Hp → VK → Prop} {f : List Val → Store → R Val} (hc : CallR X (.builtin id) rr) (hg : Gl X x) (hm : X.mg x = none) (hv : bootBuiltins x = some (.builtin id)) (ha : SA X cl W (e :: es) gs)
    (hk : ∀ (σ : L2.St) (B r : List Addr) (H : Hp) (M : Store) (Q : VK) (us : List V) (vs : List Val), Rel X.K cl B r M H → VRs X.K cl B r H us vs → Out X.K cl (VR X.K cl B) W σ B r H (f vs M) (KQ Q) → rr us H Q)
    (hs : (e :: es).all notStar = true) (hn : x ≠ "__name__") (hd : (x == ("__debug__" : Str)) = false) : SE X cl W (.Call (.Name x p) (e :: es) [] pos) (fun s M => (gs s M).bind fun vs M => f vs M) := by
  have hs' := hs
  simp only [List.all_cons, Bool.and_eq_true] at hs'
  exact PE.imp (pe_callB hc hg hm hv ha hn hd (star_cons hs'.1) (star_all hs'.2)) fun σ H Q ⟨B, r, M, s, R, S, o⟩ => ⟨B, r, M, s, R, S, o.step fun us vs r1 M1 H1 g1 R1 v1 o1 => hk σ B r1 H1 M1 Q us vs R1 v1 o1⟩
theorem se_callTy {T : String} {rr : List V → Hp → VK → Prop} {f : List Val → Store → R Val} (hc : CallR X (.type T) rr) (hg : Gl X x) (hm : X.mg x = none) (hv : bootBuiltins x = some (.type T)) (ha : SA X cl W (e :: es) gs)
    (hk : ∀ (σ : L2.St) (B r : List Addr) (H : Hp) (M : Store) (Q : VK) (us : List V) (vs : List Val), Rel X.K cl B r M H → VRs X.K cl B r H us vs → Out X.K cl (VR X.K cl B) W σ B r H (f vs M) (KQ Q) → rr us H Q)
    (hs : (e :: es).all notStar = true) (hn : x ≠ "__name__") (hd : (x == ("__debug__" : Str)) = false) : SE X cl W (.Call (.Name x p) (e :: es) [] pos) (fun s M => (gs s M).bind fun vs M => f vs M) := by
  have hs' := hs
  simp only [List.all_cons, Bool.and_eq_true] at hs'
  exact PE.imp (pe_callTy hc hg hm hv ha hn hd (star_cons hs'.1) (star_all hs'.2)) fun σ H Q ⟨B, r, M, s, R, S, o⟩ => ⟨B, r, M, s, R, S, o.step fun us vs r1 M1 H1 g1 R1 v1 o1 => hk σ B r1 H1 M1 Q us vs R1 v1 o1⟩

section
variable {K : PySem.W.Frag} {B r : List Addr} {H : Hp} {M : Store} {us : List V}
theorem VRs.one {v : Val} (h : VRs K cl B r H us [v]) : ∃ x, us = [x] ∧ VR K cl B r H x v := by
  cases h with | cons a t => cases t; exact ⟨_, rfl, a⟩
theorem VRs.two {v w : Val} (h : VRs K cl B r H us [v, w]) : ∃ x y, us = [x, y] ∧ VR K cl B r H x v ∧ VR K cl B r H y w := by
  cases h with | cons a t => cases t with | cons b t => cases t; exact ⟨_, _, rfl, a, b⟩
theorem VR.len (R : Rel K cl B r M H) {x : V} {v : Val} {n : Nat} (h : VR K cl B r H x v) (e : lenD M v = some n) : (∃ p ys, x = .ref p ∧ (SqL K H p ys ∨ SqT K H p ys) ∧ ys.length = n) ∨ (∃ z : Str, x = .str z ∧ z.length ≤ sizeLine ∧ z.length = n) := by
  unfold lenD at e
  split at e
  · obtain ⟨a, xs, rfl, h, _, _, _, hs⟩ := h.list
    cases e
    exact .inl ⟨a, xs, rfl, .inl (.inl (.inl h)), hs.length⟩
  · obtain ⟨a, xs, rfl, h, _, hs⟩ := h.tuple
    cases e
    exact .inl ⟨a, xs, rfl, .inr h, hs.length⟩
  · split at e
    · rename_i hz
      cases e
      exact .inr ⟨_, h.str, by rw [← lim_eq]; exact hz, rfl⟩
    · cases e
  · split at e
    · rename_i vs em
      obtain ⟨p, rfl, hp⟩ := h.atRef
      obtain ⟨c, e1, hc⟩ := R.mem hp
      rw [em] at e1
      cases e1
      cases e
      cases hc with
      | lst h' l hs => exact .inl ⟨p, _, rfl, .inl (.inl (.inl h')), Paired.length hs⟩
    · cases e
  · cases e
theorem DRs.bools : ∀ {xs : List V} {ds : List PyData} {bs : List Bool}, DRs K B r H xs ds → allB ds = some bs → xs = bs.map V.bl
  | _, _, _, .nil, e => by simp [allB] at e; subst e; rfl
  | _, _, _, .cons (d := d) a t, e => by
    cases a with
    | bl b =>
      simp only [allB, Option.map_eq_some_iff] at e
      obtain ⟨bs', e1, rfl⟩ := e
      rw [DRs.bools t e1]; rfl
    | _ => simp [allB] at e
theorem DRs.ofInts (ns : List Int) : DRs K B r H (ns.map V.int) (ns.map PyData.int) := by
  induction ns with
  | nil => exact .nil
  | cons n ns ih => exact .cons (.int n) ih
end

/-- the names of the built-ins that stand in the text -/
def bfName : Bf → Str
  | .len => "len" | .list => "list" | .tuple => "tuple" | .int => "int" | .min2 => "min" | .max2 => "max" | .all => "all" | .divmod => "divmod"
theorem se_bi {al : Bool} (f : Bf) (hcalm : X.calm = true) (hx : x = bfName f) (hg : Gl X x) (hm : X.mg x = none) (ha : SA X cl W (e :: es) gs) (hs : (e :: es).all notStar = true) :
    SE X cl W (.Call (.Name x p) (e :: es) [] pos) (fun s M => (gs s M).bind fun vs M => biD al f vs M) := by
  subst hx
  cases f with
  | len =>
    refine se_callB (id := "len") (f := fun vs M => biLen vs M) (call_len_seq.or call_len_str) hg hm (by decide +kernel) ha (fun σ B r H M Q us vs R hv o => ?_) hs (by decide) (by decide)
    unfold biLen at o
    split at o
    · obtain ⟨x, rfl, hx⟩ := VRs.one hv
      split at o
      · rename_i n e
        rcases VR.len R hx e with ⟨p, ys, rfl, hp, rfl⟩ | ⟨z, rfl, hz, rfl⟩
        · exact .inl ⟨p, ys, rfl, hp, Out.here (u := .int _) o R (.d (.int _))⟩
        · exact .inr ⟨z, rfl, hz, Out.here (u := .int _) o R (.d (.int _))⟩
      · exact o.elim
    · exact o.elim
  | list =>
    refine se_callTy (T := "list") (f := fun vs M => biList al vs M) call_list_of hg hm (by decide +kernel) ha (fun σ B r H M Q us vs R hv o => ?_) hs (by decide) (by decide)
    unfold biList at o
    split at o
    · obtain ⟨x, rfl, hx⟩ := VRs.one hv
      obtain ⟨a, xs, rfl, h, l, hd⟩ := hx.tuple
      refine ⟨a, xs, rfl, .inr h, fun p hp => ?_⟩
      obtain ⟨_, _, _, q⟩ := Out.newL o R hd l hp
      exact q
    · obtain ⟨x, rfl, hx⟩ := VRs.one hv
      split at o
      · rename_i hz
        cases hx with
        | scr h =>
          refine ⟨_, _, rfl, .inl h.sq, fun p hp => ?_⟩
          obtain ⟨_, _, _, q⟩ := Out.newL o R (DRs.ofInts _) (by simpa using hz) hp
          exact q
      · exact o.elim
    · obtain ⟨x, rfl, hx⟩ := VRs.one hv
      split at o
      · rename_i e
        obtain ⟨pa, ys, rfl, ha, da, la⟩ := VR.lstD R hx e
        refine ⟨pa, ys, rfl, .inl (.inl (.inl ha)), fun p hp => ?_⟩
        obtain ⟨_, _, _, q⟩ := Out.newL o R da la hp
        exact q
      · exact o.elim
    · exact o.elim
  | tuple =>
    refine se_callTy (T := "tuple") (f := fun vs M => biTuple vs M) call_tuple_of hg hm (by decide +kernel) ha (fun σ B r H M Q us vs R hv o => ?_) hs (by decide) (by decide)
    unfold biTuple at o
    split at o
    · obtain ⟨x, rfl, hx⟩ := VRs.one hv
      obtain ⟨a, xs, rfl, h, l, hd⟩ := hx.tuple
      exact ⟨a, xs, rfl, .inr ⟨h, o.here R (.d (.tup h l hd))⟩⟩
    · obtain ⟨x, rfl, hx⟩ := VRs.one hv
      split at o
      · rename_i e
        obtain ⟨pa, ys, rfl, ha, da, la⟩ := VR.lstD R hx e
        refine ⟨pa, ys, rfl, .inl ⟨.inl (.inl ha), fun p hp => ?_⟩⟩
        obtain ⟨_, _, _, q⟩ := Out.newT o R da la hp
        exact q
      · exact o.elim
    · exact o.elim
  | int =>
    refine se_callTy (T := "int") (f := fun vs M => biInt vs M) call_int1 hg hm (by decide +kernel) ha (fun σ B r H M Q us vs R hv o => ?_) hs (by decide) (by decide)
    unfold biInt at o
    split at o
    · rename_i i
      obtain ⟨x, rfl, hx⟩ := VRs.one hv
      obtain rfl := hx.int
      exact .inl ⟨i, rfl, Out.here (u := .int _) o R (.d (.int _))⟩
    · rename_i k
      obtain ⟨x, rfl, hx⟩ := VRs.one hv
      obtain rfl := hx.bool
      exact .inr ⟨k, rfl, Out.here (u := .int _) o R (.d (.int _))⟩
    · exact o.elim
  | min2 =>
    refine se_callB (id := "min") (f := fun vs M => biMin vs M) (call_min2 hcalm) hg hm (by decide +kernel) ha (fun σ B r H M Q us vs R hv o => ?_) hs (by decide) (by decide)
    unfold biMin at o
    split at o
    · rename_i i j
      obtain ⟨x, y, rfl, hx, hy⟩ := VRs.two hv
      obtain rfl := hx.int
      obtain rfl := hy.int
      exact ⟨i, j, rfl, Out.here (u := .int _) o R (.d (.int _))⟩
    · exact o.elim
  | max2 =>
    refine se_callB (id := "max") (f := fun vs M => biMax vs M) (call_max2 hcalm) hg hm (by decide +kernel) ha (fun σ B r H M Q us vs R hv o => ?_) hs (by decide) (by decide)
    unfold biMax at o
    split at o
    · rename_i i j
      obtain ⟨x, y, rfl, hx, hy⟩ := VRs.two hv
      obtain rfl := hx.int
      obtain rfl := hy.int
      exact ⟨i, j, rfl, Out.here (u := .int _) o R (.d (.int _))⟩
    · exact o.elim
  | all =>
    refine se_callB (id := "all") (f := fun vs M => biAll vs M) (cr_all hcalm) hg hm (by decide +kernel) ha (fun σ B r H M Q us vs R hv o => ?_) hs (by decide) (by decide)
    unfold biAll at o
    split at o
    · obtain ⟨x, rfl, hx⟩ := VRs.one hv
      split at o
      · rename_i bs e
        simp only [Option.bind_eq_some_iff] at e
        obtain ⟨ds, e1, e2⟩ := e
        obtain ⟨pa, ys, rfl, ha, da, la⟩ := VR.lstD R hx e1
        have := da.bools e2
        subst this
        exact ⟨pa, bs, rfl, .inl (.inl ha), bl_ok R o⟩
      · exact o.elim
    · exact o.elim
  | divmod =>
    refine se_callB (id := "divmod") (f := fun vs M => biDivmod vs M) call_divmod hg hm (by decide +kernel) ha (fun σ B r H M Q us vs R hv o => ?_) hs (by decide) (by decide)
    unfold biDivmod at o
    split at o
    · rename_i i j
      split at o
      · rename_i hl
        simp only [Bool.and_eq_true, decide_eq_true_eq] at hl
        obtain ⟨x, y, rfl, hx, hy⟩ := VRs.two hv
        obtain rfl := hx.int
        obtain rfl := hy.int
        refine ⟨i, j, rfl, hl, fun p hp => ?_⟩
        obtain ⟨_, _, _, q⟩ := Out.newT o R (.cons (.int _) (.cons (.int _) .nil)) (by show 2 ≤ lim; decide) hp
        exact q
      · exact o.elim
    · exact o.elim
end
end Gv

namespace Gv
open PySem PySem.Spec L2

/-! ### isinstance with a built-in class -/
def tyStr : Ty → String
  | .int => "int" | .bool => "bool" | .str => "str" | .list => "list" | .tuple => "tuple" | .none_ => "NoneType" | .verr => "ValueError" | .cls _ => "object"
section
variable {K : PySem.W.Frag} {cl : Nat → Addr} {B r : List Addr} {H : Hp} {M : Store}
theorem sqt_ty {a : Addr} {xs : List V} (h : SqT K H a xs) : TyX K H (.ref a) (.type "tuple") := by
  rcases h with (h | ⟨o, h⟩) | ⟨o, its, n, h1, h2, _⟩
  · exact .base (.tup h)
  · exact .fTuple h
  · exact .kTuple h1 h2
theorem VR.ty (R : Rel K cl B r M H) {x : V} {v : Val} {t : Ty} (h : VR K cl B r H x v) (e : tyD M v = some t) : TyX K H x (.type (tyStr t)) := by
  unfold tyD at e
  split at e
  · cases e; rw [h.none]; exact .base .non
  · cases e; rw [h.bool]; exact .base (.bl _)
  · cases e; rw [h.int]; exact .base (.int _)
  · cases e; rw [h.str]; exact .base (.str _)
  · cases e
    obtain ⟨a, xs, rfl, h, _, _, _, hs⟩ := h.list
    exact .base (.lst h)
  · cases e
    obtain ⟨a, xs, rfl, h, _, hs⟩ := h.tuple
    exact sqt_ty h
  · split at e
    · rename_i vs em
      obtain ⟨p, rfl, hp⟩ := h.atRef
      obtain ⟨c, e1, hc⟩ := R.mem hp
      rw [em] at e1
      cases e1
      cases e
      cases hc with
      | lst h' l hs => exact .base (.lst h')
    · cases e
  · cases e
theorem kit_all (u t : Ty) (hu : ∀ c, u ≠ .cls c) (hu2 : u ≠ .verr) (ht : plainTy t = true) : PySem.W.kitOne K (.type (tyStr u)) (.type (tyStr t)) = some (decide (u = t) || (decide (t = .int) && decide (u = .bool))) := by
  apply kit_ty
  cases t with
  | verr => cases ht
  | none_ => cases ht
  | cls c => cases ht
  | int => cases u <;> first | exact absurd rfl hu2 | exact absurd rfl (hu _) | decide +kernel
  | bool => cases u <;> first | exact absurd rfl hu2 | exact absurd rfl (hu _) | decide +kernel
  | str => cases u <;> first | exact absurd rfl hu2 | exact absurd rfl (hu _) | decide +kernel
  | list => cases u <;> first | exact absurd rfl hu2 | exact absurd rfl (hu _) | decide +kernel
  | tuple => cases u <;> first | exact absurd rfl hu2 | exact absurd rfl (hu _) | decide +kernel
theorem tyD_plain {v : Val} {t : Ty} (e : tyD M v = some t) : (∀ c, t ≠ .cls c) ∧ t ≠ .verr := by
  unfold tyD at e
  split at e <;> first | (cases e; exact ⟨fun c => by simp, by simp⟩) | skip
  · split at e <;> cases e
    exact ⟨fun c => by simp, by simp⟩
  · cases e
end
section
variable {X : Cx} {cl : Nat → Addr} {W : WX} {a b c e : Expr} {es : List Expr} {ga gb gc ge : Slots → Store → R Val} {gs : Slots → Store → R (List Val)} {pos p p2 : Pos} {F : FEnv} {x : Str}
def eIsi (sub : Nat → Nat → Bool) (t : Ty) (g : Slots → Store → R Val) : Slots → Store → R Val := fun s M => (g s M).bind fun x M => (match isiD sub M x t with
      | some b => bl b M
      | none => .bad)
def plainName : Str → Option Ty := fun x =>
  if x == "int" then some .int else if x == "bool" then some .bool else if x == "str" then some .str else if x == "list" then some .list else if x == "tuple" then some .tuple else none
theorem plainName_ok {x : Str} {t : Ty} (h : plainName x = some t) : plainTy t = true ∧ bootBuiltins x = some (.type (tyStr t)) ∧ x ≠ "__name__" ∧ (x == ("__debug__" : Str)) = false := by
  unfold plainName at h
  split at h
  · rename_i e; cases h; rw [eq_of_beq e]; exact ⟨rfl, by decide +kernel, by decide, by decide⟩
  · split at h
    · rename_i e; cases h; rw [eq_of_beq e]; exact ⟨rfl, by decide +kernel, by decide, by decide⟩
    · split at h
      · rename_i e; cases h; rw [eq_of_beq e]; exact ⟨rfl, by decide +kernel, by decide, by decide⟩
      · split at h
        · rename_i e; cases h; rw [eq_of_beq e]; exact ⟨rfl, by decide +kernel, by decide, by decide⟩
        · split at h
          · rename_i e; cases h; rw [eq_of_beq e]; exact ⟨rfl, by decide +kernel, by decide, by decide⟩
          · cases h
theorem se_isi {sub : Nat → Nat → Bool} {y : Str} {t : Ty} (hg : Gl X "isinstance") (hm : X.mg "isinstance" = none) (hgy : Gl X y) (hmy : X.mg y = none) (hy : plainName y = some t) (ha : SE X cl W a ga) (hs : notStar a = true) :
    SE X cl W (.Call (.Name "isinstance" p) [a, .Name y p2] [] pos) (eIsi sub t ga) := by
  obtain ⟨ht, hb, hn, hd⟩ := plainName_ok hy
  have hp : PE X (.Name y p2) (tC (.ty (tyStr t))) := pe_bltn hgy hmy hb rfl hn hd
  refine PE.imp (pe_callB call_isi hg hm (by decide +kernel) (pa_cons ha (pa_cons hp pa_nil (star_cons rfl)) (star_cons hs)) (by decide) (by decide) (star_cons hs) (star_all (by rfl))) fun σ H Q ⟨B, r, M, s, R, S, o⟩ => ⟨B, r, M, s, R, S, o.step fun x v r1 M1 H1 g1 R1 v1 o1 => ?_⟩
  split at o1
  · rename_i k e
    unfold isiD at e
    split at e
    · cases ht
    · cases ht
    · rw [if_pos ht] at e
      simp only [Option.map_eq_some_iff] at e
      obtain ⟨u, e1, e2⟩ := e
      subst e2
      obtain ⟨q1, q2⟩ := tyD_plain e1
      exact ⟨x, .ty (tyStr t), _, _, _, rfl, .ty _, v1.ty R1 e1, kit_all u t q1 q2 ht, bl_ok R1 o1⟩
  · exact o1.elim

/-! ### a def is called -/
def spF (K : PySem.W.Frag) (cl : Nat → Addr) (n : Nat) (g : List Val → Store → R Val) : Sp := fun us H Q E => us.length = n ∧ ∃ B r M vs, Rel K cl B r M H ∧ VRs K cl B r H us vs ∧
  Out K cl (VR K cl B) (fun c d _ H => E c d H) [] B r H (g vs M) (KQ Q)
end
section
variable {K : PySem.W.Frag} {cl : Nat → Addr} {B r : List Addr} {H H' : Hp} {M : Store}
mutual
theorem DR.block : ∀ {x : V} {d : PyData}, DR K B r H x d → DR K (B ++ r) [] H x d
  | _, _, .non => .non
  | _, _, .bl b => .bl b
  | _, _, .int i => .int i
  | _, _, .str x => .str x
  | _, _, .lst h n1 n2 l hs => .lst h (by simp [n1, n2]) (by simp) l (DRs.block hs)
  | _, _, .tup h l hs => .tup h l (DRs.block hs)
theorem DRs.block : ∀ {xs : List V} {ds : List PyData}, DRs K B r H xs ds → DRs K (B ++ r) [] H xs ds
  | _, _, .nil => .nil
  | _, _, .cons a b => .cons (DR.block a) (DRs.block b)
end
mutual
theorem DR.unblock {r' : List Addr} : ∀ {x : V} {d : PyData}, DR K (B ++ r) r' H x d → DR K B (r ++ r') H x d
  | _, _, .non => .non
  | _, _, .bl b => .bl b
  | _, _, .int i => .int i
  | _, _, .str x => .str x
  | _, _, .lst h n1 n2 l hs => .lst h (fun z => n1 (List.mem_append_left _ z)) (fun z => (List.mem_append.mp z).elim (fun q => n1 (List.mem_append_right _ q)) n2) l (DRs.unblock hs)
  | _, _, .tup h l hs => .tup h l (DRs.unblock hs)
theorem DRs.unblock {r' : List Addr} : ∀ {xs : List V} {ds : List PyData}, DRs K (B ++ r) r' H xs ds → DRs K B (r ++ r') H xs ds
  | _, _, .nil => .nil
  | _, _, .cons a b => .cons (DR.unblock a) (DRs.unblock b)
end
theorem VR.unblock {r' : List Addr} {x : V} {v : Val} (h : VR K cl (B ++ r) r' H x v) : VR K cl B (r ++ r') H x (v.shift r.length) := by
  cases h with
  | d h => exact .d h.unblock
  | ref h =>
    rename_i a n
    refine .ref ?_
    rw [List.getElem?_append_right (by omega)]
    simpa using h
  | exc h n1 n2 => exact .exc h (fun z => n1 (List.mem_append_left _ z)) (fun z => (List.mem_append.mp z).elim (fun q => n1 (List.mem_append_right _ q)) n2)
  | scr h =>
    rcases h with ⟨h, n1, n2⟩ | h
    · exact .scr (.inl ⟨h, fun z => n1 (List.mem_append_left _ z), fun z => (List.mem_append.mp z).elim (fun q => n1 (List.mem_append_right _ q)) n2⟩)
    · exact .scr (.inr h)
theorem VRs.unblock {r' : List Addr} : ∀ {xs : List V} {vs : List Val}, VRs K cl (B ++ r) r' H xs vs → VRs K cl B (r ++ r') H xs (vs.map (Val.shift r.length))
  | _, _, .nil => .nil
  | _, _, .cons a t => .cons (VR.unblock a) (VRs.unblock t)
theorem CR.unblock {r' : List Addr} {a : Addr} {c : Cell} (h : CR K cl (B ++ r) r' H a c) : CR K cl B (r ++ r') H a (c.shift r.length) := by
  cases h with
  | lst h l hs => exact .lst h (by simpa using l) hs.unblock
/-- a call that is handed data alone: its own store -/
theorem Rel.apart (R : Rel K cl B r M H) : Rel K cl (B ++ r) [] [] H := by
  refine ⟨rfl, List.nodup_nil, fun a h => by simp at h, fun a h => ?_, fun n c a e => by simp at e⟩
  rcases List.mem_append.mp h with q | q
  · exact R.bs a q
  · obtain ⟨o, e, _⟩ := R.isSome q
    rw [e]; exact fun z => nomatch z
theorem Grow.apart {r' : List Addr} (g : Grow [] H r' H') : Grow r H (r ++ r') H' := by
  refine ⟨⟨r', rfl⟩, fun a o h _ => g.keep a o h (by simp), fun a h => ?_, g.some, g.tup⟩
  rcases List.mem_append.mp h with q | q
  · exact .inl q
  · rcases g.new a q with z | z
    · simp at z
    · exact .inr z
theorem Grow.apart0 {r' : List Addr} (g : Grow [] H r' H') : Grow r H r H' :=
  ⟨⟨[], by simp⟩, fun a o h _ => g.keep a o h (by simp), fun a h => .inl h, g.some, g.tup⟩
theorem Rel.apart0 {r' : List Addr} (R : Rel K cl B r M H) (g : Grow [] H r' H') : Rel K cl B r M H' := by
  refine ⟨R.len, R.nd, R.blk, fun a h => g.some a (R.bs a h), fun n c a e1 e2 => (R.cell n c a e1 e2).mono g.apart0 ?_⟩
  obtain ⟨o, q, _⟩ := R.isSome (List.mem_of_getElem? e2)
  rw [q]; exact g.keep a o q (by simp)
theorem Rel.join {r' : List Addr} {M' : Store} (R : Rel K cl B r M H) (g : Grow [] H r' H') (R' : Rel K cl (B ++ r) r' M' H') : Rel K cl B (r ++ r') (M ++ M'.map (Cell.shift M.length)) H' := by
  have fresh : ∀ a ∈ r', H a = none := fun a h => by
    rcases g.new a h with z | z
    · simp at z
    · exact z
  refine ⟨by simp [R.len, R'.len], ?_, fun a h => ?_, fun a h => g.some a (R.bs a h), fun n c a e1 e2 => ?_⟩
  · rw [List.nodup_append]
    refine ⟨R.nd, R'.nd, fun a ha b hb e => ?_⟩
    obtain ⟨o, q, _⟩ := R.isSome ha
    rw [e, fresh b hb] at q
    cases q
  · rcases List.mem_append.mp h with q | q
    · exact R.blk a q
    · exact fun z => R'.blk a q (List.mem_append_left _ z)
  · by_cases hn : n < M.length
    · have hr : n < r.length := by rw [R.len]; exact hn
      rw [List.getElem?_append_left hn] at e1
      rw [List.getElem?_append_left hr] at e2
      refine (R.cell n c a e1 e2).mono g.apart ?_
      obtain ⟨o, q, _⟩ := R.isSome (List.mem_of_getElem? e2)
      rw [q]; exact g.keep a o q (by simp)
    · rw [List.getElem?_append_right (by omega)] at e1
      rw [List.getElem?_append_right (by rw [R.len]; omega), R.len] at e2
      simp only [List.getElem?_map, Option.map_eq_some_iff] at e1
      obtain ⟨c', e3, rfl⟩ := e1
      rw [← R.len]
      exact (R'.cell _ c' a e3 e2).unblock
end
section
variable {X : Cx} {cl : Nat → Addr} {W : WX} {e : Expr} {es : List Expr} {gs : Slots → Store → R (List Val)} {pos p : Pos} {F : FEnv} {x : Str}
theorem call_sp {K : PySem.W.Frag} {σ : L2.St} {B r : List Addr} {H : Hp} {M : Store} {Q : VK} {us : List V} {vs : List Val} {i n : Nat} (R : Rel K cl B r M H) (hv : VRs K cl B r H us vs) (hn : us.length = n) (o : Out K cl (VR K cl B) W σ B r H (callV F i vs M) (KQ Q)) :
    spF K cl n (F.call i) us H Q (WE W σ) := by
  refine ⟨hn, ?_⟩
  unfold callV at o
  cases ed : allD vs with
  | none =>
    rw [ed] at o
    refine ⟨B, r, M, vs, R, hv, ?_⟩
    cases q : F.call i vs M with
    | bad => rw [q] at o; exact o
    | exc c M' => rw [q] at o; exact o
    | ok v M' => rw [q] at o; exact o
  | some ds =>
    rw [ed] at o
    have hd := VRs.allD hv ed
    have hvs : vs = ds.map .d := by
      clear o hv R hd hn
      induction vs generalizing ds with
      | nil => simp [allD] at ed; subst ed; rfl
      | cons v vs ih =>
        cases v with
        | d y =>
          simp only [allD, Option.map_eq_some_iff] at ed
          obtain ⟨ds', e1, rfl⟩ := ed
          simp [ih ds' e1]
        | _ => simp [allD] at ed
    refine ⟨B ++ r, [], [], vs, R.apart, by rw [hvs]; exact hd.block.vrs, ?_⟩
    cases q : F.call i vs [] with
    | bad => simp only [q] at o; exact o
    | exc c M' => simp only [q] at o; exact fun H' r' g R' => o H' r g.apart0 (R.apart0 g)
    | ok v M' =>
      simp only [q] at o
      intro u H' r' g R' hu
      exact o u H' (r ++ r') g.apart (R.join g R') (by rw [← R.len]; exact hu.unblock)
theorem se_call {i n k : Nat} {f : Addr} {fd : FuncData} {ps : List Str} (hF : FnOk X.prog X.w X.K X.mg X.base (L2.CX X.prog X.w) k f fd ps (spF X.K cl n (F.call i))) (hr : Room k X.A) (hg : Gl X x) (hm : X.mg x = some (.ref f))
    (hk : PySem.W.keepIn X.K (.ref f) = true) (hb : Binds X.K fd ps []) (tk : Takes X W) (hn : Cnt n gs) (ha : SA X cl W (e :: es) gs) (hs : (e :: es).all notStar = true) (hd : (x == ("__debug__" : Str)) = false) :
    SE X cl W (.Call (.Name x p) (e :: es) [] pos) (fun s M => (gs s M).bind fun vs M => callV F i vs M) := by
  have hs' := hs
  simp only [List.all_cons, Bool.and_eq_true] at hs'
  exact PE.imp (pe_callS hF hr hg hm hk hb (fun σ => passAt tk σ) ha hd (star_cons hs'.1) (star_all hs'.2)) fun σ H Q ⟨B, r, M, s, R, S, o⟩ => ⟨B, r, M, s, R, S, o.stepE fun us vs r1 M1 H1 e g1 R1 v1 o1 =>
    call_sp R1 v1 (by rw [Paired.length v1]; exact hn s M vs M1 e) o1⟩
end
end Gv

namespace Gv
open PySem PySem.Spec L2

/-! ### what is walked -/
inductive ItR (K : PySem.W.Frag) (cl : Nat → Addr) (B : List Addr) (r : List Addr) (H : Hp) : It → List Val → Prop
  | lst {a : Addr} {xs : List V} {ds : List PyData} : H a = some (.lst xs) → a ∉ B → a ∉ r → ds.length ≤ lim → DRs K B r H xs ds → ItR K cl B r H (Itl K a) (ds.map .d)
  | tup {a : Addr} {xs : List V} {ds : List PyData} : SqT K H a xs → ds.length ≤ lim → DRs K B r H xs ds → ItR K cl B r H (Itt K a) (ds.map .d)
  | rng {lo : Int} {n : Nat} : n ≤ lim → ItR K cl B r H (Itr lo n) (upTo lo n)
  | enm {a : Addr} {xs : List V} {ds : List PyData} : H a = some (.lst xs) → a ∉ B → a ∉ r → ds.length ≤ lim → DRs K B r H xs ds →
      ItR K cl B r H (Ite K a) ((List.range ds.length).zipWith (fun (k : Nat) x => Val.d (.tuple [.int (k : Int), x])) ds)
  | enmT {a : Addr} {xs : List V} {ds : List PyData} : SqT K H a xs → ds.length ≤ lim → DRs K B r H xs ds →
      ItR K cl B r H (ItT K a) ((List.range ds.length).zipWith (fun (k : Nat) x => Val.d (.tuple [.int (k : Int), x])) ds)
section
variable {K : PySem.W.Frag} {cl : Nat → Addr} {B r r' : List Addr} {H H' : Hp} {M : Store} {J : It} {vs : List Val}
theorem ItR.mono (g : Grow r H r' H') (h : ItR K cl B r H J vs) : ItR K cl B r' H' J vs := by
  cases h with
  | lst h n1 n2 l hs => exact .lst (g.keep _ _ h n2) n1 (g.notin (.inl h) n2) l (hs.mono g)
  | tup h l hs => exact .tup (g.sqt h) l (hs.mono g)
  | rng l => exact .rng l
  | enm h n1 n2 l hs => exact .enm (g.keep _ _ h n2) n1 (g.notin (.inl h) n2) l (hs.mono g)
  | enmT h l hs => exact .enmT (g.sqt h) l (hs.mono g)
theorem ItR.len (h : ItR K cl B r H J vs) : vs.length ≤ lim := by
  cases h with
  | lst h n1 n2 l hs => simpa using l
  | tup h l hs => simpa using l
  | rng l => simpa [upTo] using l
  | enm h n1 n2 l hs => simpa using l
  | enmT h l hs => simpa using l
theorem DRs.some {xs : List V} {ds : List PyData} {i : Nat} (h : DRs K B r H xs ds) (hi : i < ds.length) : ∃ x, xs[i]? = some x := ⟨xs[i]'(by rw [h.length]; exact hi), by simp [h.length, hi]⟩
theorem ItR.go (h : ItR K cl B r H J vs) {i : Nat} (hi : i < vs.length) : J.go i H := by
  cases h with
  | lst h n1 n2 l hs =>
    obtain ⟨x, e⟩ := hs.some (by simpa using hi)
    exact ⟨_, x, .inl (.inl h), e⟩
  | tup h l hs =>
    obtain ⟨x, e⟩ := hs.some (by simpa using hi)
    exact ⟨_, x, h, e⟩
  | rng l => show i < _; simpa [upTo] using hi
  | enm h n1 n2 l hs =>
    obtain ⟨x, e⟩ := hs.some (by simpa using hi)
    exact ⟨_, x, .inl (.inl h), e⟩
  | enmT h l hs =>
    obtain ⟨x, e⟩ := hs.some (by simpa using hi)
    exact ⟨_, x, h, e⟩
theorem ItR.stop (h : ItR K cl B r H J vs) : J.stop vs.length H := by
  cases h with
  | lst h n1 n2 l hs => exact ⟨_, .inl (.inl h), by rw [hs.length]; simp⟩
  | tup h l hs => exact ⟨_, h, by rw [hs.length]; simp⟩
  | rng l => show _ ≤ _; simp [upTo]
  | enm h n1 n2 l hs => exact ⟨_, .inl (.inl h), by rw [hs.length]; simp⟩
  | enmT h l hs => exact ⟨_, h, by rw [hs.length]; simp⟩
theorem DRs.elt {xs : List V} {ds : List PyData} {i : Nat} {x : V} {d : PyData} (h : DRs K B r H xs ds) (e : ds[i]? = Option.some d) (ex : xs[i]? = Option.some x) : DR K B r H x d := by
  obtain ⟨x', e1, hd⟩ := h.get e
  rw [ex] at e1
  cases e1
  exact hd
/-- a turn: the item, and a heap that has at most a new tuple more -/
theorem ItR.yld (h : ItR K cl B r H J vs) (R : Rel K cl B r M H) {i : Nat} {v : Val} (hv : vs[i]? = some v) {x : V} {H' : Hp} (y : J.yld i H x H') : Grow r H r H' ∧ Rel K cl B r M H' ∧ VR K cl B r H' x v ∧ (H' = H ∨ ∃ T o, H T = none ∧ H' = upd H T o) := by
  cases h with
  | lst h n1 n2 l hs =>
    obtain ⟨rfl, hy⟩ := y
    rw [List.getElem?_map, Option.map_eq_some_iff] at hv
    obtain ⟨d, e, rfl⟩ := hv
    exact ⟨.refl, R, .d (hs.elt e (hy _ (.inl (.inl h)))), .inl rfl⟩
  | tup h l hs =>
    obtain ⟨rfl, hy⟩ := y
    rw [List.getElem?_map, Option.map_eq_some_iff] at hv
    obtain ⟨d, e, rfl⟩ := hv
    exact ⟨.refl, R, .d (hs.elt e (hy _ h)), .inl rfl⟩
  | rng l =>
    obtain ⟨rfl, rfl⟩ := y
    unfold upTo at hv
    rw [List.getElem?_map, Option.map_eq_some_iff] at hv
    obtain ⟨k, e, rfl⟩ := hv
    have : k = i := by
      rw [List.getElem?_eq_some_iff] at e
      obtain ⟨h1, h2⟩ := e
      simpa using h2.symm
    subst this
    exact ⟨.refl, R, .d (.int _), .inl rfl⟩
  | enm h n1 n2 l hs =>
    obtain ⟨T, z, rfl, hT, rfl, hy⟩ := y
    have hz := hy _ (.inl (.inl h))
    rw [List.getElem?_zipWith] at hv
    cases ek : (List.range _)[i]? with
    | none => rw [ek] at hv; simp at hv
    | some k =>
      rw [ek] at hv
      cases ed : (_ : List PyData)[i]? with
      | none => rw [ed] at hv; simp at hv
      | some d =>
        rw [ed] at hv
        simp only [Option.some.injEq] at hv
        subst hv
        have : k = i := by
          rw [List.getElem?_eq_some_iff] at ek
          obtain ⟨h1, h2⟩ := ek
          simpa using h2.symm
        subst this
        have g : Grow r H r (upd H T (.tup [.int (k : Int), z])) := Grow.laid hT
        exact ⟨g, R.laid hT, .d (.tup (.inl (.inl upd_same)) (by show 2 ≤ lim; decide) (.cons (.int _) (.cons ((hs.elt ed hz).mono g) .nil))), .inr ⟨T, _, hT, rfl⟩⟩
  | enmT h l hs =>
    obtain ⟨T, z, rfl, hT, rfl, hy⟩ := y
    have hz := hy _ h
    rw [List.getElem?_zipWith] at hv
    cases ek : (List.range _)[i]? with
    | none => rw [ek] at hv; simp at hv
    | some k =>
      rw [ek] at hv
      cases ed : (_ : List PyData)[i]? with
      | none => rw [ed] at hv; simp at hv
      | some d =>
        rw [ed] at hv
        simp only [Option.some.injEq] at hv
        subst hv
        have : k = i := by
          rw [List.getElem?_eq_some_iff] at ek
          obtain ⟨h1, h2⟩ := ek
          simpa using h2.symm
        subst this
        have g : Grow r H r (upd H T (.tup [.int (k : Int), z])) := Grow.laid hT
        exact ⟨g, R.laid hT, .d (.tup (.inl (.inl upd_same)) (by show 2 ≤ lim; decide) (.cons (.int _) (.cons ((hs.elt ed hz).mono g) .nil))), .inr ⟨T, _, hT, rfl⟩⟩
end

section
variable {X : Cx} {cl : Nat → Addr} {W : WX} {a b c e tg : Expr} {es : List Expr} {ga gb gc ge : Slots → Store → R Val} {gs : Slots → Store → R (List Val)} {pos p : Pos} {F : FEnv} {x : Str}
def rdI (K : PySem.W.Frag) (cl : Nat → Addr) (W : WX) (g : Slots → Store → R (List Val)) : TI := fun σ H Q => ∃ B r M s, Rel K cl B r M H ∧ SRel K cl B r H σ s ∧
  Out K cl (ItR K cl B) W σ B r H (g s M) fun J _ _ _ H' => Q J H'
abbrev SI (X : Cx) (cl : Nat → Addr) (W : WX) (tg e : Expr) (g : Slots → Store → R (List Val)) : Prop := PI X tg e (rdI X.K cl W g)
theorem PI.imp {t t' : TI} (h : PI X tg e t) (i : ∀ σ H Q, t' σ H Q → t σ H Q) : PI X tg e t' := ⟨fun pins s σ H R I w => h.run pins s σ H R I (i σ H R w)⟩
theorem PI.or {t t' : TI} (h : PI X tg e t) (h' : PI X tg e t') : PI X tg e (fun σ H Q => t σ H Q ∨ t' σ H Q) := ⟨fun pins s σ H R I w => w.elim (h.run pins s σ H R I) (h'.run pins s σ H R I)⟩
theorem si_seq (h : SE X cl W e ge) : SI X cl W tg e (fun s M => (ge s M).bind fun v M => ofOpt (seqD v) M) :=
  PI.imp (PI.or (pi_list h) (pi_tup h)) fun σ H Q ⟨B, r, M, s, R, S, o⟩ => by
    dsimp only at o
    cases q : ge s M with
    | bad => rw [q] at o; exact o.elim
    | exc k M' =>
      rw [q] at o
      exact .inl ⟨B, r, M, s, R, S, by rw [q]; exact o⟩
    | ok v M' =>
      rw [q] at o
      simp only [Gv.R.bind_ok] at o
      cases v with
      | d y =>
        cases y with
        | list ds =>
          refine .inl ⟨B, r, M, s, R, S, ?_⟩
          rw [q]
          intro u H' r' g R' v'
          obtain ⟨p, xs, rfl, hp, n1, n2, l, hs⟩ := v'.list
          exact ⟨p, rfl, ⟨xs, .inl (.inl hp)⟩, o (Itl X.K p) H' r' g R' (.lst hp n1 n2 l hs)⟩
        | tuple ds =>
          refine .inr ⟨B, r, M, s, R, S, ?_⟩
          rw [q]
          intro u H' r' g R' v'
          obtain ⟨p, xs, rfl, hp, l, hs⟩ := v'.tuple
          exact ⟨p, rfl, ⟨xs, hp⟩, o (Itt X.K p) H' r' g R' (.tup hp l hs)⟩
        | _ => exact o.elim
      | _ => exact o.elim
theorem si_enum {elts : List Expr} {kk : Nat} {tpos : Pos} (hg : Gl X "enumerate") (hm : X.mg "enumerate" = none) (h : SE X cl W e ge) (hs : notStar e = true) : SI X cl W (.Tuple elts kk tpos) (.Call (.Name "enumerate" p) [e] [] pos) (fun s M => (ge s M).bind fun v M => ofOpt (enumD v) M) :=
  PI.imp (pi_enumA hg hm (pa_cons h pa_nil (star_cons hs)) (by rw [star_cons hs]; rfl)) fun σ H Q ⟨B, r, M, s, R, S, o⟩ => ⟨B, r, M, s, R, S, o.step fun x v r1 M1 H1 g1 R1 v1 o1 => by
    unfold enumD at o1
    split at o1
    · obtain ⟨p, xs, rfl, hp, n1, n2, l, hs⟩ := v1.list
      exact ⟨p, xs, rfl, .inl ⟨.inl (.inl hp), Out.here (u := Ite X.K p) o1 R1 (.enm hp n1 n2 l hs)⟩⟩
    · obtain ⟨p, xs, rfl, hp, l, hs⟩ := v1.tuple
      exact ⟨p, xs, rfl, .inr ⟨hp, Out.here (u := ItT X.K p) o1 R1 (.enmT hp l hs)⟩⟩
    · exact o1.elim⟩
theorem si_rng (hg : Gl X "range") (hm : X.mg "range" = none) (ha : SA X cl W (e :: es) gs) (hs : (e :: es).all notStar = true) (hl : es.length ≤ 1) (hn : Cnt (es.length + 1) gs) :
    SI X cl W tg (.Call (.Name "range" p) (e :: es) [] pos) (fun s M => (gs s M).bind fun vs M => ofOpt (rngD vs) M) := by
  cases es with
  | nil =>
    simp only [List.all_cons, Bool.and_eq_true] at hs
    refine PI.imp (pi_range1 hg hm ha (by rw [star_cons hs.1]; rfl)) fun σ H Q ⟨B, r, M, s, R, S, o⟩ => ⟨B, r, M, s, R, S, o.stepE fun us vs r1 M1 H1 ev g1 R1 v1 o1 => ?_⟩
    have hc := hn s M vs M1 ev
    unfold rngD at o1
    split at o1
    · obtain ⟨x, rfl, hx⟩ := VRs.one v1
      obtain rfl := hx.int
      rename_i j
      split at o1
      · clear hc; rename_i hc
        simp only [Bool.and_eq_true, decide_eq_true_eq] at hc
        refine ⟨j, rfl, hc.2, by have := hc.1; omega, ?_⟩
        exact Out.here (u := Itr 0 j.toNat) o1 R1 (.rng (by have := hc.1; unfold lim; omega))
      · exact o1.elim
    · simp at hc
    · exact o1.elim
  | cons e2 es =>
    cases es with
    | cons _ _ => simp at hl
    | nil =>
      simp only [List.all_cons, Bool.and_eq_true] at hs
      refine PI.imp (pi_range2 hg hm ha (by rw [star_cons hs.1, star_cons hs.2.1]; rfl) (by rw [star_cons hs.2.1]; rfl)) fun σ H Q ⟨B, r, M, s, R, S, o⟩ => ⟨B, r, M, s, R, S, o.stepE fun us vs r1 M1 H1 ev g1 R1 v1 o1 => ?_⟩
      have hc := hn s M vs M1 ev
      unfold rngD at o1
      split at o1
      · simp at hc
      · obtain ⟨x, y, rfl, hx, hy⟩ := VRs.two v1
        obtain rfl := hx.int
        obtain rfl := hy.int
        rename_i i j
        split at o1
        · clear hc; rename_i hc
          simp only [Bool.and_eq_true, decide_eq_true_eq] at hc
          obtain ⟨⟨⟨⟨h1, h2⟩, h3⟩, h4⟩, h5⟩ := hc
          refine ⟨i, j, rfl, ⟨h1, h2, h3, h4⟩, ?_⟩
          exact Out.here (u := Itr i (j - i).toNat) o1 R1 (.rng (by unfold lim; omega))
        · exact o1.elim
      · exact o1.elim
end
end Gv

namespace Gv
open PySem PySem.Spec L2

/-! ### targets -/
def Tg.slots : Tg → List Nat
  | .one i => [i]
  | .many is => is
def rdG (K : PySem.W.Frag) (cl : Nat → Addr) (tg : Tg) : TG := fun x σ H Q => ∃ B r M s v s', Rel K cl B r M H ∧ SRel K cl B r H σ s ∧ VR K cl B r H x v ∧ asgT tg v s = some s' ∧
  ∀ σ', SRel K cl B r H σ' s' → σ'.length = σ.length → (∀ j, j ∉ tg.slots → σ'[j]? = σ[j]?) → Q σ' H
def gNames : List Nat → TGs
  | [] => gNil
  | i :: is => gCons (gName i) (gNames is)
section
variable {K : PySem.W.Frag} {cl : Nat → Addr} {B r : List Addr} {H : Hp}
theorem SRel.set {σ : L2.St} {s : Slots} {x : V} {v : Val} (h : SRel K cl B r H σ s) (hv : VR K cl B r H x v) (i : Nat) : SRel K cl B r H (σ.set i (some x)) (s.set i (some v)) := by
  refine ⟨by simp [h.len], fun j w e => ?_⟩
  by_cases hj : i = j
  · subst hj
    by_cases hi : i < s.length
    · rw [List.getElem?_set_self hi] at e
      cases e
      exact ⟨x, List.getElem?_set_self (by rw [h.len]; exact hi), hv⟩
    · rw [List.getElem?_eq_none (by simp; omega)] at e; cases e
  · rw [List.getElem?_set_ne hj] at e
    obtain ⟨y, e1, hy⟩ := h.get j w e
    exact ⟨y, by rw [List.getElem?_set_ne hj]; exact e1, hy⟩
theorem SRel.none {σ : L2.St} {s : Slots} (h : SRel K cl B r H σ s) (i : Nat) (o : Option V) : SRel K cl B r H (σ.set i o) (s.set i Option.none) := by
  refine ⟨by simp [h.len], fun j w e => ?_⟩
  by_cases hj : i = j
  · subst hj
    by_cases hi : i < s.length
    · rw [List.getElem?_set_self hi] at e; cases e
    · rw [List.getElem?_eq_none (by simp; omega)] at e; cases e
  · rw [List.getElem?_set_ne hj] at e
    obtain ⟨y, e1, hy⟩ := h.get j w e
    exact ⟨y, by rw [List.getElem?_set_ne hj]; exact e1, hy⟩
theorem SRel.wipe {σ : L2.St} {s : Slots} (h : SRel K cl B r H σ s) : ∀ vs, SRel K cl B r H (L2.wipe σ vs) (Gv.wipe s vs)
  | [] => h
  | v :: vs => (SRel.wipe h vs).none v Option.none
theorem gNames_ok {Q : L2.St → Hp → Prop} : ∀ {is : List Nat} {vs : List Val} {xs : List V} {σ : L2.St} {s s' : Slots}, SRel K cl B r H σ s → VRs K cl B r H xs vs → setAll is vs s = some s' →
    (∀ σ', SRel K cl B r H σ' s' → σ'.length = σ.length → (∀ j, j ∉ is → σ'[j]? = σ[j]?) → Q σ' H) → gNames is xs σ H Q
  | [], _, _, σ, s, s', S, .nil, e, h => by
    simp only [setAll, Option.some.injEq] at e
    subst e
    exact ⟨rfl, h σ S rfl fun _ _ => rfl⟩
  | [], _, _, σ, s, s', S, .cons _ _, e, h => by simp [setAll] at e
  | i :: is, _, _, σ, s, s', S, .nil, e, h => by simp [setAll] at e
  | i :: is, _, _, σ, s, s', S, .cons (a := x) (b := v) hv t, e, h => by
    simp only [setAll] at e
    refine ⟨x, _, rfl, ?_⟩
    refine gNames_ok (S.set hv i) t e fun σ' S' hl hj => h σ' S' (by rw [hl]; simp) fun j hn => ?_
    simp only [List.mem_cons, not_or] at hn
    rw [hj j hn.2, List.getElem?_set_ne (Ne.symm hn.1)]
end
section
variable {X : Cx} {cl : Nat → Addr} {W : WX} {e tg : Expr} {es : List Expr} {pos : Pos} {x : Str}
abbrev SG (X : Cx) (cl : Nat → Addr) (tg : Expr) (t : Tg) : Prop := PG X tg (rdG X.K cl t)
theorem PG.imp {t t' : TG} (h : PG X tg t) (i : ∀ x σ H Q, t' x σ H Q → t x σ H Q) : PG X tg t' := ⟨fun pins s σ H x v Q I rv w => h.run pins s σ H x v Q I rv (i x σ H Q w)⟩
theorem sg_name {i : Nat} (hN : X.N.Nodup) (hi : X.N[i]? = some x) (hx : Loc X.env.scope x) (hf : X.fn x = true ∨ X.env.scope.names.lookup x = some .local) : SG X cl (.Name x pos) (.one i) :=
  PG.imp (pg_name hN hi hx hf) fun y σ H Q ⟨B, r, M, s, v, s', R, S, hv, e, h⟩ => by
    simp only [asgT, Option.some.injEq] at e
    subst e
    refine h _ (S.set hv i) (by simp) fun j hj => ?_
    simp only [Tg.slots, List.mem_singleton] at hj
    exact List.getElem?_set_ne (Ne.symm hj)
/-- names, with their slots -/
inductive NamesAt (X : Cx) : List Expr → List Nat → Prop
  | nil : NamesAt X [] []
  | cons {x : Str} {p : Pos} {i : Nat} {es : List Expr} {is : List Nat} : X.N[i]? = some x → Loc X.env.scope x → (X.fn x = true ∨ X.env.scope.names.lookup x = some .local) → NamesAt X es is → NamesAt X (.Name x p :: es) (i :: is)
theorem pgs_names (hN : X.N.Nodup) : ∀ {es : List Expr} {is : List Nat}, NamesAt X es is → PGs X es (gNames is)
  | _, _, .nil => pgs_nil
  | _, _, .cons h1 h2 h3 t => pgs_cons (pg_name hN h1 h2 h3) (pgs_names hN t) rfl
theorem names_len : ∀ {es : List Expr} {is : List Nat}, NamesAt X es is → (assignEach es X.env).length = is.length
  | _, _, .nil => rfl
  | _, _, .cons h1 h2 h3 t => by
    show (_ :: assignEach _ X.env).length = _
    simp [names_len t]
theorem names_star : ∀ {es : List Expr} {is : List Nat}, NamesAt X es is → List.findIdx? (fun x => x.fst) (assignEach es X.env) = none
  | _, _, .nil => rfl
  | _, _, .cons h1 h2 h3 t => by
    show List.findIdx? _ ((false, _) :: assignEach _ X.env) = _
    rw [List.findIdx?_cons]
    simp [names_star t]
theorem setAll_len : ∀ {is : List Nat} {vs : List Val} {s s' : Slots}, setAll is vs s = some s' → vs.length = is.length
  | [], [], _, _, _ => rfl
  | [], _ :: _, _, _, e => by simp [setAll] at e
  | _ :: _, [], _, _, e => by simp [setAll] at e
  | i :: is, v :: vs, s, s', e => by
    simp only [setAll] at e
    simp [setAll_len e]
theorem sg_tup {is : List Nat} {k : Nat} (hc : X.calm = true) (hN : X.N.Nodup) (h : NamesAt X es is) : SG X cl (.Tuple es k pos) (.many is) :=
  PG.imp (pg_tup hc (pgs_names hN h) (names_len h) (names_star h)) fun y σ H Q ⟨B, r, M, s, v, s', R, S, hv, e, q⟩ => by
    simp only [asgT] at e
    split at e
    · obtain ⟨a, xs, rfl, ht, l, hd⟩ := hv.tuple
      refine ⟨a, xs, rfl, ht, ?_, gNames_ok S hd.vrs e q⟩
      rw [hd.length, ← setAll_len e, List.length_map]
    · cases e
end

/-! ### what lies apart, D among what is blocked, is written -/
section
variable {K : PySem.W.Frag} {cl : Nat → Addr} {B r : List Addr} {H : Hp} {M : Store} {D : Addr} {o : HO}
theorem sqt_other (nt : ∀ xs, ¬ Rd H D (.tup xs)) {a : Addr} {xs : List V} (h : SqT K H a xs) : SqT K (upd H D o) a xs := by
  rcases h with h | h
  · have hne : a ≠ D := fun z => nt xs (z ▸ h)
    rcases h with h | ⟨v, h⟩
    · exact .inl (.inl (by rw [upd_ne hne]; exact h))
    · exact .inl (.inr ⟨v, by rw [upd_ne hne]; exact h⟩)
  · exact .inr h
mutual
theorem DR.other (hD : D ∈ B) (nt : ∀ xs, ¬ Rd H D (.tup xs)) : ∀ {x : V} {d : PyData}, DR K B r H x d → DR K B r (upd H D o) x d
  | _, _, .non => .non
  | _, _, .bl b => .bl b
  | _, _, .int i => .int i
  | _, _, .str x => .str x
  | _, _, .lst h n1 n2 l hs => .lst (by rw [upd_ne (fun z => n1 (by rw [z]; exact hD))]; exact h) n1 n2 l (DRs.other hD nt hs)
  | _, _, .tup h l hs => .tup (sqt_other nt h) l (DRs.other hD nt hs)
theorem DRs.other (hD : D ∈ B) (nt : ∀ xs, ¬ Rd H D (.tup xs)) : ∀ {xs : List V} {ds : List PyData}, DRs K B r H xs ds → DRs K B r (upd H D o) xs ds
  | _, _, .nil => .nil
  | _, _, .cons a b => .cons (DR.other hD nt a) (DRs.other hD nt b)
end
theorem VR.other (hD : D ∈ B) (nt : ∀ xs, ¬ Rd H D (.tup xs)) {x : V} {v : Val} (h : VR K cl B r H x v) : VR K cl B r (upd H D o) x v := by
  cases h with
  | d h => exact .d (h.other hD nt)
  | ref h => exact .ref h
  | exc h n1 n2 => exact .exc (by rw [upd_ne (fun z => n1 (by rw [z]; exact hD))]; exact h) n1 n2
  | scr h =>
    rcases h with ⟨h, n1, n2⟩ | h
    · rename_i a' ns
      have hne : a' ≠ D := fun z => n1 (by rw [z]; exact hD)
      refine .scr (.inl ⟨?_, n1, n2⟩)
      rcases h with h | ⟨v, h⟩
      · exact .inl (by rw [upd_ne hne]; exact h)
      · exact .inr ⟨v, by rw [upd_ne hne]; exact h⟩
    · exact .scr (.inr h)
theorem VRs.other (hD : D ∈ B) (nt : ∀ xs, ¬ Rd H D (.tup xs)) {xs : List V} {vs : List Val} (h : VRs K cl B r H xs vs) : VRs K cl B r (upd H D o) xs vs := Paired.mapP h fun _ _ z => z.other hD nt
theorem SRel.other (hD : D ∈ B) (nt : ∀ xs, ¬ Rd H D (.tup xs)) {σ : L2.St} {s : Slots} (h : SRel K cl B r H σ s) : SRel K cl B r (upd H D o) σ s :=
  ⟨h.len, fun i v e => let ⟨x, a, b⟩ := h.get i v e; ⟨x, a, b.other hD nt⟩⟩
theorem Rel.other (hD : D ∈ B) (nt : ∀ xs, ¬ Rd H D (.tup xs)) (R : Rel K cl B r M H) : Rel K cl B r M (upd H D o) := by
  refine ⟨R.len, R.nd, R.blk, fun a h => upd_some (R.bs a h), fun n c a e1 e2 => ?_⟩
  have hne : a ≠ D := fun z => R.blk a (List.mem_of_getElem? e2) (by rw [z]; exact hD)
  have h := R.cell n c a e1 e2
  cases h with
  | lst h l hs => exact .lst (by rw [upd_ne hne]; exact h) l (hs.other hD nt)
theorem ItR.other {J : It} {vs : List Val} (hD : D ∈ B) (nt : ∀ xs, ¬ Rd H D (.tup xs)) (h : ItR K cl B r H J vs) : ItR K cl B r (upd H D o) J vs := by
  cases h with
  | lst h n1 n2 l hs => exact .lst (by rw [upd_ne (fun z => n1 (by rw [z]; exact hD))]; exact h) n1 n2 l (hs.other hD nt)
  | tup h l hs => exact .tup (sqt_other nt h) l (hs.other hD nt)
  | rng l => exact .rng l
  | enm h n1 n2 l hs => exact .enm (by rw [upd_ne (fun z => n1 (by rw [z]; exact hD))]; exact h) n1 n2 l (hs.other hD nt)
  | enmT h l hs => exact .enmT (sqt_other nt h) l (hs.other hD nt)
/-! .. and is blocked from now on -/
mutual
theorem DR.more (hD : H D = none) : ∀ {x : V} {d : PyData}, DR K B r H x d → DR K (D :: B) r H x d
  | _, _, .non => .non
  | _, _, .bl b => .bl b
  | _, _, .int i => .int i
  | _, _, .str x => .str x
  | _, _, .lst h n1 n2 l hs => .lst h (fun z => by rcases List.mem_cons.mp z with q | q; · rw [q, hD] at h; cases h
                                                   · exact n1 q) n2 l (DRs.more hD hs)
  | _, _, .tup h l hs => .tup h l (DRs.more hD hs)
theorem DRs.more (hD : H D = none) : ∀ {xs : List V} {ds : List PyData}, DRs K B r H xs ds → DRs K (D :: B) r H xs ds
  | _, _, .nil => .nil
  | _, _, .cons a b => .cons (DR.more hD a) (DRs.more hD b)
end
theorem VR.more (hD : H D = Option.none) {x : V} {v : Val} (h : VR K cl B r H x v) : VR K cl (D :: B) r H x v := by
  have hb : ∀ {a o}, H a = some o → a ∉ B → a ∉ D :: B := fun {a o} e n z => by
    rcases List.mem_cons.mp z with q | q
    · rw [q, hD] at e; cases e
    · exact n q
  cases h with
  | d h => exact .d (h.more hD)
  | ref h => exact .ref h
  | exc h n1 n2 => exact .exc h (hb h n1) n2
  | scr h =>
    rcases h with ⟨h, n1, n2⟩ | h
    · obtain ⟨o, e, _⟩ := Rd.some h
      exact .scr (.inl ⟨h, hb e n1, n2⟩)
    · exact .scr (.inr h)
theorem SRel.more (hD : H D = Option.none) {σ : L2.St} {s : Slots} (h : SRel K cl B r H σ s) : SRel K cl (D :: B) r H σ s :=
  ⟨h.len, fun i v e => let ⟨x, a, b⟩ := h.get i v e; ⟨x, a, b.more hD⟩⟩
theorem ItR.more {J : It} {vs : List Val} (hD : H D = none) (h : ItR K cl B r H J vs) : ItR K cl (D :: B) r H J vs := by
  cases h with
  | lst h n1 n2 l hs => exact .lst h (fun z => by rcases List.mem_cons.mp z with q | q; · rw [q, hD] at h; cases h
                                                  · exact n1 q) n2 l (hs.more hD)
  | tup h l hs => exact .tup h l (hs.more hD)
  | rng l => exact .rng l
  | enm h n1 n2 l hs => exact .enm h (fun z => by rcases List.mem_cons.mp z with q | q; · rw [q, hD] at h; cases h
                                                  · exact n1 q) n2 l (hs.more hD)
  | enmT h l hs => exact .enmT h l (hs.more hD)
/-- a new thing, blocked -/
theorem Rel.more (R : Rel K cl B r M H) (hD : H D = none) : Rel K cl (D :: B) r M (upd H D o) := by
  have R1 := R.laid (o := o) hD
  have hr : D ∉ r := fun z => by obtain ⟨_, q, _⟩ := R.isSome z; rw [hD] at q; cases q
  refine ⟨R.len, R.nd, fun a h z => ?_, fun a h => ?_, fun n c a e1 e2 => ?_⟩
  · rcases List.mem_cons.mp z with q | q
    · exact hr (q ▸ h)
    · exact R.blk a h q
  · rcases List.mem_cons.mp h with q | q
    · rw [q, upd_same]; exact fun z => nomatch z
    · exact R1.bs a q
  · have h := R.cell n c a e1 e2
    have hne : a ≠ D := fun z => hr (by rw [← z]; exact List.mem_of_getElem? e2)
    cases h with
    | lst h l hs => exact .lst (by rw [upd_ne hne]; exact h) l (VRs.mono (Grow.laid hD) (Paired.mapP hs fun _ _ z => z.more hD))
/-! .. and no more -/
mutual
theorem DR.less : ∀ {x : V} {d : PyData}, DR K (D :: B) r H x d → DR K B r H x d
  | _, _, .non => .non
  | _, _, .bl b => .bl b
  | _, _, .int i => .int i
  | _, _, .str x => .str x
  | _, _, .lst h n1 n2 l hs => .lst h (fun z => n1 (List.mem_cons_of_mem _ z)) n2 l (DRs.less hs)
  | _, _, .tup h l hs => .tup h l (DRs.less hs)
theorem DRs.less : ∀ {xs : List V} {ds : List PyData}, DRs K (D :: B) r H xs ds → DRs K B r H xs ds
  | _, _, .nil => .nil
  | _, _, .cons a b => .cons (DR.less a) (DRs.less b)
end
theorem VR.less {x : V} {v : Val} (h : VR K cl (D :: B) r H x v) : VR K cl B r H x v := by
  cases h with
  | d h => exact .d h.less
  | ref h => exact .ref h
  | exc h n1 n2 => exact .exc h (fun z => n1 (List.mem_cons_of_mem _ z)) n2
  | scr h =>
    rcases h with ⟨h, n1, n2⟩ | h
    · exact .scr (.inl ⟨h, fun z => n1 (List.mem_cons_of_mem _ z), n2⟩)
    · exact .scr (.inr h)
theorem Rel.less (R : Rel K cl (D :: B) r M H) : Rel K cl B r M H := by
  refine ⟨R.len, R.nd, fun a h z => R.blk a h (List.mem_cons_of_mem _ z), fun a h => R.bs a (List.mem_cons_of_mem _ h), fun n c a e1 e2 => ?_⟩
  have h := R.cell n c a e1 e2
  cases h with
  | lst h l hs => exact .lst h l (Paired.mapP hs fun _ _ z => z.less)
end
end Gv

namespace Gv
open PySem PySem.Spec L2

section
variable {K : PySem.W.Frag} {cl : Nat → Addr} {B r : List Addr} {H : Hp} {M : Store} {D : Addr} {o : HO}
/-! a blocked list becomes a cell -/
mutual
theorem DR.adopt : ∀ {x : V} {d : PyData}, DR K (D :: B) r H x d → DR K B (r ++ [D]) H x d
  | _, _, .non => .non
  | _, _, .bl b => .bl b
  | _, _, .int i => .int i
  | _, _, .str x => .str x
  | _, _, .lst h n1 n2 l hs => .lst h (fun z => n1 (List.mem_cons_of_mem _ z)) (fun z => (List.mem_append.mp z).elim n2 fun q => n1 (by simp at q; simp [q])) l (DRs.adopt hs)
  | _, _, .tup h l hs => .tup h l (DRs.adopt hs)
theorem DRs.adopt : ∀ {xs : List V} {ds : List PyData}, DRs K (D :: B) r H xs ds → DRs K B (r ++ [D]) H xs ds
  | _, _, .nil => .nil
  | _, _, .cons a b => .cons (DR.adopt a) (DRs.adopt b)
end
theorem VR.adopt {x : V} {v : Val} (h : VR K cl (D :: B) r H x v) : VR K cl B (r ++ [D]) H x v := by
  have hn : ∀ {a}, a ∉ D :: B → a ∉ r → a ∉ r ++ [D] := fun {a} n1 n2 z => (List.mem_append.mp z).elim n2 fun q => n1 (by simp at q; simp [q])
  cases h with
  | d h => exact .d h.adopt
  | ref h => exact .ref (by rw [List.getElem?_append_left (List.getElem?_eq_some_iff.mp h).1]; exact h)
  | exc h n1 n2 => exact .exc h (fun z => n1 (List.mem_cons_of_mem _ z)) (hn n1 n2)
  | scr h =>
    rcases h with ⟨h, n1, n2⟩ | h
    · exact .scr (.inl ⟨h, fun z => n1 (List.mem_cons_of_mem _ z), hn n1 n2⟩)
    · exact .scr (.inr h)
theorem VRs.adopt {xs : List V} {vs : List Val} (h : VRs K cl (D :: B) r H xs vs) : VRs K cl B (r ++ [D]) H xs vs := Paired.mapP h fun _ _ z => z.adopt
theorem Rel.adopt (R : Rel K cl (D :: B) r M H) (hB : D ∉ B) {xs : List V} {vs : List Val} (hD : H D = some (.lst xs)) (hl : vs.length ≤ lim) (hv : VRs K cl (D :: B) r H xs vs) : Rel K cl B (r ++ [D]) (M ++ [.lst vs]) H := by
  have hr : D ∉ r := fun z => R.blk D z (by simp)
  refine ⟨by simp [R.len], ?_, fun a ha z => ?_, fun a h => R.bs a (List.mem_cons_of_mem _ h), fun n c a e1 e2 => ?_⟩
  · rw [List.nodup_append]
    refine ⟨R.nd, by simp, fun a ha b hb e => ?_⟩
    simp at hb
    subst hb
    exact hr (e ▸ ha)
  · rcases List.mem_append.mp ha with q | q
    · exact R.blk a q (List.mem_cons_of_mem _ z)
    · simp at q; subst q; exact hB z
  · by_cases hn : n < M.length
    · rw [List.getElem?_append_left hn] at e1
      rw [List.getElem?_append_left (by rw [R.len]; exact hn)] at e2
      have h := R.cell n c a e1 e2
      cases h with
      | lst h l hs => exact .lst h l hs.adopt
    · rw [List.getElem?_append_right (by omega)] at e1
      rw [List.getElem?_append_right (by rw [R.len]; omega), R.len] at e2
      have hz : n - M.length = 0 := by
        have := (List.getElem?_eq_some_iff.mp e1).1
        simp at this
        omega
      rw [hz] at e1 e2
      simp at e1 e2
      subst e1 e2
      exact .lst hD hl hv.adopt
theorem Grow.adopt {r0 : List Addr} {H0 : Hp} (g : Grow r0 H0 r H) (hD : H0 D = none) : Grow r0 H0 (r ++ [D]) H := by
  refine ⟨?_, g.keep, fun a h => ?_, g.some, g.tup⟩
  · obtain ⟨e, he⟩ := g.pre
    exact ⟨e ++ [D], by rw [he, List.append_assoc]⟩
  · rcases List.mem_append.mp h with q | q
    · exact g.new a q
    · simp at q; subst q; exact .inr hD
theorem Grow.after {r0 : List Addr} {H0 : Hp} (g : Grow r0 H0 r H) (hD : H0 D = none) : Grow r0 H0 r (upd H D o) := by
  refine ⟨g.pre, fun a u e n => ?_, g.new, fun a z => upd_some (g.some a z), fun a xs q => ?_⟩
  · rw [upd_ne (fun z => by rw [z, hD] at e; cases e)]; exact g.keep a u e n
  · have hne : a ≠ D := fun z => by
      obtain ⟨v, e, _⟩ := Rd.some q
      rw [z, hD] at e; cases e
    rcases g.tup a xs q with q | ⟨v, q⟩
    · exact .inl (by rw [upd_ne hne]; exact q)
    · exact .inr ⟨v, by rw [upd_ne hne]; exact q⟩
end

theorem lcL_noexc {cond elt : Slots → Store → R Val} {tg : Tg} {s : Slots} : ∀ (vs : List Val) (M : Store) (c : Nat) (M' : Store), lcL cond elt tg s vs M ≠ .exc c M'
  | [], M, c, M' => by simp [lcL]
  | v :: vs, M, c, M' => by
    unfold lcL
    split
    · simp
    · split
      · rename_i M1 _
        cases q : elt _ M1 with
        | bad => simp [q]
        | exc k M2 => simp [q]
        | ok y M2 =>
          simp only [q, R.noexc_ok, R.bind_ok]
          have ih := lcL_noexc (cond := cond) (elt := elt) (tg := tg) (s := s) vs M2
          cases q2 : lcL cond elt tg s vs M2 with
          | bad => simp
          | exc k M3 => exact absurd q2 (ih k M3)
          | ok ys M3 => simp
      · exact lcL_noexc vs _ c M'
      · simp
theorem wipe_get (s : L2.St) (j : Nat) : ∀ vs : List Nat, (L2.wipe s vs)[j]? = if j ∈ vs then (s[j]?).map (fun _ => none) else s[j]?
  | [] => by simp [L2.wipe]
  | v :: vs => by
    unfold L2.wipe
    by_cases h : v = j
    · subst h
      by_cases hv : v < s.length
      · rw [List.getElem?_set_self (by rw [L2.wipe_length]; exact hv)]
        simp [hv]
      · rw [List.getElem?_eq_none (by rw [List.length_set, L2.wipe_length]; omega), List.getElem?_eq_none (by omega)]
        simp
    · rw [List.getElem?_set_ne h, wipe_get s j vs]
      have : (j ∈ v :: vs) ↔ j ∈ vs := by
        simp only [List.mem_cons]
        exact ⟨fun z => z.resolve_left fun q => h q.symm, .inr⟩
      simp only [this]
theorem wipe_eq {σ σ' : L2.St} {vs sl : List Nat} (hl : σ'.length = (L2.wipe σ vs).length) (hs : ∀ j ∈ sl, j ∈ vs) (hj : ∀ j, j ∉ sl → σ'[j]? = (L2.wipe σ vs)[j]?) : L2.wipe σ' vs = L2.wipe σ vs := by
  rw [L2.wipe_length] at hl
  apply List.ext_getElem?
  intro j
  rw [wipe_get, wipe_get]
  by_cases h : j ∈ vs
  · simp only [h, if_true]
    by_cases hv : j < σ.length
    · rw [List.getElem?_eq_getElem (by omega), List.getElem?_eq_getElem hv]; rfl
    · rw [List.getElem?_eq_none (by omega), List.getElem?_eq_none (by omega)]
  · simp only [h, if_false]
    have := hj j fun z => h (hs j z)
    rw [this, wipe_get]
    simp [h]

abbrev W0 : WX := fun _ _ _ _ => False
def eLc (al : Bool) (own : List Nat) (t : Tg) (gi : Slots → Store → R (List Val)) (gc ge : Slots → Store → R Val) : Slots → Store → R Val := fun s M =>
  (gi s M).bind fun vs M => (lcL gc ge t (wipe s own) vs M).bind fun ys M => mkLV al ys M
/-- what holds ahead of turn i -/
structure LcI (K : PySem.W.Frag) (cl : Nat → Addr) (B r1 : List Addr) (H1 : Hp) (D : Addr) (σ : L2.St) (s : Slots) (t : Tg) (gc ge : Slots → Store → R Val) (J : It) (items ys : List Val) (M2 : Store) (i : Nat) (H : Hp) : Prop where
  le : i ≤ items.length
  st : ∃ rr MM acc yd yr, Grow r1 H1 rr H ∧ Rel K cl (D :: B) rr MM H ∧ SRel K cl (D :: B) rr H σ s ∧ ItR K cl (D :: B) rr H J items ∧ H D = some (.lst acc) ∧ VRs K cl (D :: B) rr H acc yd ∧ acc.length ≤ i ∧
    lcL gc ge t s (items.drop i) MM = .ok yr M2 ∧ ys = yd ++ yr
theorem paired_snoc {α β : Type} {P : α → β → Prop} {x : α} {y : β} (h : P x y) : ∀ {xs : List α} {ys : List β}, Paired P xs ys → Paired P (xs ++ [x]) (ys ++ [y])
  | _, _, .nil => .cons h .nil
  | _, _, .cons a t => .cons a (paired_snoc h t)
section
variable {K : PySem.W.Frag} {cl : Nat → Addr} {B r1 : List Addr} {H1 H : Hp} {D : Addr} {σ : L2.St} {s : Slots} {t : Tg} {gc ge : Slots → Store → R Val} {J : It} {items ys : List Val} {M2 : Store} {i : Nat}
theorem nt_lst {acc : List V} (h : H D = some (.lst acc)) : ∀ xs, ¬ Rd H D (.tup xs) := fun xs q => by rcases q with q | ⟨v, q⟩ <;> (rw [h] at q; cases q)
theorem LcI.turn (hD : H1 D = none) (I : LcI K cl B r1 H1 D (L2.wipe σ own) s t gc ge J items ys M2 i H) (hi : i < items.length) (hs : ∀ j ∈ t.slots, j ∈ own) {x : V} {H' : Hp} (y : J.yld i H x H') :
    rdG K cl t x (L2.wipe σ own) H' fun σ2 H2 => L2.wipe σ2 own = L2.wipe σ own ∧ rdT K cl W0 gc σ2 H2 fun b H3 =>
      if b = true then rdE K cl W0 ge σ2 H3 fun y H4 => ∃ acc, H4 D = some (.lst acc) ∧ acc.length < sizeLine ∧ LcI K cl B r1 H1 D (L2.wipe σ own) s t gc ge J items ys M2 (i + 1) (upd H4 D (.lst (acc ++ [y]))) else LcI K cl B r1 H1 D (L2.wipe σ own) s t gc ge J items ys M2 (i + 1) H3 := by
  obtain ⟨rr, MM, acc, yd, yr, g, R, S, it, hd, va, la, el, ey⟩ := I.st
  have hv : items[i]? = some items[i] := by simp [hi]
  obtain ⟨gy, Ry, vx, _⟩ := it.yld R hv y
  rw [List.drop_eq_getElem_cons hi] at el
  unfold lcL at el
  split at el
  · cases el
  · rename_i s1 e1
    refine ⟨D :: B, rr, MM, s, _, s1, Ry, S.mono gy, vx, e1, fun σ' S' hl hj => ⟨wipe_eq hl hs hj, ?_⟩⟩
    refine ⟨D :: B, rr, MM, s1, Ry, S', ?_⟩
    have nb : ∀ {q : List Addr} {MQ : Store} {HQ : Hp}, Rel K cl (D :: B) q MQ HQ → D ∉ q := fun RQ z => RQ.blk D z (by simp)
    have hd1 : H' D = some (.lst acc) := gy.keep D _ hd (nb R)
    split at el
    · rename_i M1 ec
      rw [ec]
      intro u H3 r3 g3 R3 v3
      refine ⟨true, rfl, ?_⟩
      dsimp only
      rw [if_pos rfl]
      refine ⟨D :: B, r3, M1, s1, R3, S'.mono g3, ?_⟩
      cases eq : ge s1 M1 with
      | bad => rw [eq] at el; cases el
      | exc k M4 => rw [eq] at el; cases el
      | ok w M4 =>
        rw [eq] at el
        simp only [Gv.R.noexc_ok, Gv.R.bind_ok] at el
        intro u4 H4 r4 g4 R4 v4
        cases er : lcL gc ge t s (items.drop (i + 1)) M4 with
        | bad => rw [er] at el; cases el
        | exc k M5 => exact absurd er (lcL_noexc _ _ _ _)
        | ok yr' M5 =>
          rw [er] at el
          simp only [Gv.R.bind_ok] at el
          cases el
          have hd3 : H3 D = some (.lst acc) := g3.keep D _ hd1 (nb Ry)
          have hd4 : H4 D = some (.lst acc) := g4.keep D _ hd3 (nb R3)
          have gg := ((gy.trans g3).trans g4)
          have hm : D ∈ D :: B := by simp
          refine ⟨acc, hd4, ?_, ⟨hi, r4, M4, acc ++ [u4], yd ++ [w], yr', (((g.trans gy).trans g3).trans g4).after hD, R4.other hm (nt_lst hd4), (S.mono gg).other hm (nt_lst hd4), (it.mono gg).other hm (nt_lst hd4), upd_same,
            VRs.other hm (nt_lst hd4) (paired_snoc v4 (VRs.mono gg va)), by simp; omega, er, by simp [ey]⟩⟩
          have := it.len
          rw [← lim_eq]
          omega
    · rename_i M1 ec
      rw [ec]
      intro u H3 r3 g3 R3 v3
      refine ⟨false, rfl, ?_⟩
      dsimp only
      rw [if_neg Bool.false_ne_true]
      have gg := gy.trans g3
      exact ⟨hi, r3, M1, acc, yd, yr, (g.trans gy).trans g3, R3, S.mono gg, it.mono gg, g3.keep D _ hd1 (nb Ry), VRs.mono gg va, by omega, el, ey⟩
    · cases el
theorem LcI.done {al : Bool} {Q : VK} {W : WX} {σ0 : L2.St} {M1 : Store} (hD : H1 D = none) (R1 : Rel K cl B r1 M1 H1) (I : LcI K cl B r1 H1 D σ s t gc ge J items ys M2 items.length H) (o : Out K cl (VR K cl B) W σ0 B r1 H1 (mkLV al ys M2) (KQ Q)) : J.stop items.length H ∧ Q (.ref D) H := by
  obtain ⟨rr, MM, acc, yd, yr, g, R, S, it, hd, va, la, el, ey⟩ := I.st
  refine ⟨it.stop, ?_⟩
  rw [List.drop_length] at el
  simp only [lcL, Gv.R.ok.injEq] at el
  obtain ⟨rfl, rfl⟩ := el
  rw [List.append_nil] at ey
  subst ey
  have hB : D ∉ B := fun z => R1.bs D z hD
  have hr : D ∉ rr := fun z => R.blk D z (by simp)
  have hl : ys.length ≤ lim := by
    have := it.len
    rw [← Paired.length va]
    omega
  unfold mkLV at o
  cases ed : allD ys with
  | none =>
    rw [ed] at o
    exact o (.ref D) H (rr ++ [D]) (g.adopt hD) (R.adopt hB hd hl va) (.ref (by rw [← R.len]; simp))
  | some ds =>
    rw [ed] at o
    have hds := VRs.allD va ed
    have hl2 : ds.length ≤ lim := by rw [← hds.length, Paired.length va]; exact hl
    unfold mkL at o
    cases al with
    | false => exact o (.ref D) H rr g R.less (.d (.lst hd hB hr hl2 hds.less))
    | true => exact o (.ref D) H (rr ++ [D]) (g.adopt hD) (R.adopt hB hd (by simpa using hl2) hds.vrs) (.ref (by rw [← R.len]; simp))
end
section
variable {X : Cx} {cl : Nat → Addr} {W : WX} {elt tg iter : Expr} {ifs : List Expr} {scope : Scope} {own : List (Str × Nat)} {pos : Pos} {gi : Slots → Store → R (List Val)} {gc ge : Slots → Store → R Val} {t : Tg} {al : Bool}
theorem lc_imp (hs : ∀ j ∈ t.slots, j ∈ own.map (·.2)) {σ : L2.St} {H : Hp} {Q : VK} (h : rdE X.K cl W (eLc al (own.map (·.2)) t gi gc ge) σ H Q) :
    tLc (rdI X.K cl W gi) (rdG X.K cl t) (rdT X.K cl W0 gc) (rdE X.K cl W0 ge) (own.map (·.2)) σ H Q := by
  obtain ⟨B, r, M, s, R, S, o⟩ := h
  refine ⟨B, r, M, s, R, S, o.step fun J items r1 M1 H1 g1 R1 it1 o1 D hD => ?_⟩
  cases q : lcL gc ge t (wipe s (own.map (·.2))) items M1 with
  | bad => rw [q] at o1; exact o1.elim
  | exc c M' => exact absurd q (lcL_noexc _ _ _ _)
  | ok ys M2 =>
    rw [q] at o1
    simp only [Gv.R.bind_ok] at o1
    refine ⟨fun i m H => m = items.length - i ∧ LcI X.K cl B r1 H1 D (L2.wipe σ (own.map (·.2))) (wipe s (own.map (·.2))) t gc ge J items ys M2 i H, ⟨_, rfl, Nat.zero_le _, ?_⟩, ?_⟩
    · have gl : Grow r1 H1 r1 (upd H1 D (.lst [])) := Grow.laid hD
      exact ⟨r1, M1, [], [], ys, gl, R1.more hD, (((S.wipe (own.map (·.2))).mono g1).more hD).mono gl, (it1.more hD).mono gl, upd_same, .nil, Nat.le_refl _, q, rfl⟩
    · rintro i m H ⟨rfl, I⟩
      by_cases hi : i < items.length
      · refine .inr ⟨?_, fun H' => LcI X.K cl B r1 H1 D (L2.wipe σ (own.map (·.2))) (wipe s (own.map (·.2))) t gc ge J items ys M2 (i + 1) H', fun H' I' => ⟨items.length - (i + 1), by omega, rfl, I'⟩, fun x H' y => I.turn hD hi hs y⟩
        obtain ⟨rr, MM, acc, yd, yr, g, R, S, it, _⟩ := I.st
        exact it.go hi
      · have : i = items.length := Nat.le_antisymm I.le (Nat.le_of_not_lt hi)
        subst this
        exact .inl (I.done hD R1 o1)
theorem se_lc (hc : X.calm = true) (hN : X.N.Nodup) (hi : SI X cl W tg iter gi) (ok : BlkOk X.N X.env.scope scope own)
    (hg : ∀ (s : Shared) (H : Hp) (C : Addr) (l : List (Str × Addr)) (fp : List Addr), SG (X.blk s H scope (compEnvC scope l C X.env) fp) cl tg t)
    (ht : ∀ (s : Shared) (H : Hp) (C : Addr) (l : List (Str × Addr)) (fp : List Addr), PTs (X.blk s H scope (compEnvC scope l C X.env) fp) ifs (rdT X.K cl W0 gc))
    (he : ∀ (s : Shared) (H : Hp) (C : Addr) (l : List (Str × Addr)) (fp : List Addr), SE (X.blk s H scope (compEnvC scope l C X.env) fp) cl W0 elt ge)
    (hf : ∀ x, foldedSetIterable iter X.env x = pure x) (hs : ∀ j ∈ t.slots, j ∈ own.map (·.2)) :
    SE X cl W (.ListComp elt [⟨tg, iter, ifs, 0⟩] scope pos) (eLc al (own.map (·.2)) t gi gc ge) :=
  PE.imp (pe_lc hc hN hi ok hg ht he hf) fun σ H Q h => lc_imp hs h
end
end Gv

namespace Gv
open PySem PySem.Spec L2

/-! ### statements -/
def OutS (K : PySem.W.Frag) (cl : Nat → Addr) (W : WX) (B r : List Addr) (H : Hp) (x : SR) (D : Ends) : Prop :=
  match x with
  | .next s M' => ∀ σ' H' r', Grow r H r' H' → Rel K cl B r' M' H' → SRel K cl B r' H' σ' s → D.nx σ' H'
  | .ret v M' => ∀ u H' r', Grow r H r' H' → Rel K cl B r' M' H' → VR K cl B r' H' u v → D.rt u H'
  | .exc c s M' => ∀ σ' H' r', Grow r H r' H' → Rel K cl B r' M' H' → SRel K cl B r' H' σ' s → W (.ref (cl c)) none σ' H'
  | .bad => False
def rdS (K : PySem.W.Frag) (cl : Nat → Addr) (W : WX) (g : Slots → Store → SR) : TS := fun D σ H => ∃ B r M s, Rel K cl B r M H ∧ SRel K cl B r H σ s ∧ OutS K cl W B r H (g s M) D
abbrev SS (X : Cx) (cl : Nat → Addr) (W : WX) (st : Stmt) (g : Slots → Store → SR) : Prop := PS X st (rdS X.K cl W g)
abbrev SSs (X : Cx) (cl : Nat → Addr) (W : WX) (st : List Stmt) (g : Slots → Store → SR) : Prop := PSs X st (rdS X.K cl W g)
section
variable {K : PySem.W.Frag} {cl : Nat → Addr} {W : WX} {σ : L2.St} {B r : List Addr} {H : Hp} {M : Store} {s : Slots} {D : Ends}
theorem OutS.grow {r1 : List Addr} {H1 : Hp} {x : SR} (o : OutS K cl W B r H x D) (g : Grow r H r1 H1) : OutS K cl W B r1 H1 x D := by
  cases x with
  | bad => exact o
  | next s M => exact fun σ' H' r' g' => o σ' H' r' (g.trans g')
  | ret v M => exact fun u H' r' g' => o u H' r' (g.trans g')
  | exc c s M => exact fun σ' H' r' g' => o σ' H' r' (g.trans g')
/-- an expression at the head of a statement -/
theorem OutS.step {x : R Val} {f : Val → Store → SR} {k : V → Val → List Addr → Store → Hp → Prop} (S : SRel K cl B r H σ s) (o : OutS K cl W B r H (x.toS s f) D)
    (h : ∀ u v r1 M1 H1, Grow r H r1 H1 → Rel K cl B r1 M1 H1 → VR K cl B r1 H1 u v → OutS K cl W B r1 H1 (f v M1) D → k u v r1 M1 H1) : Out K cl (VR K cl B) W σ B r H x k := by
  cases x with
  | bad => exact o
  | exc c M' => exact fun H' r' g R => o σ H' r' g R (S.mono g)
  | ok v M' => exact fun u H' r' g R p => h u v r' M' H' g R p (OutS.grow (x := f v M') o g)
theorem OutS.next {σ' : L2.St} {s' : Slots} {r' : List Addr} {H' : Hp} (o : OutS K cl W B r H (.next s' M) D) (g : Grow r H r' H') (R : Rel K cl B r' M H') (S : SRel K cl B r' H' σ' s') : D.nx σ' H' := o σ' H' r' g R S
end
section
variable {X : Cx} {cl : Nat → Addr} {W : WX} {a b c e o i tg : Expr} {es : List Expr} {ga gb gc ge go gi : Slots → Store → R Val} {gl : Slots → Store → R (List Val)} {pos p : Pos} {x : Str} {gt gu gb' : Slots → Store → SR} {st : Stmt} {sts body : List Stmt} {t : Tg}
theorem ss_pass : SS X cl W (.Pass pos) (fun s M => .next s M) := PS.imp ps_pass fun D σ H ⟨B, r, M, s, R, S, o⟩ => o.next .refl R S
theorem ss_expr (he : SE X cl W e ge) (hs : swapsWith e none pos.line X.env = pure false) : SS X cl W (.Expr e pos) (fun s M => (ge s M).toS s fun _ M => .next s M) :=
  PS.imp (ps_expr he hs) fun D σ H ⟨B, r, M, s, R, S, o⟩ => ⟨B, r, M, s, R, S, OutS.step S o fun u v r1 M1 H1 g1 R1 v1 o1 => o1.next .refl R1 (S.mono g1)⟩
theorem ss_ret (he : SE X cl W e ge) : SS X cl W (.Return (some e) pos) (fun s M => (ge s M).toS s fun v M => .ret v M) :=
  PS.imp (ps_ret he) fun D σ H ⟨B, r, M, s, R, S, o⟩ => ⟨B, r, M, s, R, S, OutS.step S o fun u v r1 M1 H1 g1 R1 v1 o1 => o1 u H1 r1 .refl R1 v1⟩
def sAsg (t : Tg) (g : Slots → Store → R Val) : Slots → Store → SR := fun s M => (g s M).toS s fun v M => (match asgT t v s with | some s' => .next s' M | none => .bad)
theorem asg_imp {D : Ends} {σ : L2.St} {H : Hp} (h : rdS X.K cl W (sAsg t ge) D σ H) : tAsg (rdE X.K cl W ge) (rdG X.K cl t) D σ H := by
  obtain ⟨B, r, M, s, R, S, o⟩ := h
  refine ⟨B, r, M, s, R, S, OutS.step S o fun u v r1 M1 H1 g1 R1 v1 o1 => ?_⟩
  split at o1
  · rename_i s' e1
    exact ⟨B, r1, M1, s, v, s', R1, S.mono g1, v1, e1, fun σ' S' _ _ => o1.next .refl R1 S'⟩
  · exact o1.elim
theorem ss_asg (he : SE X cl W e ge) (hg : SG X cl tg t) (h1 : swapsWithSole [tg] e pos.line X.env = pure false) (h2 : swappedStores [tg] e X.env = pure none) (h3 : (assignEach [tg] X.env).map (·.2) = [assign tg X.env]) : SS X cl W (.Assign [tg] e pos) (sAsg t ge) :=
  PS.imp (ps_asg he hg h1 h2 h3) fun D σ H h => asg_imp h
theorem ss_asgLc {i : Nat} {y : Str} {py lpos : Pos} {elt tg iter : Expr} {ifs : List Expr} {scope : Scope} {own : List (Str × Nat)} {al : Bool} (hc : X.calm = true) (hN : X.N.Nodup) (hy : X.N[i]? = some y) (hyl : X.env.scope.names.lookup y = some .local)
    (hsw : swapsWith (.ListComp elt [⟨tg, iter, ifs, 0⟩] scope lpos) (some (.Name y py)) pos.line X.env = pure true) (hi : SI X cl W tg iter gl) (ok : BlkOk X.N X.env.scope scope own)
    (hg : ∀ (s : Shared) (H : Hp) (C : Addr) (l : List (Str × Addr)) (fp : List Addr), SG (X.blk s H scope (compEnvC scope l C X.env) fp) cl tg t)
    (ht : ∀ (s : Shared) (H : Hp) (C : Addr) (l : List (Str × Addr)) (fp : List Addr), PTs (X.blk s H scope (compEnvC scope l C X.env) fp) ifs (rdT X.K cl W0 gc))
    (he : ∀ (s : Shared) (H : Hp) (C : Addr) (l : List (Str × Addr)) (fp : List Addr), SE (X.blk s H scope (compEnvC scope l C X.env) fp) cl W0 elt ge)
    (hf : ∀ x, foldedSetIterable iter X.env x = pure x) (hs : ∀ j ∈ t.slots, j ∈ own.map (·.2)) :
    SS X cl W (.Assign [.Name y py] (.ListComp elt [⟨tg, iter, ifs, 0⟩] scope lpos) pos) (sAsg (.one i) (eLc al (own.map (·.2)) t gl gc ge)) :=
  PS.imp (ps_setLc hc hN hy hyl hsw hi ok hg ht he hf) fun D σ H ⟨B, r, M, s, R, S, o⟩ => by
    refine lc_imp hs ⟨B, r, M, s, R, S, OutS.step S o fun u v r1 M1 H1 g1 R1 v1 o1 => ?_⟩
    simp only [asgT] at o1
    exact o1.next .refl R1 ((S.mono g1).set v1 i)
theorem ss_if (hc : ST X cl W c gc) (ha : SSs X cl W sts gt) (hb : SSs X cl W body gu) : SS X cl W (.If c sts body pos) (fun s M => (gc s M).toS s fun x M => (match x with | .d (.bool true) => gt s M | .d (.bool false) => gu s M | _ => .bad)) :=
  PS.imp (ps_if hc ha hb) fun D σ H ⟨B, r, M, s, R, S, o⟩ => ⟨B, r, M, s, R, S, OutS.step S o fun u v r1 M1 H1 g1 R1 v1 o1 => by
    split at o1
    · exact ⟨true, rfl, by dsimp only; rw [if_pos rfl]; exact ⟨B, r1, M1, s, R1, S.mono g1, o1⟩⟩
    · exact ⟨false, rfl, by dsimp only; rw [if_neg Bool.false_ne_true]; exact ⟨B, r1, M1, s, R1, S.mono g1, o1⟩⟩
    · exact o1.elim⟩
theorem sss_nil : SSs X cl W [] (fun s M => .next s M) := PSs.imp pss_nil fun D σ H ⟨B, r, M, s, R, S, o⟩ => o.next .refl R S
def sSeq (f g : Slots → Store → SR) : Slots → Store → SR := fun s M => (match f s M with
      | .next s1 M1 => g s1 M1
      | x => x)
theorem sss_cons (h1 : SS X cl W st gt) (h2 : SSs X cl W sts gu) : SSs X cl W (st :: sts) (sSeq gt gu) :=
  PSs.imp (pss_cons h1 h2) fun D σ H ⟨B, r, M, s, R, S, o⟩ => ⟨B, r, M, s, R, S, by
    unfold sSeq at o
    cases q : gt s M with
    | bad => rw [q] at o; exact o
    | next s1 M1 => rw [q] at o; exact fun σ' H' r' g R' S' => ⟨B, r', M1, s1, R', S', o.grow g⟩
    | ret v M1 => rw [q] at o; exact o
    | exc k s1 M1 => rw [q] at o; exact o⟩
/-! a list's item is stored; a list grows -/
theorem ix_eq : @Gv.ixN = @L2.ixN := rfl
theorem vrs_set {K : PySem.W.Frag} {B r : List Addr} {H : Hp} {u : V} {v : Val} (hv : VR K cl B r H u v) : ∀ {xs : List V} {vs : List Val} (j : Nat), VRs K cl B r H xs vs → VRs K cl B r H (xs.set j u) (vs.set j v)
  | _, _, _, .nil => .nil
  | _, _, 0, .cons _ t => .cons hv t
  | _, _, j + 1, .cons a t => .cons a (vrs_set hv j t)
def sSetix (go gi ge : Slots → Store → R Val) : Slots → Store → SR := fun s M => (ge s M).toS s fun v M => (go s M).toS s fun x M => (gi s M).toS s fun y M => (match x, y with
      | .ref a, .d (.int k) => (match M[a]? with
        | some (.lst vs) => (match ixN vs.length k with | some j => .next s (M.set a (.lst (vs.set j v))) | none => .bad)
        | _ => .bad)
      | _, _ => .bad)
theorem ss_setix (he : SE X cl W e ge) (ho : SE X cl W o go) (hi : SE X cl W i gi) (h0 : ∀ v, assign (.Subscript o i p) X.env v = (do
      let ov ← holding [v] (eval o X.env)
      let iv ← holding [v, ov] (eval i X.env)
      standAt p
      holding [v, ov, iv] (setItem ov iv v)
      release [v, ov, iv] [])) (h1 : swapsWithSole [.Subscript o i p] e pos.line X.env = pure false) (h2 : swappedStores [.Subscript o i p] e X.env = pure none)
    (h3 : (assignEach [.Subscript o i p] X.env).map (·.2) = [assign (.Subscript o i p) X.env]) : SS X cl W (.Assign [.Subscript o i p] e pos) (sSetix go gi ge) :=
  PS.imp (ps_asg he (pg_sub ho hi set_list h0) h1 h2 h3) fun D σ H ⟨B, r, M, s, R, S, oo⟩ => ⟨B, r, M, s, R, S, OutS.step S oo fun u v r1 M1 H1 g1 R1 v1 o1 =>
    ⟨B, r1, M1, s, R1, S.mono g1, OutS.step (S.mono g1) o1 fun w x r2 M2 H2 g2 R2 v2 o2 =>
      ⟨B, r2, M2, s, R2, (S.mono g1).mono g2, OutS.step ((S.mono g1).mono g2) o2 fun z y r3 M3 H3 g3 R3 v3 o3 => by
        split at o3
        · split at o3
          · rename_i vs em
            split at o3
            · rename_i j ej
              obtain ⟨pa, rfl, hp⟩ := (v2.mono g3).atRef
              obtain rfl := v3.int
              obtain ⟨c', e1, hc⟩ := R3.mem hp
              rw [em] at e1
              cases e1
              cases hc with
              | lst h' l hs =>
                rename_i xs
                refine ⟨pa, xs, _, j, rfl, rfl, h', by rw [Paired.length hs]; exact ej, ?_⟩
                have gw : Grow r3 H3 r3 (upd H3 pa (.lst (xs.set j u))) := R3.growW hp
                have hu := ((v1.mono g2).mono g3).mono gw
                exact o3.next gw (R3.write hp (.lst upd_same (by simpa using l) (vrs_set hu j (VRs.mono gw hs)))) ((((S.mono g1).mono g2).mono g3).mono gw)
            · exact o3.elim
          · exact o3.elim
        · exact o3.elim⟩⟩⟩
def sApp (go ge : Slots → Store → R Val) : Slots → Store → SR := fun s M => (go s M).toS s fun x M => (match x with
      | .ref a => (match M[a]? with
        | some (.lst _) => (ge s M).toS s fun v M => (match M[a]? with
          | some (.lst vs) => if vs.length < lim then .next s (M.set a (.lst (vs ++ [v]))) else .bad
          | _ => .bad)
        | _ => .bad)
      | _ => .bad)
theorem ss_app {apos cpos : Pos} (ho : SE X cl W o go) (he : SE X cl W e ge) (hb : attributeBase o "append" X.env (eval o X.env) = eval o X.env) (hl : (apos.endLine == cpos.line) = true) (hs : notStar e = true) (hw : swapsWith (.Call (.Attribute o "append" apos) [e] [] cpos) none pos.line X.env = pure false) :
    SS X cl W (.Expr (.Call (.Attribute o "append" apos) [e] [] cpos) pos) (sApp go ge) :=
  PS.imp (ps_expr (pe_bm PySem.F.plainAttrs_list PySem.F.slot_list_append PySem.F.type_list_append mt_append ho (pa_cons he pa_nil (star_cons hs)) hb (by
      rw [star_cons hs]; rfl) hl (star_cons hs) rfl) hw) fun D σ H ⟨B, r, M, s, R, S, oo⟩ => ⟨B, r, M, s, R, S, OutS.step S oo fun w x r1 M1 H1 g1 R1 v1 o1 => by
    split at o1
    · split at o1
      · rename_i em
        obtain ⟨pa, rfl, hp⟩ := v1.atRef
        obtain ⟨c', e1, hc⟩ := R1.mem hp
        rw [em] at e1
        cases e1
        cases hc with
        | lst h' l hs =>
          refine ⟨.inl ⟨rfl, _, .inl (.inl h')⟩, B, r1, M1, s, R1, S.mono g1, OutS.step (S.mono g1) o1 fun u v r2 M2 H2 g2 R2 v2 o2 => ?_⟩
          split at o2
          · rename_i vs em2
            split at o2
            · rename_i hlt
              obtain ⟨pb, eb, hp2⟩ := ((VR.ref hp : VR X.K cl B r1 H1 _ _).mono g2).atRef
              cases eb
              obtain ⟨c2, e2, hc2⟩ := R2.mem hp2
              rw [em2] at e2
              cases e2
              cases hc2 with
              | lst h2 l2 hs2 =>
                rename_i xs2
                refine ⟨pa, xs2, u, rfl, rfl, h2, by rw [Paired.length hs2, ← lim_eq]; exact hlt, ?_⟩
                have gw : Grow r2 H2 r2 (upd H2 pa (.lst (xs2 ++ [u]))) := R2.growW hp2
                exact o2.next gw (R2.write hp2 (.lst upd_same (by simp; omega) (paired_snoc (v2.mono gw) (VRs.mono gw hs2)))) (((S.mono g1).mono g2).mono gw)
            · exact o2.elim
          · exact o2.elim
      · exact o1.elim
    · exact o1.elim⟩
end
end Gv

namespace Gv
open PySem PySem.Spec L2

section
variable {X : Cx} {cl : Nat → Addr} {W : WX} {c iter tg : Expr} {gc : Slots → Store → R Val} {gi : Slots → Store → R (List Val)} {pos : Pos} {gb : Slots → Store → SR} {body : List Stmt} {t : Tg}
def sFor (t : Tg) (gi : Slots → Store → R (List Val)) (gb : Slots → Store → SR) : Slots → Store → SR := fun s M => (match gi s M with
      | .ok vs M => forL gb t vs s M
      | .exc c M => .exc c s M
      | .bad => .bad)
theorem ss_for (hp : PassesOwn (model X.prog X.w) X.A X.env X.xe) (hc : X.calm = true) (hi : SI X cl W tg iter gi) (hg : SG X cl tg t) (hb : SSs X cl W body gb) (hf : ∀ x, foldedSetIterable iter X.env x = pure x) :
    SS X cl W (.For tg iter body [] pos) (sFor t gi gb) :=
  PS.imp (ps_for hp hc hi hg hb hf) fun D σ H ⟨B, r, M, s, R, S, o⟩ => by
    refine ⟨B, r, M, s, R, S, ?_⟩
    unfold sFor at o
    cases q : gi s M with
    | bad => rw [q] at o; exact o
    | exc k M' => rw [q] at o; exact fun H' r' g R' => o σ H' r' g R' (S.mono g)
    | ok items M1 =>
      rw [q] at o
      intro J H1 r1 g1 R1 it1
      refine ⟨fun i m σ H => m = items.length - i ∧ i ≤ items.length ∧ ∃ rr MM ss, Rel X.K cl B rr MM H ∧ SRel X.K cl B rr H σ ss ∧ ItR X.K cl B rr H J items ∧ OutS X.K cl W B rr H (forL gb t (items.drop i) ss MM) D,
        ⟨_, rfl, Nat.zero_le _, r1, M1, s, R1, S.mono g1, it1, OutS.grow (x := forL gb t items s M1) o g1⟩, ?_⟩
      rintro i m σ2 H2 ⟨rfl, hle, rr, MM, ss, R2, S2, it2, o2⟩
      by_cases hlt : i < items.length
      · refine .inr ⟨it2.go hlt, fun σ' H' => i + 1 ≤ items.length ∧ ∃ rr MM ss, Rel X.K cl B rr MM H' ∧ SRel X.K cl B rr H' σ' ss ∧ ItR X.K cl B rr H' J items ∧ OutS X.K cl W B rr H' (forL gb t (items.drop (i + 1)) ss MM) D,
          fun σ' H' h => ⟨items.length - (i + 1), by omega, rfl, h⟩, fun x H' y => ?_⟩
        have hv : items[i]? = some items[i] := by simp [hlt]
        obtain ⟨gy, Ry, vx, _⟩ := it2.yld R2 hv y
        rw [List.drop_eq_getElem_cons hlt] at o2
        unfold forL at o2
        split at o2
        · exact o2.elim
        · rename_i s1 e1
          refine ⟨B, rr, MM, ss, _, s1, Ry, S2.mono gy, vx, e1, fun σ' S' _ _ => ⟨B, rr, MM, s1, Ry, S', ?_⟩⟩
          have o3 := o2.grow gy
          cases qb : gb s1 MM with
          | bad => rw [qb] at o3; exact o3
          | ret v M4 => rw [qb] at o3; exact o3
          | exc k s4 M4 => rw [qb] at o3; exact o3
          | next s4 M4 =>
            rw [qb] at o3
            exact fun σ4 H4 r4 g4 R4 S4 => ⟨hlt, r4, M4, s4, R4, S4, (it2.mono gy).mono g4, OutS.grow (x := forL gb t (items.drop (i + 1)) s4 M4) o3 g4⟩
      · have : i = items.length := by omega
        subst this
        rw [List.drop_length] at o2
        exact .inl ⟨it2.stop, OutS.next o2 .refl R2 S2⟩
theorem ss_while {wf : Nat} (hp : PassesOwn (model X.prog X.w) X.A X.env X.xe) (hc : ST X cl W c gc) (hb : SSs X cl W body gb) : SS X cl W (.While c body [] pos) (fun s M => whileL gc gb wf s M) :=
  PS.imp (ps_while hp hc hb) fun D σ H ⟨B, r, M, s, R, S, o⟩ => by
    refine ⟨fun m σ H => ∃ B r M s, Rel X.K cl B r M H ∧ SRel X.K cl B r H σ s ∧ OutS X.K cl W B r H (whileL gc gb m s M) D, ⟨wf, B, r, M, s, R, S, o⟩, ?_⟩
    clear R S o
    rintro m σ H ⟨B, r, M, s, R, S, o⟩
    cases m with
    | zero => exact o.elim
    | succ n =>
      refine ⟨B, r, M, s, R, S, ?_⟩
      unfold whileL at o
      split at o
      · rename_i M1 ec
        rw [ec]
        intro u H1 r1 g1 R1 v1
        refine ⟨true, rfl, ?_⟩
        dsimp only
        rw [if_pos rfl]
        refine ⟨fun σ' H' => ∃ B r M s, Rel X.K cl B r M H' ∧ SRel X.K cl B r H' σ' s ∧ OutS X.K cl W B r H' (whileL gc gb n s M) D, fun σ' H' h => ⟨n, Nat.lt_succ_self n, h⟩, B, r1, M1, s, R1, S.mono g1, ?_⟩
        have o3 := o.grow g1
        cases qb : gb s M1 with
        | bad => rw [qb] at o3; exact o3
        | ret v M4 => rw [qb] at o3; exact o3
        | exc k s4 M4 => rw [qb] at o3; exact o3
        | next s4 M4 =>
          rw [qb] at o3
          exact fun σ4 H4 r4 g4 R4 S4 => ⟨B, r4, M4, s4, R4, S4, OutS.grow (x := whileL gc gb n s4 M4) o3 g4⟩
      · rename_i M1 ec
        rw [ec]
        intro u H1 r1 g1 R1 v1
        refine ⟨false, rfl, ?_⟩
        dsimp only
        rw [if_neg Bool.false_ne_true]
        exact OutS.next o g1 R1 (S.mono g1)
      · rename_i k M1 ec
        rw [ec]
        exact fun H' r' g R' => o σ H' r' g R' (S.mono g)
      · exact o.elim
end

/-! ### what leaves a def -/
section
variable {K : PySem.W.Frag} {cl : Nat → Addr} {B r e : List Addr} {H : Hp} {M : Store}
mutual
theorem DR.trunc : ∀ {x : V} {d : PyData}, DR K B (r ++ e) H x d → DR K B r H x d
  | _, _, .non => .non
  | _, _, .bl b => .bl b
  | _, _, .int i => .int i
  | _, _, .str x => .str x
  | _, _, .lst h n1 n2 l hs => .lst h n1 (fun z => n2 (List.mem_append_left _ z)) l (DRs.trunc hs)
  | _, _, .tup h l hs => .tup h l (DRs.trunc hs)
theorem DRs.trunc : ∀ {xs : List V} {ds : List PyData}, DRs K B (r ++ e) H xs ds → DRs K B r H xs ds
  | _, _, .nil => .nil
  | _, _, .cons a b => .cons (DR.trunc a) (DRs.trunc b)
end
theorem VR.trunc {x : V} {v : Val} (h : VR K cl B (r ++ e) H x v) (hb : below r.length v = true) : VR K cl B r H x v := by
  cases h with
  | d h => exact .d h.trunc
  | ref h =>
    have hn := of_decide_eq_true hb
    rw [List.getElem?_append_left hn] at h
    exact .ref h
  | exc h n1 n2 => exact .exc h n1 (fun z => n2 (List.mem_append_left _ z))
  | scr h =>
    rcases h with ⟨h, n1, n2⟩ | h
    · exact .scr (.inl ⟨h, n1, fun z => n2 (List.mem_append_left _ z)⟩)
    · exact .scr (.inr h)
theorem VRs.trunc : ∀ {xs : List V} {vs : List Val}, VRs K cl B (r ++ e) H xs vs → vs.all (below r.length) = true → VRs K cl B r H xs vs
  | _, _, .nil, _ => .nil
  | _, _, .cons a t, h => by
    simp only [List.all_cons, Bool.and_eq_true] at h
    exact .cons (a.trunc h.1) (VRs.trunc t h.2)
theorem Rel.trunc (R : Rel K cl B (r ++ e) M H) (hb : (M.take r.length).all (Cell.below r.length) = true) : Rel K cl B r (M.take r.length) H := by
  have hl : r.length ≤ M.length := by rw [← R.len]; simp
  refine ⟨by simp; omega, (List.nodup_append.mp R.nd).1, fun a h => R.blk a (List.mem_append_left _ h), R.bs, fun n c a e1 e2 => ?_⟩
  have hn : n < r.length := (List.getElem?_eq_some_iff.mp e2).1
  have hc : Cell.below r.length c = true := List.all_eq_true.mp hb c (List.mem_of_getElem? e1)
  have e1' : M[n]? = some c := by rw [List.getElem?_take_of_lt hn] at e1; exact e1
  have h := R.cell n c a e1' (by rw [List.getElem?_append_left hn]; exact e2)
  cases h with
  | lst h l hs => exact .lst h l (VRs.trunc hs hc)
theorem mapM_dr {f : Val → Option PyData} (hf : ∀ x v d, VR K cl B (r ++ e) H x v → f v = some d → DR K B r H x d) : ∀ {xs : List V} {vs : List Val} {ds : List PyData}, VRs K cl B (r ++ e) H xs vs → vs.mapM f = some ds → DRs K B r H xs ds
  | _, _, _, .nil, q => by simp at q; subst q; exact .nil
  | _, _, ds, .cons (a := x) (b := v) h t, q => by
    rw [List.mapM_cons] at q
    cases e1 : f v with
    | none => simp [e1] at q
    | some d =>
      rename_i vs
      cases e2 : List.mapM f vs with
      | none => simp [e1, e2] at q
      | some ds' =>
        simp [e1, e2] at q
        subst q
        exact .cons (hf _ _ _ h e1) (mapM_dr hf t e2)
theorem frz_dr (R : Rel K cl B (r ++ e) M H) : ∀ (n : Nat) (x : V) (v : Val) (d : PyData), VR K cl B (r ++ e) H x v → frz r.length n M v = some d → DR K B r H x d
  | n, x, .d y, d, h, q => by
    have e' : y = d := by cases n <;> simpa [frz] using q
    subst e'
    exact h.inv.trunc
  | 0, x, .ref a, d, h, q => by simp [frz] at q
  | n + 1, x, .ref a, d, h, q => by
    obtain ⟨p, rfl, hp⟩ := h.atRef
    obtain ⟨c, e1, hc⟩ := R.mem hp
    simp only [frz] at q
    split at q
    · cases q
    · rename_i hna
      cases hc with
      | lst h' l hs =>
        rw [e1] at q
        simp only [Option.map_eq_some_iff] at q
        obtain ⟨ds, e2, rfl⟩ := q
        have hd := mapM_dr (fun x v d hv hd => frz_dr R n x v d hv hd) hs e2
        refine .lst h' (R.blk p (List.mem_of_getElem? hp)) (fun z => ?_) ?_ hd
        · obtain ⟨m, hm⟩ := List.getElem?_of_mem z
          have hm1 : m < r.length := (List.getElem?_eq_some_iff.mp hm).1
          have hm2 : (r ++ e)[m]? = some p := by rw [List.getElem?_append_left hm1]; exact hm
          obtain ⟨g1, q1⟩ := List.getElem?_eq_some_iff.mp hm2
          obtain ⟨g2, q2⟩ := List.getElem?_eq_some_iff.mp hp
          have := (List.getElem_inj R.nd).mp (q1.trans q2.symm)
          omega
        · rw [← hd.length, Paired.length hs]; exact l
  | 0, x, .exc c, d, h, q => by simp [frz] at q
  | n + 1, x, .exc c, d, h, q => by simp [frz] at q
  | 0, x, .scr c, d, h, q => by simp [frz] at q
  | n + 1, x, .scr c, d, h, q => by simp [frz] at q
theorem Grow.trunc {H0 : Hp} (g : Grow r H0 (r ++ e) H) : Grow r H0 r H := ⟨⟨[], by simp⟩, g.keep, fun _ h => .inl h, g.some, g.tup⟩
end
section
variable {K : PySem.W.Frag} {cl : Nat → Addr} {B r r' : List Addr} {H H' : Hp} {M M' : Store} {W : WX} {σ : L2.St} {Q : VK} {E : XK}
theorem exit_ok {u : V} {v : Val} (R : Rel K cl B r M H) (o : Out K cl (VR K cl B) W σ B r H (exitV M.length v M') (KQ Q)) (g : Grow r H r' H') (R' : Rel K cl B r' M' H') (hv : VR K cl B r' H' u v) : Q u H' := by
  obtain ⟨e, rfl⟩ := id g.pre
  rw [← R.len] at o
  unfold exitV at o
  split at o
  · rename_i hc
    split at o
    · rename_i a
      split at o
      · rename_i ha
        exact o u H' r g.trunc (R'.trunc hc) (hv.trunc (decide_eq_true ha))
      · split at o
        · rename_i x ef
          exact o u H' r g.trunc (R'.trunc hc) (.d (frz_dr R' 8 u _ x hv ef))
        · exact o u H' _ g R' hv
    · rename_i hn
      refine o u H' r g.trunc (R'.trunc hc) (hv.trunc ?_)
      cases v with
      | ref a => exact absurd rfl (hn a)
      | _ => rfl
  · exact o u H' _ g R' hv
theorem exitX_ok {c : Nat} (R : Rel K cl B r M H) (o : Out K cl (VR K cl B) W σ B r H (exitX M.length c M') (KQ Q)) (g : Grow r H r' H') (R' : Rel K cl B r' M' H') : W (.ref (cl c)) none σ H' := by
  obtain ⟨e, rfl⟩ := id g.pre
  rw [← R.len] at o
  unfold exitX at o
  split at o
  · rename_i hc
    exact o H' r g.trunc (R'.trunc hc)
  · exact o H' _ g R'
theorem fin_ok {x : SR} (R : Rel K cl B r M H) (o : Out K cl (VR K cl B) (fun c d _ H => E c d H) [] B r H (fin M.length x) (KQ Q)) : OutS K cl (fun c d _ H => E c d H) B r H x { nx := fun _ H' => Q .non H', rt := Q } := by
  cases x with
  | bad => exact o
  | next s M' => exact fun σ' H' r' g R' S' => exit_ok R o g R' (.d .non)
  | ret v M' => exact fun u H' r' g R' hv => exit_ok R o g R' hv
  | exc c s M' => exact fun σ' H' r' g R' S' => exitX_ok R o g R'
theorem finB_ok {kp : Bool} {x : SR} (R : Rel K cl B r M H) (o : Out K cl (VR K cl B) (fun c d _ H => E c d H) [] B r H (finB kp M.length x) (KQ Q)) : OutS K cl (fun c d _ H => E c d H) B r H x { nx := fun _ H' => Q .non H', rt := Q } := by
  cases kp with
  | false => exact fin_ok R o
  | true =>
    cases x with
    | bad => exact o
    | next s M' => exact fun σ' H' r' g R' S' => o .non H' r' g R' (.d .non)
    | ret v M' => exact fun u H' r' g R' hv => o u H' r' g R' hv
    | exc c s M' => exact fun σ' H' r' g R' S' => o H' r' g R'
theorem start_ok {us : List V} {vs : List Val} {N : List Str} (h : VRs K cl B r H us vs) : SRel K cl B r H (L2.start N us) (vs.map some ++ List.replicate (N.length - vs.length) none) := by
  have hl := Paired.length h
  refine ⟨by simp [L2.start, hl], fun i v e => ?_⟩
  by_cases hi : i < vs.length
  · rw [List.getElem?_append_left (by simpa using hi), List.getElem?_map, Option.map_eq_some_iff] at e
    obtain ⟨w, e1, e2⟩ := e
    cases e2
    obtain ⟨x, ex, hx⟩ := paired_get h e1
    refine ⟨x, ?_, hx⟩
    unfold L2.start
    rw [List.getElem?_append_left (by simp; omega), List.getElem?_map, ex]
    rfl
  · rw [List.getElem?_append_right (by simp; omega)] at e
    have := List.mem_of_getElem? e
    simp at this
end
/-- a def, by its body's evaluator -/
theorem fn_ok {P : Program} {w : World} {K : PySem.W.Frag} {mg : Str → Option Value} {base : Heap} {cl : Nat → Addr} {k : Nat} {f : Addr} {name qual : Str} {params : Arguments} {body : List Stmt} {scope : Scope} {dV kV doc pm cdv ct oc : Value} {an od : Option Addr}
    {osl : Array (Option Value)} {N ps : List Str} {gb : Slots → Store → SR} {g : List Val → Store → R Val} {kp : Bool}
    (lk : K.lookup f = some ⟨oc, od, .func (PySem.W.fnOf name qual params body scope dV kV doc pm an cdv ct), osl⟩) (hcd : PySem.W.codeIn K cdv qual = true) (S : FnScope N ps scope)
    (hg : ∀ vs M, vs.length = ps.length → g vs M = finB kp M.length (gb (vs.map some ++ List.replicate (N.length - vs.length) none) M))
    (hb : ∀ (A : Around) (outer : List Env) (s : Shared) (H : Hp) (E : XK), Room k (A.deeper (PyProof.Rows.envOfC qual scope s.heap.objs.size f cdv)) →
      SSs (cxOf (L2.CX P w) P w K mg base N qual scope f cdv A outer s H E) cl (fun c d _ H => E c d H) body gb) :
    FnOk P w K mg base (L2.CX P w) (k + 1) f (PySem.W.fnOf name qual params body scope dV kV doc pm an cdv ct) ps (spF K cl ps.length g) := by
  refine fn_of lk hcd S (fun vs H Q E h => h.1) fun A outer s H us Q E hr hsp => ?_
  obtain ⟨hl, B, r, M, vs, R, hv, o⟩ := hsp
  refine ⟨_, hb A outer s H E hr, B, r, M, _, R, start_ok (N := N) hv, ?_⟩
  rw [hg vs M (by rw [← Paired.length hv]; exact hl)] at o
  exact finB_ok R o
end Gv

namespace Gv
open PySem PySem.Spec L2
section
variable {X : Cx} {cl : Nat → Addr} {W : WX} {o e : Expr} {es : List Expr} {go : Slots → Store → R Val} {gs : Slots → Store → R (List Val)} {apos cpos : Pos}
def eMt (m : Mt) (go : Slots → Store → R Val) (gs : Slots → Store → R (List Val)) : Slots → Store → R Val := fun s M => (go s M).bind fun x M => if isLst M x then (gs s M).bind fun vs M => mtD m x vs M else .bad
theorem isLst_ty {K : PySem.W.Frag} {B r : List Addr} {H : Hp} {M : Store} {x : V} {v : Val} (R : Rel K cl B r M H) (hv : VR K cl B r H x v) (h : isLst M v = true) : tyV K "list" x H := by
  unfold isLst at h
  split at h
  · obtain ⟨a, xs, rfl, hx, _⟩ := hv.list
    exact .inl ⟨rfl, _, .inl (.inl hx)⟩
  · obtain ⟨p, rfl, hp⟩ := hv.atRef
    obtain ⟨c, e1, hc⟩ := R.mem hp
    rw [e1] at h
    cases hc with
    | lst h' l hs => exact .inl ⟨rfl, _, .inl (.inl h')⟩
  · cases h
/-- a method of a list, by its rule -/
theorem se_mtA {m : Mt} {name : Str} {id : String} {rr : V → List V → Hp → VK → Prop} (slot : Slot "list" name id) (hty : typeOf (.builtin id) = pure (.type "method_descriptor")) (hm : MtR X id rr) (ho : SE X cl W o go) (ha : SA X cl W (e :: es) gs)
    (hk : ∀ (σ : L2.St) (B r : List Addr) (H : Hp) (M : Store) (Q : VK) (x : V) (v : Val) (us : List V) (vs : List Val), Rel X.K cl B r M H → VR X.K cl B r H x v → VRs X.K cl B r H us vs → Out X.K cl (VR X.K cl B) W σ B r H (mtD m v vs M) (KQ Q) → rr x us H Q)
    (hb : attributeBase o name X.env (eval o X.env) = eval o X.env) (hl : (apos.endLine == cpos.line) = true) (hs : (e :: es).all notStar = true) (hn : (e :: es).length < 20) :
    SE X cl W (.Call (.Attribute o name apos) (e :: es) [] cpos) (eMt m go gs) := by
  have hs' := hs
  simp only [List.all_cons, Bool.and_eq_true] at hs'
  have hall : (backTo cpos (starEach (e :: es) X.env)).all (fun x => !x.1) = true := by
    have := star_all (env := X.env) (pos := cpos) hs
    rw [List.any_eq_false] at this
    rw [List.all_eq_true]
    intro x hx
    simpa using this x hx
  refine PE.imp (pe_bm PySem.F.plainAttrs_list slot hty hm ho ha hb (by
      rw [hall]
      have : decide ((e :: es).length + ([] : List Keyword).length + (if ([] : List Keyword).isEmpty then 0 else 1) < 30) = true := by
        rw [decide_eq_true_eq]
        simp
        simp at hn
        omega
      rw [this]
      rfl) hl (star_cons hs'.1) (star_all hs'.2)) fun σ H Q ⟨B, r, M, s, R, S, o⟩ => ⟨B, r, M, s, R, S, o.step fun x v r1 M1 H1 g1 R1 v1 o1 => ?_⟩
  split at o1
  · rename_i hil
    exact ⟨isLst_ty R1 v1 hil, B, r1, M1, s, R1, S.mono g1, o1.step fun us vs r2 M2 H2 g2 R2 v2 o2 => hk σ B r2 H2 M2 Q x v us vs R2 (v1.mono g2) v2 o2⟩
  · exact o1.elim
theorem se_mt0 {m : Mt} {name : Str} {id : String} {rr : V → List V → Hp → VK → Prop} (slot : Slot "list" name id) (hty : typeOf (.builtin id) = pure (.type "method_descriptor")) (hm : MtR X id rr) (ho : SE X cl W o go)
    (hk : ∀ (σ : L2.St) (B r : List Addr) (H : Hp) (M : Store) (Q : VK) (x : V) (v : Val), Rel X.K cl B r M H → VR X.K cl B r H x v → Out X.K cl (VR X.K cl B) W σ B r H (mtD m v [] M) (KQ Q) → rr x [] H Q)
    (hb : attributeBase o name X.env (eval o X.env) = eval o X.env) (hl : (apos.endLine == cpos.line) = true) :
    SE X cl W (.Call (.Attribute o name apos) [] [] cpos) (eMt m go eNil) := by
  refine PE.imp (pe_bm0 PySem.F.plainAttrs_list slot hty hm ho hb hl) fun σ H Q ⟨B, r, M, s, R, S, o⟩ => ⟨B, r, M, s, R, S, o.step fun x v r1 M1 H1 g1 R1 v1 o1 => ?_⟩
  split at o1
  · rename_i hil
    exact ⟨isLst_ty R1 v1 hil, hk σ B r1 H1 M1 Q x v R1 v1 o1⟩
  · exact o1.elim
section
variable {K : PySem.W.Frag} {σ : L2.St} {B r : List Addr} {H : Hp} {M : Store} {Q : VK} {x : V} {v : Val} {us : List V} {vs : List Val}
theorem mt_at {m : Mt} (hm : m ≠ .index) (R : Rel K cl B r M H) (hv : VR K cl B r H x v) (o : Out K cl (VR K cl B) W σ B r H (mtD m v vs M) (KQ Q)) :
    ∃ n p xs ls, x = .ref p ∧ r[n]? = some p ∧ M[n]? = some (.lst ls) ∧ H p = some (.lst xs) ∧ ls.length ≤ lim ∧ VRs K cl B r H xs ls ∧ Out K cl (VR K cl B) W σ B r H (mtL m n ls vs M) (KQ Q) := by
  unfold mtD at o
  split at o
  · exact absurd rfl hm
  · split at o
    · split at o
      · rename_i ls em
        obtain ⟨p, rfl, hp⟩ := hv.atRef
        obtain ⟨c, e1, hc⟩ := R.mem hp
        rw [em] at e1
        cases e1
        cases hc with
        | lst h' l hs => exact ⟨_, p, _, ls, rfl, hp, em, h', l, hs, o⟩
      · exact o.elim
    · exact o.elim
theorem mt_wr {n : Nat} {p : Addr} {xs' : List V} {ls' : List Val} {w : Val} {u : V} (R : Rel K cl B r M H) (hp : r[n]? = some p) (hl : ls'.length ≤ lim) (hs : VRs K cl B r H xs' ls') (hw : VR K cl B r H u w)
    (o : Out K cl (VR K cl B) W σ B r H (.ok w (M.set n (.lst ls'))) (KQ Q)) : Q u (upd H p (.lst xs')) := by
  have gw : Grow r H r (upd H p (.lst xs')) := R.growW hp
  exact o u _ r gw (R.write hp (.lst upd_same hl (VRs.mono gw hs))) (hw.mono gw)
theorem itemsV_ok (R : Rel K cl B r M H) {zs : List Val} (hv : VR K cl B r H x v) (e : itemsV M v = some zs) : ∃ p ys, x = .ref p ∧ H p = some (.lst ys) ∧ VRs K cl B r H ys zs := by
  unfold itemsV at e
  split at e
  · obtain ⟨a, xs, rfl, h, _, _, _, hs⟩ := hv.list
    cases e
    exact ⟨a, xs, rfl, h, hs.vrs⟩
  · split at e
    · rename_i ls em
      cases e
      obtain ⟨p, rfl, hp⟩ := hv.atRef
      obtain ⟨c, e1, hc⟩ := R.mem hp
      rw [em] at e1
      cases e1
      cases hc with
      | lst h' l hs => exact ⟨p, _, rfl, h', hs⟩
    · cases e
  · cases e
theorem vrs_app {xs ys : List V} {vs ws : List Val} (h1 : VRs K cl B r H xs vs) (h2 : VRs K cl B r H ys ws) : VRs K cl B r H (xs ++ ys) (vs ++ ws) := by
  induction h1 with
  | nil => exact h2
  | cons a t ih => exact .cons a ih
theorem vrs_take {xs : List V} {vs : List Val} (n : Nat) (h : VRs K cl B r H xs vs) : VRs K cl B r H (xs.take n) (vs.take n) := by
  induction h generalizing n with
  | nil => simp only [List.take_nil]; exact .nil
  | cons a t ih =>
    cases n with
    | zero => exact .nil
    | succ n => exact .cons a (ih n)
theorem vrs_drop {xs : List V} {vs : List Val} (n : Nat) (h : VRs K cl B r H xs vs) : VRs K cl B r H (xs.drop n) (vs.drop n) := by
  induction h generalizing n with
  | nil => simp only [List.drop_nil]; exact .nil
  | cons a t ih =>
    cases n with
    | zero => exact .cons a t
    | succ n => exact ih n
theorem vrs_erase {xs : List V} {vs : List Val} (n : Nat) (h : VRs K cl B r H xs vs) : VRs K cl B r H (xs.eraseIdx n) (vs.eraseIdx n) := by
  rw [List.eraseIdx_eq_take_drop_succ, List.eraseIdx_eq_take_drop_succ]
  exact vrs_app (vrs_take n h) (vrs_drop (n + 1) h)
theorem vrs_dropLast {xs : List V} {vs : List Val} (h : VRs K cl B r H xs vs) : VRs K cl B r H xs.dropLast vs.dropLast := by
  rw [List.dropLast_eq_take, List.dropLast_eq_take, Paired.length h]
  exact vrs_take _ h
theorem vrs_at {xs : List V} {vs : List Val} {j : Nat} {w : Val} (h : VRs K cl B r H xs vs) (e : vs[j]? = some w) : ∃ u, xs[j]? = some u ∧ VR K cl B r H u w := by
  induction h generalizing j with
  | nil => simp at e
  | cons a t ih =>
    cases j with
    | zero => simp at e; subst e; exact ⟨_, rfl, a⟩
    | succ j => simpa using ih (j := j) (by simpa using e)
theorem findE_ok {d : PyData} : ∀ {ds : List PyData} {j : Nat}, findE d ds = some j → ∃ z, ds[j]? = some z ∧ PyData.eqv z d = true ∧ ∀ (m : Nat) (z' : PyData), m < j → ds[m]? = some z' → PyData.eqv z' d = false
  | [], _, e => by cases e
  | x :: xs, j, e => by
    unfold findE at e
    split at e
    · rename_i h
      cases e
      exact ⟨x, rfl, h, fun m z' hm => absurd hm (Nat.not_lt_zero m)⟩
    · rename_i h
      simp only [Option.map_eq_some_iff] at e
      obtain ⟨i, e1, rfl⟩ := e
      obtain ⟨z, h1, h2, h3⟩ := findE_ok e1
      refine ⟨z, by simpa using h1, h2, fun m z' hm hz => ?_⟩
      cases m with
      | zero => simp at hz; subst hz; simpa using h
      | succ m => exact h3 m z' (by omega) (by simpa using hz)
end
def mtName : Mt → Str
  | .clear => "clear" | .extend => "extend" | .pop => "pop" | .popAt => "pop" | .insert => "insert" | .index => "index"
def mtArgs : Mt → Nat
  | .clear => 0 | .extend => 1 | .pop => 0 | .popAt => 1 | .insert => 2 | .index => 1
theorem six_eq {i : Int} {n k : Nat} (h : ixN n i = some k) : seqIndex? i n = some k := by
  unfold ixN at h
  unfold seqIndex?
  dsimp only
  split at h
  · rename_i h1
    split at h
    · rename_i h2
      cases h
      have e : (if i < 0 then i + (n : Int) else i) = i := if_neg (by omega)
      rw [e]
      simp [h1, h2]
    · cases h
  · rename_i h1
    split at h
    · rename_i h2
      cases h
      have e : (if i < 0 then i + (n : Int) else i) = i + n := if_pos (by omega)
      rw [e]
      have h3 : 0 ≤ i + (n : Int) := by omega
      have h4 : i + (n : Int) < n := by omega
      simp [h3]
      omega
    · cases h
theorem mt_cases (m : Mt) (hcalm : X.calm = true) (hu : X.A.units + 65 < cLine) : ∃ id rr, Slot "list" (mtName m) id ∧ typeOf (.builtin id) = pure (.type "method_descriptor") ∧ MtR X id rr ∧
    ∀ (σ : L2.St) (B r : List Addr) (H : Hp) (M : Store) (Q : VK) (x : V) (v : Val) (us : List V) (vs : List Val), Rel X.K cl B r M H → VR X.K cl B r H x v → VRs X.K cl B r H us vs → Out X.K cl (VR X.K cl B) W σ B r H (mtD m v vs M) (KQ Q) → rr x us H Q := by
  cases m with
  | clear =>
    refine ⟨_, _, PySem.F.slot_list_clear, PySem.F.type_list_clear, mt_clear, fun σ B r H M Q x v us vs R hv hvs o => ?_⟩
    obtain ⟨n, p, xs, ls, rfl, hp, em, hH, hl, hs, o⟩ := mt_at (by simp) R hv o
    cases hvs with
    | nil => exact ⟨p, xs, rfl, rfl, hH, mt_wr R hp (by simp) .nil (.d .non) o⟩
    | cons a t => cases t <;> exact o.elim
  | extend =>
    refine ⟨_, _, PySem.F.slot_list_extend, PySem.F.type_list_extend, mt_extend, fun σ B r H M Q x v us vs R hv hvs o => ?_⟩
    obtain ⟨n, p, xs, ls, rfl, hp, em, hH, hl, hs, o⟩ := mt_at (by simp) R hv o
    cases hvs with
    | nil => exact o.elim
    | cons a t =>
      cases t with
      | cons _ _ => exact o.elim
      | nil =>
        dsimp only [mtL] at o
        split at o
        · rename_i zs ez
          split at o
          · rename_i hle
            obtain ⟨q, ys, rfl, hq, hz⟩ := itemsV_ok R a ez
            exact ⟨p, q, xs, ys, rfl, rfl, hH, hq, by rw [Paired.length hs, Paired.length hz, ← lim_eq]; exact hle, mt_wr R hp (by simpa using hle) (vrs_app hs hz) (.d .non) o⟩
          · exact o.elim
        · exact o.elim
  | pop =>
    refine ⟨_, _, PySem.F.slot_list_pop, PySem.F.type_list_pop, mt_pop, fun σ B r H M Q x v us vs R hv hvs o => ?_⟩
    obtain ⟨n, p, xs, ls, rfl, hp, em, hH, hl, hs, o⟩ := mt_at (by simp) R hv o
    cases hvs with
    | cons a t => cases t <;> exact o.elim
    | nil =>
      dsimp only [mtL] at o
      split at o
      · rename_i w ew
        obtain ⟨u, eu, hu⟩ := vrs_at hs ew
        exact ⟨p, xs, u, rfl, rfl, hH, by rw [Paired.length hs]; exact eu, mt_wr R hp (by simp; omega) (vrs_dropLast hs) hu o⟩
      · exact o.elim
  | popAt =>
    refine ⟨_, _, PySem.F.slot_list_pop, PySem.F.type_list_pop, mt_popAt, fun σ B r H M Q x v us vs R hv hvs o => ?_⟩
    obtain ⟨n, p, xs, ls, rfl, hp, em, hH, hl, hs, o⟩ := mt_at (by simp) R hv o
    unfold mtL at o
    split at o
    · rename_i h1 _; cases h1
    · rename_i h1 _; cases h1
    · rename_i h1 _; cases h1
    · rename_i i _ _
      obtain ⟨y, rfl, hy⟩ := VRs.one hvs
      obtain rfl := hy.int
      split at o
      · rename_i hb
        simp only [Bool.and_eq_true, decide_eq_true_eq] at hb
        split at o
        · rename_i k ek
          split at o
          · rename_i w ew
            obtain ⟨u, eu, hu⟩ := vrs_at hs ew
            refine ⟨p, xs, i, k, u, rfl, rfl, hH, by omega, by omega, by rw [Paired.length hs]; exact six_eq ek, eu, mt_wr R hp ?_ (vrs_erase k hs) hu o⟩
            have := List.length_eraseIdx_le ls k
            omega
          · exact o.elim
        · exact o.elim
      · exact o.elim
    · rename_i h1 _; cases h1
    · exact o.elim
  | insert =>
    refine ⟨_, _, PySem.F.slot_list_insert, PySem.F.type_list_insert, mt_insert, fun σ B r H M Q x v us vs R hv hvs o => ?_⟩
    obtain ⟨n, p, xs, ls, rfl, hp, em, hH, hl, hs, o⟩ := mt_at (by simp) R hv o
    unfold mtL at o
    split at o
    · rename_i h1 _; cases h1
    · rename_i h1 _; cases h1
    · rename_i h1 _; cases h1
    · rename_i h1 _; cases h1
    · rename_i i w _ _
      obtain ⟨y, z, rfl, hy, hz⟩ := VRs.two hvs
      obtain rfl := hy.int
      split at o
      · rename_i hb
        simp only [Bool.and_eq_true, decide_eq_true_eq] at hb
        refine ⟨p, xs, i, z, rfl, rfl, hH, by rw [Paired.length hs, ← lim_eq]; exact hb.2, hb.1.1, by omega, mt_wr R hp ?_ (vrs_app (vrs_app (vrs_take _ hs) (.cons hz .nil)) (vrs_drop _ hs)) (.d .non) o⟩
        simp
        omega
      · exact o.elim
    · exact o.elim
  | index =>
    refine ⟨_, _, PySem.F.slot_list_index, PySem.F.type_list_index, mt_indexD hu, fun σ B r H M Q x v us vs R hv hvs o => ?_⟩
    unfold mtD at o
    split at o
    · obtain ⟨y, rfl, hy⟩ := VRs.one hvs
      split at o
      · rename_i ds d e1 e2
        split at o
        · rename_i ho
          simp only [Bool.and_eq_true] at ho
          split at o
          · rename_i j ej
            obtain ⟨z, h1, h2, h3⟩ := findE_ok ej
            obtain ⟨pa, ys, rfl, ha, da, la⟩ := VR.lstD R hv e1
            exact ⟨pa, y, d, ds, j, z, rfl, rfl, .lst (.inl (.inl ha)) da.dp, hy.view R e2, okD_shaped (n := 31) (by simpa [okD] using ho.2) (by decide), okD_shaped ho.1 (by decide), h1, h2, h3, Out.here (u := .int _) o R (.d (.int _))⟩
          · exact o.elim
        · exact o.elim
      · exact o.elim
    · rename_i h1
      split at o
      · split at o
        · unfold mtL at o
          split at o <;> first | contradiction | exact o.elim
        · exact o.elim
      · exact o.elim
theorem se_mt (m : Mt) {name : Str} (hname : name = mtName m) (hcalm : X.calm = true) (hu : X.A.units + 65 < cLine) (ho : SE X cl W o go) (ha : SA X cl W (e :: es) gs) (hb : attributeBase o name X.env (eval o X.env) = eval o X.env) (hl : (apos.endLine == cpos.line) = true) (hs : (e :: es).all notStar = true) (hn : (e :: es).length < 20) :
    SE X cl W (.Call (.Attribute o name apos) (e :: es) [] cpos) (eMt m go gs) := by
  subst hname
  obtain ⟨id, rr, h1, h2, h3, h4⟩ := mt_cases (cl := cl) (W := W) m hcalm hu
  exact se_mtA h1 h2 h3 ho ha h4 hb hl hs hn
theorem se_mtN (m : Mt) {name : Str} (hname : name = mtName m) (hcalm : X.calm = true) (hu : X.A.units + 65 < cLine) (ho : SE X cl W o go) (hb : attributeBase o name X.env (eval o X.env) = eval o X.env) (hl : (apos.endLine == cpos.line) = true) :
    SE X cl W (.Call (.Attribute o name apos) [] [] cpos) (eMt m go eNil) := by
  subst hname
  obtain ⟨id, rr, h1, h2, h3, h4⟩ := mt_cases (cl := cl) (W := W) m hcalm hu
  exact se_mt0 h1 h2 h3 ho (fun σ B r H M Q x v R hv o => h4 σ B r H M Q x v [] [] R hv .nil o) hb hl
end
end Gv

set_option maxHeartbeats 1000000
namespace Gv
open PySem PySem.Spec PyProof.Rows L2
section
variable {prog : Program} {w : World} {A : Around} {E : Value → Shared → Prop} {s : Shared}
theorem rev_adjust (n : Nat) : Builtin.Slice.sliceAdjust none none (-1) (n : Int) = ((n : Int) - 1, -1) := by
  unfold Builtin.Slice.sliceAdjust
  simp only [show ((-1 : Int) < 0) from by decide, if_true]
theorem rev_places (n : Nat) : Builtin.Slice.slicePlaces ((n : Int) - 1) (-1) (-1) = n := by
  unfold Builtin.Slice.slicePlaces
  have h1 : ¬ ((-1 : Int) > 0) := by decide
  simp only [h1, if_false, Int.neg_neg, Int.ediv_one]
  split <;> omega
theorem rev_pick (its : List Value) : ((List.range its.length).filterMap fun (m : Nat) => its.toArray[(((its.length : Int) - 1) + (m : Int) * (-1)).toNat]?) = its.reverse := by
  have h : ∀ n, n ≤ its.length → ((List.range n).filterMap fun (m : Nat) => its.toArray[(((its.length : Int) - 1) + (m : Int) * (-1)).toNat]?) = its.reverse.take n := by
    intro n
    induction n with
    | zero => intro _; simp
    | succ n ih =>
      intro hn
      rw [List.range_succ, List.filterMap_append, ih (by omega)]
      have e : (((its.length : Int) - 1) + (n : Int) * (-1)).toNat = its.length - 1 - n := by omega
      have hlt : its.length - 1 - n < its.length := by omega
      have q : its.toArray[its.length - 1 - n]? = some its[its.length - 1 - n] := by simp [hlt]
      have q2 : its.reverse[n]? = some its[its.length - 1 - n] := by
        rw [List.getElem?_reverse (by omega)]; simp [hlt]
      simp only [List.filterMap_cons, List.filterMap_nil, e, q]
      rw [List.take_add_one, q2]
      rfl
  have := h its.length (Nat.le_refl _)
  rw [this, ← List.length_reverse, List.take_length]
theorem rev_applied {sl : Addr} {vl vu vs : Value} {n : Nat} {Q : Int × Int × Nat → Shared → Prop} (hs : s.heap.IsSliceOf sl vl vu vs) (pl : IsPart vl none) (pu : IsPart vu none) (ps : IsPart vs (some (-1)))
    (h : Q ((n : Int) - 1, -1, n) s) : wpAny (model prog w) A (Builtin.Slice.sliceApplied (.ref sl) (pure (n : Int))) Q E s := by
  obtain ⟨os, hos, hcs, hds⟩ := id hs
  unfold Builtin.Slice.sliceApplied Builtin.Slice.sliceFields
  refine wpAny_bind (wpAny_bind (wpAny_field hos hds (x := vl) rfl (wpAny_bind (wpAny_field hos hds (x := vu) rfl (wpAny_bind (wpAny_field hos hds (x := vs) rfl (wpAny_pure ?_)))))))
  refine wpAny_bind (HT.slicePart_ ps ?_)
  show wpAny _ _ (if ((-1 : Int) == 0) = true then _ else _) _ _ s
  rw [if_neg (by decide)]
  refine wpAny_bind (HT.slicePart_ pl (wpAny_bind (HT.slicePart_ pu (wpAny_bind (wpAny_pure ?_)))))
  show wpAny _ _ (match Builtin.Slice.sliceAdjust none none (-1) (n : Int) with | (lo, hi) => pure (lo, (-1 : Int), Builtin.Slice.slicePlaces lo hi (-1))) _ _ s
  rw [rev_adjust n]
  show wpAny _ _ (pure ((n : Int) - 1, (-1 : Int), Builtin.Slice.slicePlaces ((n : Int) - 1) (-1) (-1))) _ _ s
  rw [rev_places]
  exact wpAny_pure h
theorem getItem_tuple_rev {t sl : Addr} {its : List Value} {vl vu vs : Value} {Q : Value → Shared → Prop} (ht : IsTup s.heap t its.toArray) (hs : s.heap.IsSliceOf sl vl vu vs) (pl : IsPart vl none) (pu : IsPart vu none) (ps : IsPart vs (some (-1)))
    (h : Q (.ref s.heap.objs.size) { s with heap := s.heap.push { cls := .type "tuple", data := .seq its.reverse.toArray } }) (hsz : its.length ≤ sizeLine) :
    wpAny (model prog w) A (getItem (.ref t) (.ref sl)) Q E s := by
  have hok : sizeOk (.seq its.reverse.toArray) := by
    show its.reverse.toArray.size ≤ sizeLine
    simpa using hsz
  obtain ⟨os, hos, hcs, hds⟩ := id hs
  have hTs : s.TypeIs (.ref sl) "slice" := ⟨os, hos, hcs⟩
  unfold getItem
  try with_reducible refine wpAny_holding ?_
  first | refine wpAny_bind (wpAny_pure ?_) | skip
  refine wpAny_bind (wpAny_sequenceKey ht.typeIs (by decide) ?_)
  refine wpAny_bind (wpAny_callSpecial?_slot (name := Str.ofString "__getitem__") ht.typeIs PyProof.Rows.slot_tuple_getitem
    (wpAny_call_entry PyProof.Rows.slot_tuple_getitem ht.typeIs entry_tuple_getitem ?_ (args_tuple_getitem _ _)))
  show wpAny _ _ (Builtin.Tuple.tupleItemsOf (.ref t) >>= _) _ _ s
  refine wpAny_bind (tupleItemsOf_ ht ?_)
  refine wpAny_bind (wpAny_typeOf hTs ?_)
  rw [if_pos (by decide)]
  refine wpAny_bind (rev_applied (n := its.toArray.size) hs pl pu ps ?_)
  show wpAny _ _ (if ((((its.toArray.size : Nat) : Int) - 1) == 0 && (-1 : Int) == 1 && its.toArray.size == its.toArray.size) = true then _ else _) _ _ s
  rw [if_neg (by simp)]
  have e : ((List.range its.toArray.size).filterMap fun (m : Nat) => its.toArray[((((its.toArray.size : Nat) : Int) - 1) + (m : Int) * (-1)).toNat]?) = its.reverse := by
    rw [List.size_toArray]; exact rev_pick its
  rw [e]
  first
    | exact wpAny_bind (m := Builtin.Tuple.tupleExact _) (wpAny_newObj_type (wpAny_pure ⟨_, rfl, wpAny_pure h⟩) hok)
    | exact wpAny_bind (m := Builtin.Tuple.tupleExact _) (wpAny_newObj_type (wpAny_bind (wpAny_pure (wpAny_pure ⟨_, rfl, wpAny_pure h⟩))) hok)
    | exact wpAny_bind (wpAny_bind (m := Builtin.Tuple.tupleExact _) (wpAny_newObj_type (wpAny_pure (wpAny_pure ⟨_, rfl, wpAny_pure h⟩)) hok))
    | exact wpAny_bind (wpAny_bind (m := Builtin.Tuple.tupleExact _) (wpAny_newObj_type (wpAny_pure ⟨_, rfl, wpAny_pure h⟩) hok))
end
section
variable {X : Cx} {cl : Nat → Addr} {W : WX} {e : Expr} {ge : Slots → Store → R Val} {k : Nat} {p1 p2 p3 pos : Pos}
def tRevT (K : PySem.W.Frag) (te : TE) : TE := fun σ H Q => te σ H fun x H1 => ∃ a xs, x = .ref a ∧ SqT K H1 a xs ∧ ∀ p, H1 p = none → Q (.ref p) (upd H1 p (.tup xs.reverse))
theorem pe_revT {te : TE} (he : PE X e te) : PE X (.Subscript e (.Slice none none (some (.UnaryOp .USub (.Constant (.int 1) k p1) p2)) p3) pos) (tRevT X.K te) := by
  refine ⟨fun pins s σ H Q I h => Subscript_ (thn (he.run pins s σ H _ I h) fun v s1 ⟨x, H1, I1, r1, q1⟩ => ?_)⟩
  obtain ⟨a, xs, ex, hx, q⟩ := q1
  subst ex
  cases r1
  have hst : PO X (some (.UnaryOp .USub (.Constant (.int 1) k p1) p2)) (tPart (tUn (rU fun i => .int (-i)) (tC (.int 1)))) := po_some (pe_un un_neg pe_int)
  refine wpAny_Slice (thn (po_none.run pins s1 σ H1 (fun o H2 => o = none ∧ H2 = H1) I1 ⟨rfl, rfl⟩) fun vl s2 ⟨l, H2, I2, pl, el, e2⟩ => ?_)
  subst el e2
  refine thn (po_none.run pins s2 σ H2 (fun o H3 => o = none ∧ H3 = H2) I2 ⟨rfl, rfl⟩) fun vu s3 ⟨u, H3, I3, pu, eu, e3⟩ => ?_
  subst eu e3
  refine thn (hst.run pins s3 σ H3 (fun o H4 => o = some (-1) ∧ H4 = H3) I3 ⟨1, rfl, -1, rfl, rfl, rfl⟩) fun vs s4 ⟨o, H4, I4, ps, eo, e4⟩ => ?_
  subst eo e4
  have I5 : L2.Inv X pins σ H4 { s4 with heap := s4.heap.push { cls := .type "slice", data := .fields #[vl, vu, vs] } } := I4.kept (t' := s4.toks) fun b ob q => Heap.get?_push_of_some _ q
  obtain ⟨its, r, ht, hz⟩ := I5.tuple hx
  have hlen := r.length
  show wpAny (model X.prog X.w) X.A (subscriptTail e (.Slice none none (some (.UnaryOp .USub (.Constant (.int 1) k p1) p2)) p3) (.ref a) (.ref s4.heap.objs.size)) (EP X pins σ Q) X.xe { s4 with heap := s4.heap.push { cls := .type "slice", data := .fields #[vl, vu, vs] } }
  refine tail_any (ops := [.ref a, .ref s4.heap.objs.size]) ht.typeIs (PyProof.Rows.slot_tuple_getitem.lookup) ?_ (by with_unfolding_all rfl)
  refine getItem_tuple_rev ht (Heap.IsSliceOf.new _ vl vu vs) pl pu ps ?_ (by omega)
  refine ⟨.ref _, _, I5.laid (t' := s4.toks) (o := .tup xs.reverse) (fun b ob q => Heap.get?_push_of_some _ q) (Nat.le_refl _) ?_, rfl, q _ (I5.hok.fresh (Nat.le_refl _))⟩
  exact ⟨by rw [List.length_reverse]; exact hz, _, r.reverse, _, Heap.get?_push_size _ rfl, rfl, 0, rfl⟩
theorem se_rev {al : Bool} (he : SE X cl W e ge) : SE X cl W (.Subscript e (.Slice none none (some (.UnaryOp .USub (.Constant (.int 1) k p1) p2)) p3) pos) (fun s M => (ge s M).bind fun x M => revD al M x) :=
  PE.imp (pe_revT he) fun σ H Q ⟨B, r, M, s, R, S, o⟩ => ⟨B, r, M, s, R, S, o.step fun x v r1 M1 H1 g1 R1 v1 o1 => by
    unfold revD at o1
    split at o1
    · obtain ⟨a, xs, rfl, h, l, hd⟩ := v1.tuple
      refine ⟨a, xs, rfl, h, fun p hp => ?_⟩
      obtain ⟨_, _, _, q⟩ := Out.newT o1 R1 hd.rev (by simpa using l) hp
      exact q
    · exact o1.elim⟩
/-- list(range(..)) -/
theorem PRg.imp {te te' : L2.St → Hp → (Int → Int → Hp → Prop) → Prop} (h : PRg X e te) (i : ∀ σ H Q, te' σ H Q → te σ H Q) : PRg X e te' := fun pins s σ H Q I w => h pins s σ H Q I (i σ H Q w)
def lrD (al : Bool) (vs : List Val) (M : Store) : R Val := (match (rngD vs).bind allD with | some ds => mkL al ds M | none => .bad)
theorem allD_upTo (i : Int) (n : Nat) : allD (upTo i n) = some ((List.range n).map fun (k : Nat) => PyData.int (i + (k : Int))) := by
  unfold upTo
  rw [show ((List.range n).map fun (k : Nat) => Val.d (PyData.int (i + (k : Int)))) = ((List.range n).map fun (k : Nat) => PyData.int (i + (k : Int))).map Val.d from by simp [List.map_map, Function.comp_def]]
  exact allD_map _
theorem rg_drs {K : PySem.W.Frag} {B r : List Addr} {H : Hp} (a b : Int) : DRs K B r H (rgV a b) ((List.range (b - a).toNat).map fun (k : Nat) => PyData.int (a + (k : Int))) := by
  unfold rgV
  generalize List.range (b - a).toNat = l
  induction l with
  | nil => exact .nil
  | cons x xs ih => exact .cons (.int _) ih
variable {a b : Expr} {ga gb : Slots → Store → R Val} {p q : Pos}
theorem se_lrng1 {al : Bool} (hc : X.calm = true) (hg : Gl X "list") (hm : X.mg "list" = none) (hg2 : Gl X "range") (hm2 : X.mg "range" = none) (ha : SE X cl W a ga) (hs : notStar a = true) :
    SE X cl W (.Call (.Name "list" p) [.Call (.Name "range" p1) [a] [] p2] [] pos) (fun s M => (eCons ga eNil s M).bind fun vs M => lrD al vs M) :=
  PE.imp (pe_listRg hc hg hm (prg_1 hg2 hm2 ha (star_cons hs)) (star_cons rfl)) fun σ H Q ⟨B, r, M, s, R, S, o⟩ => by
    refine ⟨B, r, M, s, R, S, ?_⟩
    dsimp only [eCons] at o
    cases eq : ga s M with
    | bad => rw [eq] at o; exact o
    | exc k M' => rw [eq] at o; exact o
    | ok v M1 =>
      rw [eq] at o
      simp only [Gv.R.bind_ok, eNil] at o
      intro u H1 r1 g1 R1 v1
      have o1 : Out X.K cl (VR X.K cl B) W σ B r1 H1 (lrD al [v] M1) (KQ Q) := by
        generalize lrD al [v] M1 = y at o ⊢
        cases y with
        | bad => exact o
        | exc c M2 => exact fun H2 r2 g2 R2 => o H2 r2 (g1.trans g2) R2
        | ok w M2 => exact fun u2 H2 r2 g2 R2 p2 => o u2 H2 r2 (g1.trans g2) R2 p2
      unfold lrD rngD at o1
      split at o1
      · rename_i ds eds
        split at eds
        · rename_i j hj
          cases hj
          split at eds
          · rename_i hc
            simp only [Bool.and_eq_true, decide_eq_true_eq] at hc
            simp only [Option.bind_some, allD_upTo, Option.some.injEq] at eds
            refine ⟨j, v1.int, ⟨by decide, by decide, hc.2, by have := hc.1; omega, by have := hc.1; omega⟩, fun l hl => ?_⟩
            have hd := rg_drs (K := X.K) (B := B) (r := r1) (H := H1) 0 j
            rw [Int.sub_zero, eds] at hd
            obtain ⟨_, _, _, qq⟩ := Out.newL o1 R1 hd (by rw [← hd.length]; unfold rgV; simp; have := hc.1; unfold lim; omega) hl
            exact qq
          · cases eds
        · rename_i hj; cases hj
        · cases eds
      · exact o1.elim
theorem se_lrng2 {al : Bool} (hc : X.calm = true) (hg : Gl X "list") (hm : X.mg "list" = none) (hg2 : Gl X "range") (hm2 : X.mg "range" = none) (ha : SE X cl W a ga) (hb : SE X cl W b gb) (hs : notStar a = true) (hs2 : notStar b = true) :
    SE X cl W (.Call (.Name "list" p) [.Call (.Name "range" p1) [a, b] [] p2] [] pos) (fun s M => (eCons ga (eCons gb eNil) s M).bind fun vs M => lrD al vs M) :=
  PE.imp (pe_listRg hc hg hm (prg_2 hg2 hm2 ha hb (star_cons hs) (star_cons hs2) (star_all (by simp [hs2]))) (star_cons rfl)) fun σ H Q ⟨B, r, M, s, R, S, o⟩ => by
    refine ⟨B, r, M, s, R, S, ?_⟩
    dsimp only [eCons] at o
    cases eq : ga s M with
    | bad => rw [eq] at o; exact o
    | exc k M' => rw [eq] at o; exact o
    | ok v M1 =>
      rw [eq] at o
      simp only [Gv.R.bind_ok, eNil] at o
      intro u H1 r1 g1 R1 v1
      refine ⟨B, r1, M1, s, R1, S.mono g1, ?_⟩
      cases eq2 : gb s M1 with
      | bad => rw [eq2] at o; exact o
      | exc k M' => rw [eq2] at o; exact fun H2 r2 g2 R2 => o H2 r2 (g1.trans g2) R2
      | ok v' M2 =>
      rw [eq2] at o
      simp only [Gv.R.bind_ok] at o
      intro u' H2 r2 g2 R2 v2
      have o1 : Out X.K cl (VR X.K cl B) W σ B r2 H2 (lrD al [v, v'] M2) (KQ Q) := by
        generalize lrD al [v, v'] M2 = y at o ⊢
        cases y with
        | bad => exact o
        | exc c M3 => exact fun H3 r3 g3 R3 => o H3 r3 ((g1.trans g2).trans g3) R3
        | ok w M3 => exact fun u3 H3 r3 g3 R3 p3 => o u3 H3 r3 ((g1.trans g2).trans g3) R3 p3
      unfold lrD rngD at o1
      split at o1
      · rename_i ds eds
        split at eds
        · rename_i hj; cases hj
        · rename_i i j hj
          cases hj
          split at eds
          · rename_i hc
            simp only [Bool.and_eq_true, decide_eq_true_eq] at hc
            obtain ⟨⟨⟨⟨h1, h2⟩, h3⟩, h4⟩, h5⟩ := hc
            simp only [Option.bind_some, allD_upTo, Option.some.injEq] at eds
            refine ⟨i, j, v1.int, v2.int, ⟨h1, h2, h3, h4, by omega⟩, fun l hl => ?_⟩
            have hd := rg_drs (K := X.K) (B := B) (r := r2) (H := H2) i j
            rw [eds] at hd
            obtain ⟨_, _, _, qq⟩ := Out.newL o1 R2 hd (by rw [← hd.length]; unfold rgV; simp; unfold lim; omega) hl
            exact qq
          · cases eds
        · cases eds
      · exact o1.elim
end
end Gv

namespace Gv
open PySem PySem.Spec L2

/-! ### from the text to the small language -/
structure CC where
  N : List Str
  fns : List (Str × Nat)
  cons : List (Str × PyData)
def slotOf (x : Str) : List Str → Option Nat
  | [] => none
  | y :: r => if y == x then some 0 else (slotOf x r).map (· + 1)
theorem slotOf_ok {x : Str} : ∀ {N : List Str} {i : Nat}, slotOf x N = some i → N[i]? = some x
  | [], _, h => by cases h
  | y :: r, i, h => by
    unfold slotOf at h
    split at h
    · rename_i e
      cases h
      rw [eq_of_beq e]; rfl
    · simp only [Option.map_eq_some_iff] at h
      obtain ⟨j, e, rfl⟩ := h
      show (y :: r)[j + 1]? = some x
      rw [List.getElem?_cons_succ]
      exact slotOf_ok e
def isVis : Option NameKind → Bool
  | some .local => true
  | some .cell => true
  | some .free => true
  | _ => false
def isLoc : Option NameKind → Bool
  | some .local => true
  | some .cell => true
  | _ => false
def isGl : Option NameKind → Bool
  | some .globalImplicit => true
  | _ => false
def okName (x : Str) : Bool := !(x == "__debug__") && !(x == "__classdict__") && !(x == "__name__")
def fnOf (f : Str) (n : Nat) : List (Str × Nat) → Option Nat
  | [] => none
  | (y, m) :: r => if y == f && m == n then some 0 else (fnOf f n r).map (· + 1)
theorem fnOf_ok {f : Str} {n : Nat} : ∀ {l : List (Str × Nat)} {i : Nat}, fnOf f n l = some i → l[i]? = some (f, n)
  | [], _, h => by cases h
  | (y, m) :: r, i, h => by
    unfold fnOf at h
    split at h
    · rename_i e
      simp only [Bool.and_eq_true] at e
      cases h
      rw [eq_of_beq e.1, eq_of_beq e.2]; rfl
    · simp only [Option.map_eq_some_iff] at h
      obtain ⟨j, e, rfl⟩ := h
      show ((y, m) :: r)[j + 1]? = _
      rw [List.getElem?_cons_succ]
      exact fnOf_ok e
def nameC (cc : CC) (sc : Scope) (x : Str) : Option IE :=
  if okName x then
    if isVis (sc.names.lookup x) then (slotOf x cc.N).map .var
    else if isGl (sc.names.lookup x) then (cc.cons.lookup x).map .lit else none
  else none
def constC : Const → Option IE
  | .none => some (.lit .none)
  | .bool b => some (.lit (.bool b))
  | .int i => some (.lit (.int i))
  | .str x => some (.lit (.str x))
  | _ => none
def bfTab : List (Str × Nat × Bf) := [("len", 1, .len), ("list", 1, .list), ("tuple", 1, .tuple), ("int", 1, .int), ("min", 2, .min2), ("max", 2, .max2), ("all", 1, .all), ("divmod", 2, .divmod)]
def bfOf (f : Str) (n : Nat) : Option Bf := (bfTab.find? fun t => t.1 == f && t.2.1 == n).map (·.2.2)
def bNames : List Str := ["len", "list", "tuple", "int", "min", "max", "all", "divmod", "isinstance", "range", "enumerate", "zip", "bool", "str", "sorted"]
theorem bfTab_ok : ∀ t ∈ bfTab, t.1 = bfName t.2.2 ∧ t.1 ∈ bNames := by
  intro t h
  simp only [bfTab, List.mem_cons, List.not_mem_nil, or_false] at h
  rcases h with h | h | h | h | h | h | h | h <;> (subst h; exact ⟨rfl, by decide⟩)
theorem bfOf_ok {f : Str} {n : Nat} {b : Bf} (h : bfOf f n = some b) : f = bfName b ∧ f ∈ bNames := by
  unfold bfOf at h
  simp only [Option.map_eq_some_iff] at h
  obtain ⟨t, e, rfl⟩ := h
  have h1 := List.find?_some e
  simp only [Bool.and_eq_true] at h1
  have h2 := bfTab_ok t (List.mem_of_find?_eq_some e)
  rw [← eq_of_beq h1.1]
  exact h2
/-- a target: names, and their slots -/
def nmC (N : List Str) (ok : Str → Bool) (x : Str) : Option Nat := if ok x then slotOf x N else none
def tgNames (N : List Str) (ok : Str → Bool) : List Expr → Option (List Nat)
  | [] => some []
  | .Name x _ :: r => (nmC N ok x).bind fun i => (tgNames N ok r).map (i :: ·)
  | _ :: _ => none
def tgC (N : List Str) (ok : Str → Bool) : Expr → Option Tg
  | .Name x _ => (nmC N ok x).map .one
  | .Tuple es _ _ => (tgNames N ok es).map .many
  | _ => none
/-- the block's own names with their slots -/
def ownOf (N : List Str) (scope : Scope) : List (Str × Nat) := scope.names.filterMap fun (x, k) => if isLoc (some k) then (slotOf x N).map (x, ·) else none
def isComp : Expr → Bool
  | .ListComp .. => true
  | .SetComp .. => true
  | .DictComp .. => true
  | _ => false
def isSet : Expr → Bool
  | .Set .. => true
  | _ => false
def isSlice : Expr → Bool
  | .Slice .. => true
  | _ => false
def boolC (op : BoolOp) : List IE → Option IE
  | [] => none
  | [x] => some x
  | x :: y :: r => (boolC op (y :: r)).map fun z => match op with | .And => .and x z | .Or => .or x z
def isRange : Expr → Option (List Expr)
  | .Call (.Name f _) args [] _ => if f == "range" then some args else none
  | _ => none
/-- what o.m(..) stands on: no call without arguments (super) -/
def okBase : Expr → Bool
  | .Call .. => false
  | _ => true
def mtTab : List (Str × Nat × Mt) := [("clear", 0, .clear), ("extend", 1, .extend), ("pop", 0, .pop), ("pop", 1, .popAt), ("insert", 2, .insert), ("index", 1, .index)]
def mtOf (f : Str) (n : Nat) : Option Mt := (mtTab.find? fun t => t.1 == f && t.2.1 == n).map (·.2.2)
theorem mtTab_ok : ∀ t ∈ mtTab, t.1 = mtName t.2.2 := by
  intro t h
  simp only [mtTab, List.mem_cons, List.not_mem_nil, or_false] at h
  rcases h with h | h | h | h | h | h <;> (subst h; rfl)
theorem mtOf_ok {f : Str} {n : Nat} {b : Mt} (h : mtOf f n = some b) : f = mtName b := by
  unfold mtOf at h
  simp only [Option.map_eq_some_iff] at h
  obtain ⟨t, e, rfl⟩ := h
  have h1 := List.find?_some e
  simp only [Bool.and_eq_true] at h1
  rw [← eq_of_beq h1.1]
  exact mtTab_ok t (List.mem_of_find?_eq_some e)
def isEnum1 : Expr → Option Expr
  | .Call (.Name f _) [a] [] _ => if f == "enumerate" then some a else none
  | _ => none
def isTupX : Expr → Bool
  | .Tuple .. => true
  | _ => false
section
variable (cc : CC)
mutual
def comp : Nat → Scope → Bool → Expr → Option IE
  | 0, _, _, _ => none
  | n + 1, sc, al, e => match e with
    | .Name x _ => nameC cc sc x
    | .Constant c _ _ => constC c
    | .BinOp a op b _ => (comp n sc false a).bind fun x => (comp n sc false b).bind fun y => some (.bin al op x y)
    | .UnaryOp .USub a _ => (comp n sc false a).map .neg
    | .UnaryOp .Not a _ => (comp n sc false a).map .not
    | .BoolOp op vs _ => (comps n sc vs).bind (boolC op)
    | .Compare a [op] [b] _ => if isSet b then none else (comp n sc false a).bind fun x => (comp n sc false b).bind fun y => some (.cmp op x y)
    | .Compare a [op, op'] [b, c] _ => if isSet b || isSet c then none else (comp n sc false a).bind fun x => (comp n sc false b).bind fun y => (comp n sc false c).bind fun z => some (.chain op op' x y z)
    | .IfExp c a b _ => (compT n sc c).bind fun z => (comp n sc false a).bind fun x => (comp n sc false b).bind fun y => some (.ifx z x y)
    | .Tuple es _ _ => if es.all notStar && decide (es.length ≤ 1000) then (comps n sc es).map .tup else none
    | .List es _ => if es.all notStar && decide (es.length ≤ 1000) then (comps n sc es).map (.lst al) else none
    | .Subscript a (.Slice none none (some (.UnaryOp .USub (.Constant (.int 1) _ _) _)) _) _ => (comp n sc false a).map (.rev al)
    | .Subscript a (.Slice lo hi none _) _ => (comp n sc false a).bind fun x => (compO n sc lo).bind fun l => (compO n sc hi).bind fun h => some (.sl al x l h)
    | .Subscript a b _ => if isSlice b then none else (comp n sc false a).bind fun x => (comp n sc false b).bind fun y => some (.idx x y)
    | .Call (.Name f _) (e :: es) [] _ => if isGl (sc.names.lookup f) && (e :: es).all notStar && okName f then compCall n sc al f e es else none
    | .ListComp elt [⟨tg, iter, ifs, 0⟩] scope _ => compLc n sc al elt tg iter ifs scope
    | .Call (.Attribute o m apos) es [] cpos => if okBase o && apos.endLine == cpos.line && es.all notStar && decide (es.length < 20) then (mtOf m es.length).bind fun t => (comp n sc false o).bind fun x => (comps n sc es).bind fun ys => some (.mt t x ys) else none
    | _ => none
def compCall : Nat → Scope → Bool → Str → Expr → List Expr → Option IE
  | 0, _, _, _, _, _ => none
  | n + 1, sc, al, f, e, es =>
    if f == "isinstance" then (match es with
      | [.Name y _] => if isGl (sc.names.lookup y) then (plainName y).bind fun t => (comp n sc false e).map fun x => .isi x t else none
      | _ => none)
    else if f == "list" && es.isEmpty && (isRange e).isSome then (match isRange e with
      | some args => if isGl (sc.names.lookup ("range" : Str)) && args.all notStar && (args.length == 1 || args.length == 2) then (comps n sc args).map (.lrng al) else none
      | none => none)
    else match bfOf f (es.length + 1) with
      | some b => (comps n sc (e :: es)).map (.bi al b)
      | none => match fnOf f (es.length + 1) cc.fns with
        | some i => (comps n sc (e :: es)).map (.call i)
        | none => none
def compLc : Nat → Scope → Bool → Expr → Expr → Expr → List Expr → Scope → Option IE
  | 0, _, _, _, _, _, _, _ => none
  | n + 1, sc, al, elt, tg, iter, ifs, scope =>
    if blkC cc.N sc scope (ownOf cc.N scope) && !isSet iter then
      (compI n sc tg iter).bind fun it => (tgC cc.N (fun x => isLoc (scope.names.lookup x)) tg).bind fun t =>
        if t.slots.all ((ownOf cc.N scope).map (·.2)).contains then
          (compIf n (relS scope sc) ifs).bind fun c => (comp n (relS scope sc) false elt).bind fun x => some (.lc al ((ownOf cc.N scope).map (·.2)) t it c x)
        else none
    else none
def compIf : Nat → Scope → List Expr → Option IE
  | 0, _, _ => none
  | n + 1, sc, ifs => match ifs with
    | [] => some (.lit (.bool true))
    | [c] => compT n sc c
    | _ => none
def comps : Nat → Scope → List Expr → Option (List IE)
  | 0, _, _ => none
  | n + 1, sc, es => match es with
    | [] => some []
    | e :: es => (comp n sc false e).bind fun x => (comps n sc es).map (x :: ·)
def compT : Nat → Scope → Expr → Option IE
  | 0, _, _ => none
  | n + 1, sc, e => match e with
    | .UnaryOp .Not a _ => (compT n sc a).map .not
    | .BoolOp op vs _ => (compTs n sc vs).bind (boolC op)
    | .IfExp .. => none
    | .Compare a [op] [b] _ => if isSet b then none else (comp n sc false a).bind fun x => (comp n sc false b).bind fun y => some (.cmp op x y)
    | .Compare a [op, op'] [b, c] _ => if isSet b || isSet c then none else (comp n sc false a).bind fun x => (comp n sc false b).bind fun y => (comp n sc false c).bind fun z => some (.chain op op' x y z)
    | .Compare .. => none
    | e => comp n sc false e
def compTs : Nat → Scope → List Expr → Option (List IE)
  | 0, _, _ => none
  | n + 1, sc, es => match es with
    | [] => some []
    | e :: es => (compT n sc e).bind fun x => (compTs n sc es).map (x :: ·)
def compO : Nat → Scope → Option Expr → Option IE
  | 0, _, _ => none
  | n + 1, sc, o => match o with
    | none => some (.lit .none)
    | some e => (comp n sc false e).map .toI
def compI : Nat → Scope → Expr → Expr → Option IE
  | 0, _, _, _ => none
  | n + 1, sc, tg, e => match isRange e with
    | some (a :: es) => if isGl (sc.names.lookup ("range" : Str)) && (a :: es).all notStar && decide (es.length ≤ 1) then (comps n sc (a :: es)).map .rng else none
    | some [] => none
    | none => match isEnum1 e with
      | some a => if isTupX tg && isGl (sc.names.lookup ("enumerate" : Str)) && notStar a then (comp n sc false a).map .enum else none
      | none => (comp n sc false e).map .seq
end
end
end Gv

namespace Gv
open PySem PySem.Spec L2

structure EC (cc : CC) (cl : Nat → Addr) (F : FEnv) (k : Nat) (X : Cx) (W : WX) (sc : Scope) : Prop where
  n : X.N = cc.N
  nd : X.N.Nodup
  sc : X.env.scope = sc
  calm : X.calm = true
  tk : Takes X W
  room : Room k X.A
  blt : ∀ x ∈ bNames, X.mg x = none
  fns : ∀ (i : Nat) (x : Str) (n : Nat), cc.fns[i]? = some (x, n) → ∃ f fd ps, X.mg x = some (.ref f) ∧ PySem.W.keepIn X.K (.ref f) = true ∧ Binds X.K fd ps [] ∧ FnOk X.prog X.w X.K X.mg X.base (L2.CX X.prog X.w) k f fd ps (spF X.K cl n (F.call i))
  cons : ∀ (x : Str) (d : PyData), cc.cons.lookup x = some d → ∃ u v, X.mg x = some u ∧ RelV v u ∧ ∀ B r H, DR X.K B r H v d
section
variable {cc : CC} {cl : Nat → Addr} {F : FEnv} {k : Nat} {X : Cx} {W : WX} {sc : Scope}
theorem EC.hu (c : EC cc cl F k X W sc) : X.A.units + 65 < cLine := by have := c.room.un; omega
theorem EC.gl (c : EC cc cl F k X W sc) {x : Str} (h : isGl (sc.names.lookup x) = true) : Gl X x := by
  show X.env.scope.names.lookup x = _
  rw [c.sc]
  unfold isGl at h
  split at h
  · assumption
  · cases h
theorem EC.vis (c : EC cc cl F k X W sc) {x : Str} (h : isVis (sc.names.lookup x) = true) : Vis X.env.scope x := by
  unfold Vis
  rw [c.sc]
  unfold isVis at h
  split at h
  · exact .inl (by assumption)
  · exact .inr (.inl (by assumption))
  · exact .inr (.inr (by assumption))
  · cases h
theorem okName_ok {x : Str} (h : okName x = true) : (x == ("__debug__" : Str)) = false ∧ (x == ("__classdict__" : Str)) = false ∧ x ≠ "__name__" := by
  unfold okName at h
  simp only [Bool.and_eq_true, Bool.not_eq_true'] at h
  exact ⟨h.1.1, h.1.2, fun e => by rw [e] at h; exact absurd h.2 (by decide)⟩
theorem takes_blk {s : Shared} {H : Hp} {scope : Scope} {env : Env} {fp : List Addr} : Takes (X.blk s H scope env fp) W0 := by
  intro u s' h
  obtain ⟨a, B, sI, pins, σ, H', cls, d, e, I, nb, up, sky, na, os, ag, w⟩ := h
  exact w.elim
theorem EC.blk (c : EC cc cl F k X W sc) (s : Shared) (H : Hp) (scope : Scope) (C : Addr) (l : List (Str × Addr)) (fp : List Addr) : EC cc cl F k (X.blk s H scope (compEnvC scope l C X.env) fp) W0 (relS scope sc) where
  n := c.n
  nd := c.nd
  sc := by rw [← c.sc]; rfl
  calm := c.calm
  tk := takes_blk
  room := c.room
  blt := c.blt
  fns := c.fns
  cons := c.cons
theorem name_ok {x : Str} {p : Pos} {ir : IE} (c : EC cc cl F k X W sc) (h : nameC cc sc x = some ir) : SE X cl W (.Name x p) (evE F ir) := by
  unfold nameC at h
  split at h
  · rename_i ho
    obtain ⟨h1, h2, h3⟩ := okName_ok ho
    split at h
    · rename_i hv
      simp only [Option.map_eq_some_iff] at h
      obtain ⟨i, e, rfl⟩ := h
      exact se_var (pe_var (by rw [c.n]; exact slotOf_ok e) (c.vis hv) h1 h2)
    · split at h
      · rename_i hg
        simp only [Option.map_eq_some_iff] at h
        obtain ⟨d, e, rfl⟩ := h
        obtain ⟨u, v, hm, hr, hd⟩ := c.cons x d e
        exact se_lit (pe_glob (c.gl hg) hm hr h1) hd
      · cases h
  · cases h
theorem const_ok {co : Const} {j : Nat} {p : Pos} {ir : IE} (h : constC co = some ir) : SE X cl W (.Constant co j p) (evE F ir) := by
  unfold constC at h
  split at h
  · cases h; exact se_lit pe_non fun _ _ _ => .non
  · cases h; exact se_lit pe_bl fun _ _ _ => .bl _
  · cases h; exact se_lit pe_int fun _ _ _ => .int _
  · cases h; exact se_lit pe_str fun _ _ _ => .str _
  · cases h
theorem marks {op : CmpOp} {b : Expr} (h : isSet b = false) : behindInMarks op b = false := by
  cases b <;> first | rfl | cases h
theorem marks2 {op op' : CmpOp} {b c : Expr} (h1 : isSet b = false) (h : isSet c = false) : lastMarks [op, op'] [b, c] = false := marks h
theorem plain_of {b : Expr} (h : isSlice b = false) : PlainIx b := by
  cases b <;> first | exact fun _ _ => rfl | cases h
theorem evEs_nil : evEs F [] = eNil := by funext s M; rfl
theorem evEs_cons (e : IE) (es : List IE) : evEs F (e :: es) = eCons (evE F e) (evEs F es) := by funext s M; rfl
theorem cnt_evEs : ∀ es : List IE, Cnt es.length (evEs F es)
  | [] => by rw [evEs_nil]; exact cnt_nil
  | e :: es => by rw [evEs_cons]; exact cnt_cons (cnt_evEs es)
theorem nofold {iter : Expr} {env : Env} (h : isSet iter = false) (x : Value) : foldedSetIterable iter env x = pure x := by
  cases iter <;> first | rfl | cases h
theorem relS_keep {scope : Scope} {x : Str} (h : isLoc (scope.names.lookup x) = true) : Loc (relS scope sc) x ∧ ((scope.names.lookup x == some .cell) = true ∨ (relS scope sc).names.lookup x = some .local) := by
  unfold isLoc at h
  split at h
  · rename_i e
    have := lookup_relS_keep (sc := sc) (names := scope.names) (k := .local) (by decide) e
    exact ⟨.inl this, .inr this⟩
  · rename_i e
    have := lookup_relS_keep (sc := sc) (names := scope.names) (k := .cell) (by decide) e
    exact ⟨.inr this, .inl (by rw [e]; rfl)⟩
  · cases h
end
end Gv

namespace Gv
open PySem PySem.Spec L2
section
variable {cc : CC} {cl : Nat → Addr} {F : FEnv} {k : Nat} {X : Cx} {W : WX} {sc : Scope}
theorem nm_ok {N : List Str} {ok : Str → Bool} {x : Str} {i : Nat} (h : nmC N ok x = some i) : ok x = true ∧ N[i]? = some x := by
  unfold nmC at h
  split at h
  · exact ⟨by assumption, slotOf_ok h⟩
  · cases h
theorem tgs_ok {N : List Str} {ok : Str → Bool} (hN : X.N = N) (hok : ∀ x, ok x = true → Loc X.env.scope x ∧ (X.fn x = true ∨ X.env.scope.names.lookup x = some .local)) : ∀ {es : List Expr} {is : List Nat}, tgNames N ok es = some is → NamesAt X es is
  | [], is, h => by simp only [tgNames, Option.some.injEq] at h; subst h; exact .nil
  | e :: es, is, h => by
    unfold tgNames at h
    split at h
    · rename_i heq; cases heq
    · rename_i x p r heq
      cases heq
      simp only [Option.bind_eq_some_iff, Option.map_eq_some_iff] at h
      obtain ⟨i, e1, is', e2, rfl⟩ := h
      obtain ⟨h1, h2⟩ := nm_ok e1
      obtain ⟨h3, h4⟩ := hok x h1
      exact .cons (by rw [hN]; exact h2) h3 h4 (tgs_ok hN hok e2)
    · cases h
theorem tg_ok {N : List Str} {ok : Str → Bool} {tg : Expr} {t : Tg} (hc : X.calm = true) (nd : X.N.Nodup) (hN : X.N = N) (hok : ∀ x, ok x = true → Loc X.env.scope x ∧ (X.fn x = true ∨ X.env.scope.names.lookup x = some .local)) (h : tgC N ok tg = some t) : SG X cl tg t := by
  unfold tgC at h
  split at h
  · simp only [Option.map_eq_some_iff] at h
    obtain ⟨i, e1, rfl⟩ := h
    obtain ⟨h1, h2⟩ := nm_ok e1
    obtain ⟨h3, h4⟩ := hok _ h1
    exact sg_name nd (by rw [hN]; exact h2) h3 h4
  · simp only [Option.map_eq_some_iff] at h
    obtain ⟨is, e1, rfl⟩ := h
    exact sg_tup hc nd (tgs_ok hN hok e1)
  · cases h
theorem tg_blk (c : EC cc cl F k X W sc) {scope : Scope} {tg : Expr} {t : Tg} (h : tgC cc.N (fun x => isLoc (scope.names.lookup x)) tg = some t) (s : Shared) (H : Hp) (C : Addr) (l : List (Str × Addr)) (fp : List Addr) :
    SG (X.blk s H scope (compEnvC scope l C X.env) fp) cl tg t := by
  have c' := c.blk s H scope C l fp
  refine tg_ok c'.calm c'.nd c'.n (fun x hx => ?_) h
  rw [c'.sc]
  exact relS_keep hx
/-- a list comprehension's parts -/
structure LcOk (X : Cx) (cl : Nat → Addr) (W : WX) (F : FEnv) (elt tg iter : Expr) (ifs : List Expr) (scope : Scope) (own : List (Str × Nat)) (t : Tg) (it c x : IE) : Prop where
  hi : SI X cl W tg iter (evI F it)
  ok : BlkOk X.N X.env.scope scope own
  hg : ∀ (s : Shared) (H : Hp) (C : Addr) (l : List (Str × Addr)) (fp : List Addr), SG (X.blk s H scope (compEnvC scope l C X.env) fp) cl tg t
  ht : ∀ (s : Shared) (H : Hp) (C : Addr) (l : List (Str × Addr)) (fp : List Addr), PTs (X.blk s H scope (compEnvC scope l C X.env) fp) ifs (rdT X.K cl W0 (evE F c))
  he : ∀ (s : Shared) (H : Hp) (C : Addr) (l : List (Str × Addr)) (fp : List Addr), SE (X.blk s H scope (compEnvC scope l C X.env) fp) cl W0 elt (evE F x)
  hf : ∀ x, foldedSetIterable iter X.env x = pure x
  hs : ∀ j ∈ t.slots, j ∈ own.map (·.2)
theorem sa_of : ∀ {es : List Expr} {irs : List IE}, Paired (fun e ir => SE X cl W e (evE F ir)) es irs → es.all notStar = true → SA X cl W es (evEs F irs) ∧ irs.length = es.length
  | _, _, .nil, _ => ⟨by rw [evEs_nil]; exact sa_nil, rfl⟩
  | _, _, .cons a t, h => by
    simp only [List.all_cons, Bool.and_eq_true] at h
    obtain ⟨h1, h2⟩ := sa_of t h.2
    exact ⟨by rw [evEs_cons]; exact sa_cons a h1 (star_cons h.1), by simp [h2]⟩
theorem bool_e {op : BoolOp} {pos : Pos} : ∀ {es : List Expr} {irs : List IE} {ir : IE}, Paired (fun e ir => SE X cl W e (evE F ir)) es irs → boolC op irs = some ir → SE X cl W (.BoolOp op es pos) (evE F ir)
  | _, _, ir, .nil, h => by cases h
  | _, _, ir, .cons a .nil, h => by cases h; exact se_one a
  | _, _, ir, .cons a (.cons b t), h => by
    unfold boolC at h
    simp only [Option.map_eq_some_iff] at h
    obtain ⟨z, e, rfl⟩ := h
    have ih := bool_e (op := op) (pos := pos) (.cons b t) e
    cases op with
    | And => exact se_and a ih
    | Or => exact se_or a ih
theorem bool_w {op : BoolOp} {pos : Pos} : ∀ {es : List Expr} {irs : List IE} {ir : IE}, Paired (fun e ir => ST X cl W e (evE F ir)) es irs → boolC op irs = some ir → SW X cl W (.BoolOp op es pos) (evE F ir)
  | _, _, ir, .nil, h => by cases h
  | _, _, ir, .cons a .nil, h => by
    cases h
    cases op with
    | And => exact sw_and1 a
    | Or => exact sw_or1 a
  | _, _, ir, .cons a (.cons b t), h => by
    unfold boolC at h
    simp only [Option.map_eq_some_iff] at h
    obtain ⟨z, e, rfl⟩ := h
    have ih := bool_w (op := op) (pos := pos) (.cons b t) e
    cases op with
    | And => exact sw_and a ih
    | Or => exact sw_or a ih
end
theorem base_ok {o : Expr} {m : Str} {env : Env} (h : okBase o = true) : attributeBase o m env (eval o env) = eval o env := by
  cases o <;> first | rfl | cases h
structure AllOk (cc : CC) (cl : Nat → Addr) (F : FEnv) (k n : Nat) : Prop where
  e : ∀ {X : Cx} {W : WX} {sc : Scope} {al : Bool} {e : Expr} {ir : IE}, EC cc cl F k X W sc → comp cc n sc al e = some ir → SE X cl W e (evE F ir)
  call : ∀ {X : Cx} {W : WX} {sc : Scope} {al : Bool} {f : Str} {e : Expr} {es : List Expr} {ir : IE} {p pos : Pos}, EC cc cl F k X W sc → isGl (sc.names.lookup f) = true → (e :: es).all notStar = true → okName f = true → compCall cc n sc al f e es = some ir →
    SE X cl W (.Call (.Name f p) (e :: es) [] pos) (evE F ir)
  lc : ∀ {X : Cx} {W : WX} {sc : Scope} {al : Bool} {elt tg iter : Expr} {ifs : List Expr} {scope : Scope} {ir : IE}, EC cc cl F k X W sc → compLc cc n sc al elt tg iter ifs scope = some ir →
    ∃ own t it c x, ir = .lc al (own.map (·.2)) t it c x ∧ LcOk X cl W F elt tg iter ifs scope own t it c x
  ifs : ∀ {X : Cx} {W : WX} {sc : Scope} {es : List Expr} {ir : IE}, EC cc cl F k X W sc → compIf cc n sc es = some ir → PTs X es (rdT X.K cl W (evE F ir))
  es : ∀ {X : Cx} {W : WX} {sc : Scope} {es : List Expr} {irs : List IE}, EC cc cl F k X W sc → comps cc n sc es = some irs → Paired (fun e ir => SE X cl W e (evE F ir)) es irs
  t : ∀ {X : Cx} {W : WX} {sc : Scope} {e : Expr} {ir : IE}, EC cc cl F k X W sc → compT cc n sc e = some ir → ST X cl W e (evE F ir)
  ts : ∀ {X : Cx} {W : WX} {sc : Scope} {es : List Expr} {irs : List IE}, EC cc cl F k X W sc → compTs cc n sc es = some irs → Paired (fun e ir => ST X cl W e (evE F ir)) es irs
  o : ∀ {X : Cx} {W : WX} {sc : Scope} {o : Option Expr} {ir : IE}, EC cc cl F k X W sc → compO cc n sc o = some ir → SO X cl W o (evE F ir)
  i : ∀ {X : Cx} {W : WX} {sc : Scope} {e tg : Expr} {ir : IE}, EC cc cl F k X W sc → compI cc n sc tg e = some ir → SI X cl W tg e (evI F ir)
section
variable {cc : CC} {cl : Nat → Addr} {F : FEnv} {k n : Nat}
theorem all_zero : AllOk cc cl F k 0 where
  e := fun _ h => by simp [comp] at h
  call := fun _ _ _ _ h => by simp [compCall] at h
  lc := fun _ h => by simp [compLc] at h
  ifs := fun _ h => by simp [compIf] at h
  es := fun _ h => by simp [comps] at h
  t := fun _ h => by simp [compT] at h
  ts := fun _ h => by simp [compTs] at h
  o := fun _ h => by simp [compO] at h
  i := fun _ h => by simp [compI] at h
variable {X : Cx} {W : WX} {sc : Scope}
theorem lc_se {al : Bool} {elt tg iter : Expr} {ifs : List Expr} {scope : Scope} {own : List (Str × Nat)} {t : Tg} {it c x : IE} {pos : Pos} (e : EC cc cl F k X W sc) (h : LcOk X cl W F elt tg iter ifs scope own t it c x) :
    SE X cl W (.ListComp elt [⟨tg, iter, ifs, 0⟩] scope pos) (evE F (.lc al (own.map (·.2)) t it c x)) :=
  se_lc e.calm e.nd h.hi h.ok h.hg h.ht h.he h.hf h.hs
theorem comp_succ (A : AllOk cc cl F k n) {al : Bool} {e : Expr} {ir : IE} (c : EC cc cl F k X W sc) (h : comp cc (n + 1) sc al e = some ir) : SE X cl W e (evE F ir) := by
  unfold comp at h
  split at h
  · exact name_ok c h
  · exact const_ok h
  · simp only [Option.bind_eq_some_iff, Option.some.injEq] at h
    obtain ⟨x, e1, y, e2, rfl⟩ := h
    exact se_bin (A.e c e1) (A.e c e2)
  · simp only [Option.map_eq_some_iff] at h
    obtain ⟨x, e1, rfl⟩ := h
    exact se_neg (A.e c e1)
  · simp only [Option.map_eq_some_iff] at h
    obtain ⟨x, e1, rfl⟩ := h
    exact se_not (A.e c e1)
  · simp only [Option.bind_eq_some_iff] at h
    obtain ⟨xs, e1, e2⟩ := h
    exact bool_e (A.es c e1) e2
  · split at h
    · cases h
    · rename_i hs
      simp only [Option.bind_eq_some_iff, Option.some.injEq] at h
      obtain ⟨x, e1, y, e2, rfl⟩ := h
      exact se_cmp c.hu (marks (by simpa using hs)) (A.e c e1) (A.e c e2)
  · split at h
    · cases h
    · rename_i hs
      simp only [Bool.or_eq_true, not_or, Bool.not_eq_true] at hs
      simp only [Option.bind_eq_some_iff, Option.some.injEq] at h
      obtain ⟨x, e1, y, e2, z, e3, rfl⟩ := h
      exact se_chain c.hu (marks2 hs.1 hs.2) (A.e c e1) (A.e c e2) (A.e c e3)
  · simp only [Option.bind_eq_some_iff, Option.some.injEq] at h
    obtain ⟨z, e0, x, e1, y, e2, rfl⟩ := h
    exact se_if (A.t c e0) (A.e c e1) (A.e c e2)
  · split at h
    · rename_i hs
      simp only [Bool.and_eq_true, decide_eq_true_eq] at hs
      simp only [Option.map_eq_some_iff] at h
      obtain ⟨xs, e1, rfl⟩ := h
      obtain ⟨q1, q2⟩ := sa_of (A.es c e1) hs.1
      exact se_tup (cnt_evEs xs) (by rw [q2]; unfold lim; omega) q1
    · cases h
  · split at h
    · rename_i hs
      simp only [Bool.and_eq_true, decide_eq_true_eq] at hs
      simp only [Option.map_eq_some_iff] at h
      obtain ⟨xs, e1, rfl⟩ := h
      obtain ⟨q1, q2⟩ := sa_of (A.es c e1) hs.1
      exact se_lst (cnt_evEs xs) (by rw [q2]; unfold lim; omega) q1
    · cases h
  · simp only [Option.map_eq_some_iff] at h
    obtain ⟨x, e1, rfl⟩ := h
    exact se_rev (A.e c e1)
  · simp only [Option.bind_eq_some_iff, Option.some.injEq] at h
    obtain ⟨x, e1, l, e2, u, e3, rfl⟩ := h
    exact se_sl (A.e c e1) (A.o c e2) (A.o c e3)
  · split at h
    · cases h
    · rename_i hs
      simp only [Option.bind_eq_some_iff, Option.some.injEq] at h
      obtain ⟨x, e1, y, e2, rfl⟩ := h
      exact se_idx (A.e c e1) (A.e c e2) (plain_of (by simpa using hs))
  · split at h
    · rename_i hs
      simp only [Bool.and_eq_true] at hs
      exact A.call c hs.1.1 hs.1.2 hs.2 h
    · cases h
  · obtain ⟨own, t, it, q, x, rfl, ok⟩ := A.lc c h
    exact lc_se c ok
  · split at h
    · rename_i hs
      simp only [Bool.and_eq_true, decide_eq_true_eq] at hs
      simp only [Option.bind_eq_some_iff, Option.some.injEq] at h
      obtain ⟨t, e0, x, e1, ys, e2, rfl⟩ := h
      obtain ⟨q1, q2⟩ := sa_of (A.es c e2) hs.1.2
      have hp := A.es c e2
      clear e2
      cases hp with
      | nil =>
        have := se_mtN t (mtOf_ok e0) c.calm c.hu (A.e c e1) (base_ok hs.1.1.1) hs.1.1.2
        rw [← evEs_nil (F := F)] at this
        exact this
      | cons h1 t1 => exact se_mt t (mtOf_ok e0) c.calm c.hu (A.e c e1) q1 (base_ok hs.1.1.1) hs.1.1.2 hs.1.2 hs.2
    · cases h
  · cases h
theorem isEnum_ok {e a : Expr} (h : isEnum1 e = some a) : ∃ p pos, e = .Call (.Name "enumerate" p) [a] [] pos := by
  unfold isEnum1 at h
  split at h
  · split at h
    · rename_i hf
      cases h
      rw [eq_of_beq hf]
      exact ⟨_, _, rfl⟩
    · cases h
  · cases h
theorem isTupX_ok {e : Expr} (h : isTupX e = true) : ∃ es k p, e = .Tuple es k p := by
  cases e <;> first | exact ⟨_, _, _, rfl⟩ | cases h
theorem isRange_ok {e : Expr} {es : List Expr} (h : isRange e = some es) : ∃ p pos, e = .Call (.Name "range" p) es [] pos := by
  unfold isRange at h
  split at h
  · split at h
    · rename_i hf
      cases h
      rw [eq_of_beq hf]
      exact ⟨_, _, rfl⟩
    · cases h
  · cases h
theorem call_succ (A : AllOk cc cl F k n) {al : Bool} {f : Str} {e : Expr} {es : List Expr} {ir : IE} {p pos : Pos} (c : EC cc cl F k X W sc) (hg : isGl (sc.names.lookup f) = true) (hs : (e :: es).all notStar = true) (hn : okName f = true) (h : compCall cc (n + 1) sc al f e es = some ir) :
    SE X cl W (.Call (.Name f p) (e :: es) [] pos) (evE F ir) := by
  unfold compCall at h
  have hs' := hs
  simp only [List.all_cons, Bool.and_eq_true] at hs'
  split at h
  · rename_i hf
    have hf := eq_of_beq hf
    subst hf
    split at h
    · split at h
      · rename_i y p2 hy
        simp only [Option.bind_eq_some_iff, Option.map_eq_some_iff] at h
        obtain ⟨t, e1, x, e2, rfl⟩ := h
        have hb : y ∈ bNames := by
          unfold plainName at e1
          repeat' split at e1
          all_goals first | (have := eq_of_beq (by assumption); rw [this]; decide) | cases e1
        exact se_isi (c.gl hg) (c.blt _ (by decide)) (c.gl hy) (c.blt _ hb) e1 (A.e c e2) hs'.1
      · cases h
    · cases h
  · split at h
    · rename_i hl
      simp only [Bool.and_eq_true] at hl
      have hf := eq_of_beq hl.1.1
      subst hf
      have he : es = [] := by simpa using hl.1.2
      subst he
      split at h
      · rename_i args er
        split at h
        · rename_i hs2
          simp only [Bool.and_eq_true, Bool.or_eq_true, beq_iff_eq] at hs2
          simp only [Option.map_eq_some_iff] at h
          obtain ⟨xs, e1, rfl⟩ := h
          obtain ⟨p', pos', rfl⟩ := isRange_ok er
          have hp := A.es c e1
          cases hp with
          | nil => simp at hs2
          | cons h1 t1 =>
            rename_i x1 y1 l1 l2
            have ns := hs2.1.2
            simp only [List.all_cons, Bool.and_eq_true] at ns
            cases t1 with
            | nil => exact se_lrng1 c.calm (c.gl hg) (c.blt _ (by decide)) (c.gl hs2.1.1) (c.blt _ (by decide)) h1 ns.1
            | cons h2 t2 =>
              simp only [List.all_cons, Bool.and_eq_true] at ns
              cases t2 with
              | nil => exact se_lrng2 c.calm (c.gl hg) (c.blt _ (by decide)) (c.gl hs2.1.1) (c.blt _ (by decide)) h1 h2 ns.1 ns.2.1
              | cons h3 t3 => simp at hs2
        · cases h
      · cases h
    split at h
    · rename_i b eb
      simp only [Option.map_eq_some_iff] at h
      obtain ⟨xs, e1, rfl⟩ := h
      obtain ⟨q1, q2⟩ := sa_of (A.es c e1) hs
      obtain ⟨r1, r2⟩ := bfOf_ok eb
      exact se_bi b c.calm r1 (c.gl hg) (c.blt _ r2) q1 hs
    · split at h
      · rename_i i ei
        simp only [Option.map_eq_some_iff] at h
        obtain ⟨xs, e1, rfl⟩ := h
        obtain ⟨q1, q2⟩ := sa_of (A.es c e1) hs
        obtain ⟨fa, fd, ps, h1, h2, h3, h4⟩ := c.fns i f _ (fnOf_ok ei)
        have hc := cnt_evEs (F := F) xs
        rw [q2] at hc
        exact se_call h4 c.room (c.gl hg) h1 h2 h3 c.tk hc q1 hs (okName_ok hn).1
      · cases h
theorem lc_succ (A : AllOk cc cl F k n) {al : Bool} {elt tg iter : Expr} {ifs : List Expr} {scope : Scope} {ir : IE} (c : EC cc cl F k X W sc) (h : compLc cc (n + 1) sc al elt tg iter ifs scope = some ir) :
    ∃ own t it q x, ir = .lc al (own.map (·.2)) t it q x ∧ LcOk X cl W F elt tg iter ifs scope own t it q x := by
  unfold compLc at h
  split at h
  · rename_i hb
    simp only [Bool.and_eq_true, Bool.not_eq_true'] at hb
    simp only [Option.bind_eq_some_iff] at h
    obtain ⟨it, e1, t, e2, h⟩ := h
    split at h
    · rename_i hsl
      simp only [Option.bind_eq_some_iff, Option.some.injEq] at h
      obtain ⟨q, e3, x, e4, rfl⟩ := h
      refine ⟨ownOf cc.N scope, t, it, q, x, rfl, A.i c e1, ?_, tg_blk c e2, fun s H C l fp => A.ifs (c.blk s H scope C l fp) e3, fun s H C l fp => A.e (c.blk s H scope C l fp) e4, nofold hb.2, fun j hj => ?_⟩
      · rw [c.n, c.sc]; exact blkOk_by hb.1
      · simpa using List.all_eq_true.mp hsl j hj
    · cases h
  · cases h
theorem all_succ (A : AllOk cc cl F k n) : AllOk cc cl F k (n + 1) where
  e := fun c h => comp_succ A c h
  call := fun c h1 h2 h3 h => call_succ A c h1 h2 h3 h
  lc := fun c h => lc_succ A c h
  ifs := fun {X W sc es ir} c h => by
    unfold compIf at h
    split at h
    · cases h
      exact ⟨fun pins s σ H Q I hw => pts_nil.run pins s σ H Q I (by
        obtain ⟨B, r, M, s', R, S, o⟩ := hw
        obtain ⟨b, e, q⟩ := Out.here (u := .bl true) o R (.d (.bl _))
        cases e
        exact q)⟩
    · exact pts_one (A.t c h)
    · cases h
  es := fun {X W sc es irs} c h => by
    unfold comps at h
    split at h
    · cases h; exact .nil
    · simp only [Option.bind_eq_some_iff, Option.map_eq_some_iff] at h
      obtain ⟨x, e1, xs, e2, rfl⟩ := h
      exact .cons (A.e c e1) (A.es c e2)
  t := fun {X W sc e ir} c h => by
    unfold compT at h
    split at h
    · simp only [Option.map_eq_some_iff] at h
      obtain ⟨x, e1, rfl⟩ := h
      exact st_not (A.t c e1)
    · simp only [Option.bind_eq_some_iff] at h
      obtain ⟨xs, e1, e2⟩ := h
      exact (bool_w (A.ts c e1) e2).pt
    · cases h
    · split at h
      · cases h
      · rename_i hs
        simp only [Option.bind_eq_some_iff, Option.some.injEq] at h
        obtain ⟨x, e1, y, e2, rfl⟩ := h
        exact st_cmp c.hu (marks (by simpa using hs)) (A.e c e1) (A.e c e2)
    · split at h
      · cases h
      · rename_i hs
        simp only [Bool.or_eq_true, not_or, Bool.not_eq_true] at hs
        simp only [Option.bind_eq_some_iff, Option.some.injEq] at h
        obtain ⟨x, e1, y, e2, z, e3, rfl⟩ := h
        exact st_chain c.hu (marks2 hs.1 hs.2) (A.e c e1) (A.e c e2) (A.e c e3)
    · cases h
    · rename_i n1 n2 n3 n4 n5 n6
      refine st_val (A.e c h) fun whole => ?_
      cases e with
      | UnaryOp op x p =>
        cases op with
        | Not => exact absurd rfl (n1 x p)
        | _ => rfl
      | BoolOp op vs p => exact absurd rfl (n2 op vs p)
      | IfExp a b d p => exact absurd rfl (n3 a b d p)
      | Compare a ops cs p => exact absurd rfl (n6 a ops cs p)
      | _ => rfl
  ts := fun {X W sc es irs} c h => by
    unfold compTs at h
    split at h
    · cases h; exact .nil
    · simp only [Option.bind_eq_some_iff, Option.map_eq_some_iff] at h
      obtain ⟨x, e1, xs, e2, rfl⟩ := h
      exact .cons (A.t c e1) (A.ts c e2)
  o := fun {X W sc o ir} c h => by
    unfold compO at h
    split at h
    · cases h; exact so_none
    · simp only [Option.map_eq_some_iff] at h
      obtain ⟨x, e1, rfl⟩ := h
      exact so_some (A.e c e1)
  i := fun {X W sc e tg ir} c h => by
    unfold compI at h
    split at h
    · rename_i a es hr
      split at h
      · rename_i hs
        simp only [Bool.and_eq_true, decide_eq_true_eq] at hs
        simp only [Option.map_eq_some_iff] at h
        obtain ⟨xs, e1, rfl⟩ := h
        obtain ⟨p, pos, rfl⟩ := isRange_ok hr
        obtain ⟨q1, q2⟩ := sa_of (A.es c e1) hs.1.2
        have hc := cnt_evEs (F := F) xs
        rw [q2] at hc
        exact si_rng (c.gl hs.1.1) (c.blt _ (by decide)) q1 hs.1.2 hs.2 hc
      · cases h
    · cases h
    · split at h
      · rename_i a ha
        split at h
        · rename_i hs
          simp only [Bool.and_eq_true] at hs
          simp only [Option.map_eq_some_iff] at h
          obtain ⟨x, e1, rfl⟩ := h
          obtain ⟨p, pos, rfl⟩ := isEnum_ok ha
          obtain ⟨es, kk, tp, rfl⟩ := isTupX_ok hs.1.1
          exact si_enum (c.gl hs.1.2) (c.blt _ (by decide)) (A.e c e1) hs.2
        · cases h
      · simp only [Option.map_eq_some_iff] at h
        obtain ⟨x, e1, rfl⟩ := h
        exact si_seq (A.e c e1)
theorem all_ok : ∀ n, AllOk cc cl F k n
  | 0 => all_zero
  | n + 1 => all_succ (all_ok n)
end
end Gv

namespace Gv
open PySem PySem.Spec L2

theorem sw_no {e : Expr} {t : Option Expr} {l : Nat} {env : Env} (h : isComp e = false) : swapsWith e t l env = pure false := by
  cases e <;> first | rfl | cases h
theorem sws_no {e t : Expr} {l : Nat} {env : Env} (h : isComp e = false) : swapsWithSole [t] e l env = pure false := by
  show swapsWith e (some t) l env = pure false
  exact sw_no h
theorem sw_cell {elt : Expr} {gs : List Comprehension} {scope : Scope} {pos py : Pos} {y : Str} {l : Nat} {env : Env} (hy : env.scope.names.lookup y = some .cell) : swapsWith (.ListComp elt gs scope pos) (some (.Name y py)) l env = pure false := by
  have : (env.kindOf y == some .local) = false := by unfold Env.kindOf; rw [hy]; rfl
  unfold swapsWith
  simp only [this, Bool.and_false, Bool.false_and]
theorem sws_cell {elt : Expr} {gs : List Comprehension} {scope : Scope} {pos py : Pos} {y : Str} {l : Nat} {env : Env} (hy : env.scope.names.lookup y = some .cell) : swapsWithSole [.Name y py] (.ListComp elt gs scope pos) l env = pure false := by
  show swapsWith (.ListComp elt gs scope pos) (some (.Name y py)) l env = pure false
  exact sw_cell hy
theorem ss_none {tg e : Expr} {env : Env} (h : (match tg, e with | .Tuple .., .Tuple .. => true | .List .., .Tuple .. => true | _, _ => false) = false) : swappedStores [tg] e env = pure none := by
  cases tg <;> cases e <;> first | rfl | cases h
def isTup : Expr → Bool
  | .Tuple .. => true
  | _ => false
section
variable (cc : CC) (mu : List Str)
def swOk (sc : Scope) (y : Str) (py lpos : Pos) (scope : Scope) : Bool :=
  (match sc.kind with | .function => true | _ => false) && (match sc.names.lookup y with | some .local => true | _ => false) && (py.line == lpos.line) && !(scope.names.any fun x => x.1 == y && (x.2 == .local || x.2 == .cell))
def isCell (sc : Scope) (y : Str) : Bool := match sc.names.lookup y with | some .cell => true | _ => false
mutual
def compS : Nat → Scope → Stmt → Option IS
  | 0, _, _ => none
  | n + 1, sc, st => match st with
    | .Expr (.Call (.Attribute o m apos) [e] [] cpos) _ => if m == "append" && okBase o && apos.endLine == cpos.line && notStar e then (comp cc n sc false o).bind fun x => (comp cc n sc false e).bind fun y => some (.app x y) else (comp cc n sc false (.Call (.Attribute o m apos) [e] [] cpos)).map .expr
    | .Expr e _ => if isComp e then none else (comp cc n sc false e).map .expr
    | .Assign [.Name x p] e pos => compA n sc x p e
    | .Assign [.Tuple es k p] e pos => if isComp e || isTup e then none else (tgC cc.N (fun x => isLoc (sc.names.lookup x)) (.Tuple es k p)).bind fun t => (comp cc n sc false e).map (.asg t)
    | .Assign [.Subscript o i p] e _ => if isComp e || isSlice i then none else (comp cc n sc false o).bind fun x => (comp cc n sc false i).bind fun y => (comp cc n sc false e).bind fun z => some (.setix x y z)
    | .Return (some e) _ => (comp cc n sc (mu.contains "return") e).map .ret
    | .If c a b _ => (compT cc n sc c).bind fun z => (compSs n sc a).bind fun x => (compSs n sc b).bind fun y => some (.ite z x y)
    | .For tg iter body [] _ => if isSet iter then none else (tgC cc.N (fun x => isLoc (sc.names.lookup x)) tg).bind fun t => (compI cc n sc tg iter).bind fun it => (compSs n sc body).bind fun b => some (.forr t it b)
    | .While c body [] _ => (compT cc n sc c).bind fun z => (compSs n sc body).bind fun b => some (.whil z b)
    | .Pass _ => some .pass
    | _ => none
def compA : Nat → Scope → Str → Pos → Expr → Option IS
  | 0, _, _, _, _ => none
  | n + 1, sc, x, p, e => (tgC cc.N (fun x => isLoc (sc.names.lookup x)) (.Name x p)).bind fun t => match e with
    | .ListComp elt [⟨tg, iter, ifs, 0⟩] scope lpos =>
      if swOk sc x p lpos scope || isCell sc x then (compLc cc n sc (mu.contains x) elt tg iter ifs scope).map (.asg t) else none
    | e => if isComp e then none else (comp cc n sc (mu.contains x) e).map (.asg t)
def compSs : Nat → Scope → List Stmt → Option (List IS)
  | 0, _, _ => none
  | n + 1, sc, sts => match sts with
    | [] => some []
    | s :: r => (compS n sc s).bind fun x => (compSs n sc r).map (x :: ·)
end
end
structure SC (cc : CC) (cl : Nat → Addr) (F : FEnv) (k : Nat) (X : Cx) (W : WX) (sc : Scope) : Prop extends EC cc cl F k X W sc where
  po : PassesOwn (model X.prog X.w) X.A X.env X.xe
  fn : ∀ x, X.fn x = true
structure SOk (cc : CC) (mu : List Str) (cl : Nat → Addr) (F : FEnv) (k wf n : Nat) : Prop where
  s : ∀ {X : Cx} {W : WX} {sc : Scope} {st : Stmt} {ir : IS}, SC cc cl F k X W sc → compS cc mu n sc st = some ir → SS X cl W st (evS F wf ir)
  a : ∀ {X : Cx} {W : WX} {sc : Scope} {x : Str} {p pos : Pos} {e : Expr} {ir : IS}, SC cc cl F k X W sc → compA cc mu n sc x p e = some ir → SS X cl W (.Assign [.Name x p] e pos) (evS F wf ir)
  ss : ∀ {X : Cx} {W : WX} {sc : Scope} {st : List Stmt} {ir : List IS}, SC cc cl F k X W sc → compSs cc mu n sc st = some ir → SSs X cl W st (evSs F wf ir)
section
variable {cc : CC} {mu : List Str} {cl : Nat → Addr} {F : FEnv} {k wf n : Nat} {X : Cx} {W : WX} {sc : Scope}
theorem SC.tg (c : SC cc cl F k X W sc) {tg : Expr} {t : Tg} (h : tgC cc.N (fun x => isLoc (sc.names.lookup x)) tg = some t) : SG X cl tg t := by
  refine tg_ok c.calm c.nd c.n (fun x hx => ⟨?_, .inl (c.fn x)⟩) h
  rw [c.sc]
  unfold isLoc at hx
  split at hx
  · exact .inl (by assumption)
  · exact .inr (by assumption)
  · cases hx
theorem assign_sub {o i : Expr} {p : Pos} {env : Env} (h : isSlice i = false) (v : Value) : assign (.Subscript o i p) env v = (do
      let ov ← holding [v] (eval o env)
      let iv ← holding [v, ov] (eval i env)
      standAt p
      holding [v, ov, iv] (setItem ov iv v)
      release [v, ov, iv] []) := by
  cases i <;> first | rfl | cases h
theorem compS_succ (A : SOk cc mu cl F k wf n) {st : Stmt} {ir : IS} (c : SC cc cl F k X W sc) (h : compS cc mu (n + 1) sc st = some ir) : SS X cl W st (evS F wf ir) := by
  have E := all_ok (cc := cc) (cl := cl) (F := F) (k := k) n
  have ce := c.toEC
  unfold compS at h
  split at h
  · split at h
    · rename_i hs
      simp only [Bool.and_eq_true] at hs
      simp only [Option.bind_eq_some_iff, Option.some.injEq] at h
      obtain ⟨x, e1, y, e2, rfl⟩ := h
      have hm := eq_of_beq hs.1.1.1
      subst hm
      exact ss_app (E.e ce e1) (E.e ce e2) (base_ok hs.1.1.2) hs.1.2 hs.2 rfl
    · simp only [Option.map_eq_some_iff] at h
      obtain ⟨x, e1, rfl⟩ := h
      exact ss_expr (E.e ce e1) rfl
  · split at h
    · cases h
    · rename_i hs
      simp only [Option.map_eq_some_iff] at h
      obtain ⟨x, e1, rfl⟩ := h
      exact ss_expr (E.e ce e1) (sw_no (by simpa using hs))
  · exact A.a c h
  · split at h
    · cases h
    · rename_i hs
      simp only [Bool.or_eq_true, not_or, Bool.not_eq_true] at hs
      simp only [Option.bind_eq_some_iff, Option.map_eq_some_iff] at h
      obtain ⟨t, e1, x, e2, rfl⟩ := h
      refine ss_asg (E.e ce e2) (c.tg e1) (sws_no hs.1) (ss_none ?_) rfl
      have h2 := hs.2
      unfold isTup at h2
      split
      · cases h2
      · rename_i heq; cases heq
      · rfl
  · split at h
    · cases h
    · rename_i hs
      simp only [Bool.or_eq_true, not_or, Bool.not_eq_true] at hs
      simp only [Option.bind_eq_some_iff, Option.some.injEq] at h
      obtain ⟨x, e1, y, e2, z, e3, rfl⟩ := h
      refine ss_setix (E.e ce e3) (E.e ce e1) (E.e ce e2) (assign_sub hs.2) (sws_no hs.1) (ss_none ?_) rfl
      split
      · rename_i heq; cases heq
      · rename_i heq; cases heq
      · rfl
  · simp only [Option.map_eq_some_iff] at h
    obtain ⟨x, e1, rfl⟩ := h
    exact ss_ret (E.e ce e1)
  · simp only [Option.bind_eq_some_iff, Option.some.injEq] at h
    obtain ⟨z, e1, x, e2, y, e3, rfl⟩ := h
    exact ss_if (E.t ce e1) (A.ss c e2) (A.ss c e3)
  · split at h
    · cases h
    · rename_i hs
      simp only [Option.bind_eq_some_iff, Option.some.injEq] at h
      obtain ⟨t, e1, it, e2, b, e3, rfl⟩ := h
      exact ss_for c.po c.calm (E.i ce e2) (c.tg e1) (A.ss c e3) (nofold (by simpa using hs))
  · simp only [Option.bind_eq_some_iff, Option.some.injEq] at h
    obtain ⟨z, e1, b, e2, rfl⟩ := h
    exact ss_while c.po (E.t ce e1) (A.ss c e2)
  · cases h; exact ss_pass
  · cases h
theorem compA_succ (A : SOk cc mu cl F k wf n) {x : Str} {p pos : Pos} {e : Expr} {ir : IS} (c : SC cc cl F k X W sc) (h : compA cc mu (n + 1) sc x p e = some ir) : SS X cl W (.Assign [.Name x p] e pos) (evS F wf ir) := by
  have E := all_ok (cc := cc) (cl := cl) (F := F) (k := k) n
  have ce := c.toEC
  unfold compA at h
  simp only [Option.bind_eq_some_iff] at h
  obtain ⟨t, e1, h⟩ := h
  have hg := c.tg e1
  split at h
  · split at h
    · rename_i hs
      simp only [Option.map_eq_some_iff] at h
      obtain ⟨y, e2, rfl⟩ := h
      obtain ⟨own, t', it, q, x', rfl, ok⟩ := E.lc ce e2
      simp only [Bool.or_eq_true] at hs
      rcases hs with hs | hs
      · unfold swOk at hs
        simp only [Bool.and_eq_true, Bool.not_eq_true'] at hs
        obtain ⟨⟨⟨h1, h2⟩, h3⟩, h4⟩ := hs
        have hk : X.env.scope.kind = .function := by
          rw [c.sc]
          split at h1
          · assumption
          · cases h1
        have hy : X.env.scope.names.lookup x = some .local := by
          rw [c.sc]
          split at h2
          · assumption
          · cases h2
        simp only [tgC, Option.map_eq_some_iff] at e1
        obtain ⟨i, e3, rfl⟩ := e1
        exact ss_asgLc c.calm c.nd (by rw [c.n]; exact (nm_ok e3).2) hy (sw_true hk hy h3 h4) ok.hi ok.ok ok.hg ok.ht ok.he ok.hf ok.hs
      · have hy : X.env.scope.names.lookup x = some .cell := by
          rw [c.sc]
          unfold isCell at hs
          split at hs
          · assumption
          · cases hs
        exact ss_asg (lc_se ce ok) hg (sws_cell hy) (ss_none rfl) rfl
    · cases h
  · split at h
    · cases h
    · rename_i hs
      simp only [Option.map_eq_some_iff] at h
      obtain ⟨y, e2, rfl⟩ := h
      refine ss_asg (E.e ce e2) hg (sws_no (by simpa using hs)) (ss_none ?_) rfl
      split
      · rename_i heq _ ; contradiction
      · rename_i heq _; contradiction
      · rfl
theorem sok_all : ∀ n, SOk cc mu cl F k wf n
  | 0 => ⟨fun _ h => by simp [compS] at h, fun _ h => by simp [compA] at h, fun _ h => by simp [compSs] at h⟩
  | n + 1 => ⟨fun c h => compS_succ (sok_all n) c h, fun c h => compA_succ (sok_all n) c h, fun {X W sc st ir} c h => by
      unfold compSs at h
      split at h
      · cases h; exact sss_nil
      · simp only [Option.bind_eq_some_iff, Option.map_eq_some_iff] at h
        obtain ⟨x, e1, xs, e2, rfl⟩ := h
        exact sss_cons ((sok_all n).s c e1) ((sok_all n).ss c e2)⟩
end
end Gv

namespace Gv
open PySem PySem.Spec L2

/-- a def of the text, as the small language has it -/
structure DefOk (K : PySem.W.Frag) (mg : Str → Option Value) (T : List Fn) (fns : List (Str × Nat)) (cons : List (Str × PyData)) (i : Nat) (x : Str) (n : Nat) : Prop where
  ex : ∃ (f : Addr) (fd : FuncData) (qual : Str) (params : Arguments) (body : List Stmt) (scope : Scope) (N ps mu : List Str) (fuel : Nat) (fn : Fn),
    mg x = some (.ref f) ∧ FunD K x qual params body scope [] [] f fd ∧ FnScope N ps scope ∧ Binds K fd ps [] ∧ T[i]? = some fn ∧ fn.ps = ps.length ∧ ps.length = n ∧ fn.n = N.length ∧ compSs ⟨N, fns, cons⟩ mu fuel scope body = some fn.body
section
variable {P : Program} {w : World} {K : PySem.W.Frag} {mg : Str → Option Value} {base : Heap} {cl : Nat → Addr} {T : List Fn} {fns : List (Str × Nat)} {cons : List (Str × PyData)} {sub : Nat → Nat → Bool} {wf : Nat}
/-- the callees keep their promises at level k -/
abbrev FnsOk (P : Program) (w : World) (K : PySem.W.Frag) (mg : Str → Option Value) (base : Heap) (cl : Nat → Addr) (T : List Fn) (fns : List (Str × Nat)) (sub : Nat → Nat → Bool) (wf k : Nat) : Prop :=
  ∀ (i : Nat) (x : Str) (n : Nat), fns[i]? = some (x, n) → ∃ f fd ps, mg x = some (.ref f) ∧ PySem.W.keepIn K (.ref f) = true ∧ Binds K fd ps [] ∧ FnOk P w K mg base (L2.CX P w) k f fd ps (spF K cl n (callF T sub wf k i))
theorem def_fn {k i : Nat} {x qual : Str} {params : Arguments} {body : List Stmt} {scope : Scope} {f : Addr} {fd : FuncData} {N ps mu : List Str} {fuel : Nat} {fn : Fn} (ih : FnsOk P w K mg base cl T fns sub wf k) (hb : ∀ x ∈ bNames, mg x = none)
    (hc : ∀ (x : Str) (d : PyData), cons.lookup x = some d → ∃ u v, mg x = some u ∧ RelV v u ∧ ∀ B r H, DR K B r H v d)
    (F : FunD K x qual params body scope [] [] f fd) (S : FnScope N ps scope) (hT : T[i]? = some fn) (e1 : fn.ps = ps.length) (e3 : fn.n = N.length) (hcmp : compSs ⟨N, fns, cons⟩ mu fuel scope body = some fn.body) :
    FnOk P w K mg base (L2.CX P w) (k + 1) f fd ps (spF K cl ps.length (callF T sub wf (k + 1) i)) := by
  obtain ⟨oc, od, dV, kV, doc, pm, an, cdv, ct, osl, rfl, lk, hcd, _, _⟩ := F.ex
  refine fn_ok (N := N) (kp := fn.keep) (gb := evSs ⟨callF T sub wf k, sub⟩ wf fn.body) lk hcd S (fun vs M hl => ?_) fun A outer s H E hr => ?_
  · show (match T[i]? with
      | none => R.bad
      | some fn => if vs.length = fn.ps then finB fn.keep M.length (evSs ⟨callF T sub wf k, sub⟩ wf fn.body (enter fn vs) M) else .bad) = _
    rw [hT]
    dsimp only
    rw [if_pos (by rw [hl, e1])]
    unfold enter
    rw [e3]
  · refine (sok_all (cc := ⟨N, fns, cons⟩) (mu := mu) (k := k) fuel).ss ?_ hcmp
    exact { n := rfl, nd := S.nd, sc := rfl, calm := rfl, tk := takes_of rfl rfl rfl rfl, room := hr, blt := hb, fns := fun i x n h => ih i x n h, cons := hc, po := passes_of rfl, fn := fun _ => rfl }
theorem prog_ok (hF : ∀ i x n, fns[i]? = some (x, n) → DefOk K mg T fns cons i x n) (hb : ∀ x ∈ bNames, mg x = none) (hc : ∀ (x : Str) (d : PyData), cons.lookup x = some d → ∃ u v, mg x = some u ∧ RelV v u ∧ ∀ B r H, DR K B r H v d) :
    ∀ k, FnsOk P w K mg base cl T fns sub wf k
  | 0, i, x, n, h => by
    obtain ⟨f, fd, qual, params, body, scope, N, ps, mu, fuel, fn, h1, F, S, hbd, hT, e1, e2, e3, hcmp⟩ := (hF i x n h).ex
    refine ⟨f, fd, ps, h1, F.kp, hbd, fun vs H Q E q => by rw [q.1, e2], fun A outer s H args us vs Q E hr e0 hb' r q => ?_⟩
    obtain ⟨_, B, r', M, vs', R, hv, o⟩ := q
    exact o.elim
  | k + 1, i, x, n, h => by
    obtain ⟨f, fd, qual, params, body, scope, N, ps, mu, fuel, fn, h1, F, S, hbd, hT, e1, e2, e3, hcmp⟩ := (hF i x n h).ex
    refine ⟨f, fd, ps, h1, F.kp, hbd, ?_⟩
    rw [← e2]
    exact def_fn (prog_ok hF hb hc k) hb hc F S hT e1 e3 hcmp
/-- what any world lets out of a def -/
def CXa (P : Program) : CXT := fun outer H s E u s' => ∃ w, L2.CX P w outer H s E u s'
theorem cr_any {f : Addr} {fd : FuncData} {k : Nat} {ps : List Str} {sp : Sp} (h : FnOk P w K mg base (L2.CX P w) k f fd ps sp) : FnOk P w K mg base (CXa P) k f fd ps sp := by
  refine ⟨h.len, fun A outer s H args us vs Q E hr e0 hb r q => codeAny_mono (h.run A outer s H args us vs Q E hr e0 hb r q) fun res s' hres => ?_⟩
  cases res with
  | error e => exact ⟨w, hres⟩
  | ok fl =>
    cases fl with
    | ret u => exact hres
    | next => exact hres
    | brk => exact hres
    | cont => exact hres
theorem cx_no (H : Hp) (s : Shared) (e : Value) (s' : Shared) (h : CXa P [] H s (fun _ _ _ => False) e s') : False := by
  obtain ⟨w, h⟩ := h
  obtain ⟨a, B, H', cls, d, h⟩ := h
  exact h.2.2.2.2.2.2.2
theorem law_sp {n : Nat} {g : List Val → Store → R Val} (hg : ∀ ns : List Int, ns.length ≤ n → ∃ M', g [.scr ns] [] = .ok (.d (.bool true)) M') (H : Hp) (a : Addr) (ns : List Int) (hl : ns.length ≤ n) (hS : SqL K H a (ns.map V.int)) :
    spF K cl 1 g [.ref a] H (fun v _ => v = .bl true) (fun _ _ _ => False) := by
  refine ⟨rfl, [], [], [], [.scr ns], ⟨rfl, List.nodup_nil, fun a h => by simp at h, fun a h => by simp at h, fun n c a e => by simp at e⟩, .cons (.scr ?_) .nil, ?_⟩
  · rcases hS with h | h
    · exact .inl ⟨h, by simp, by simp⟩
    · exact .inr fun H' => .inr h
  · obtain ⟨M', e⟩ := hg ns hl
    rw [e]
    exact fun u H' r' g R v => v.bool
end
inductive AllD (K : PySem.W.Frag) (mg : Str → Option Value) (T : List Fn) (fns : List (Str × Nat)) (cons : List (Str × PyData)) : Nat → List (Str × Nat) → Prop
  | nil {i : Nat} : AllD K mg T fns cons i []
  | cons {i : Nat} {x : Str} {n : Nat} {r : List (Str × Nat)} : DefOk K mg T fns cons i x n → AllD K mg T fns cons (i + 1) r → AllD K mg T fns cons i ((x, n) :: r)
inductive ConsOk (K : PySem.W.Frag) (mg : Str → Option Value) : List (Str × PyData) → Prop
  | nil : ConsOk K mg []
  | cons {x : Str} {d : PyData} {r : List (Str × PyData)} : (∃ u v, mg x = some u ∧ RelV v u ∧ ∀ B r H, DR K B r H v d) → ConsOk K mg r → ConsOk K mg ((x, d) :: r)
section
variable {P : Program} {w : World} {K : PySem.W.Frag} {mg : Str → Option Value} {base : Heap} {cl : Nat → Addr} {T : List Fn} {fns : List (Str × Nat)} {cons : List (Str × PyData)} {sub : Nat → Nat → Bool} {wf : Nat} {h : Heap}
theorem AllD.get : ∀ {r : List (Str × Nat)} {b : Nat}, AllD K mg T fns cons b r → ∀ i x n, r[i]? = some (x, n) → DefOk K mg T fns cons (b + i) x n
  | _, _, .nil, i, x, n, e => by simp at e
  | _, _, .cons d t, 0, x, n, e => by simp at e; obtain ⟨rfl, rfl⟩ := e; exact d
  | _, b, .cons d t, i + 1, x, n, e => by
    have := AllD.get t i x n (by simpa using e)
    rw [Nat.add_right_comm] at this
    exact this
theorem ConsOk.get : ∀ {r : List (Str × PyData)}, ConsOk K mg r → ∀ (x : Str) (d : PyData), r.lookup x = some d → ∃ u v, mg x = some u ∧ RelV v u ∧ ∀ B r H, DR K B r H v d
  | _, .nil, x, d, e => by simp at e
  | _, .cons (x := y) h t, x, d, e => by
    rw [List.lookup_cons] at e
    by_cases q : x == y
    · simp only [q] at e
      cases e
      rw [eq_of_beq q]
      exact h
    · simp only [q] at e
      exact ConsOk.get t x d e
theorem cons_int (X : K.In h) (G : h.Ns mainGlobals mg) {x : Str} {i : Int} (c : (He.Fa.int x i).ok K = true) : ∃ u v, mg x = some u ∧ RelV v u ∧ ∀ B r H, DR K B r H v (.int i) := by
  obtain ⟨t, e⟩ := He.int_ok X G c
  exact ⟨_, .int i, e, ⟨t, rfl⟩, fun _ _ _ => .int i⟩
theorem cons_str (X : K.In h) (G : h.Ns mainGlobals mg) {x z : Str} (c : (He.Fa.str x z).ok K = true) : ∃ u v, mg x = some u ∧ RelV v u ∧ ∀ B r H, DR K B r H v (.str z) := by
  obtain ⟨t, e⟩ := He.str_ok X G c
  exact ⟨_, .str z, e, ⟨t, rfl⟩, fun _ _ _ => .str z⟩
theorem law_end {i k : Nat} {fa : Addr} {qual : Str} {params : Arguments} {body : List Stmt} {scope : Scope} {N mu : List Str} {fuel : Nat} {fn : Fn} {fd : FuncData} (KX : K.In h) (F : FunD K "law" qual params body scope [] [] fa fd)
    (hbd : ∀ (s : Shared) (u : Value), BindsTo s fd ⟨[u], []⟩ [("script", u)]) (S : FnScope N ["script"] scope) (hT : T[i]? = some fn) (e1 : fn.ps = 1) (e3 : fn.n = N.length) (hcmp : compSs ⟨N, fns, cons⟩ mu fuel scope body = some fn.body)
    (hd : AllD K mg T fns cons 0 fns) (hb : ∀ x ∈ bNames, mg x = none) (hc : ConsOk K mg cons) (cl : Nat → Addr)
    (main : ∀ ns : List Int, ns.length ≤ 63 → ∃ M', callF T sub wf (k + 1) i [.scr ns] [] = .ok (.d (.bool true)) M') :
    ∃ (K' : PySem.W.Frag) (fd : FuncData) (sp : Sp), K'.In h ∧ (∀ (s : Shared) (u : Value), BindsTo s fd ⟨[u], []⟩ [("script", u)]) ∧
      (∀ (H : Hp) (a : Addr) (ns : List Int), ns.length ≤ 63 → Only H → SqL K' H a (ns.map V.int) → sp [.ref a] H (fun v _ => v = .bl true) fun _ _ _ => False) ∧
      ∀ base : Heap, K'.In base → base.Ns mainGlobals mg → FnOk P w K' mg base (CXa P) (k + 1) fa fd ["script"] sp := by
  refine ⟨K, fd, _, KX, hbd, fun H a ns hl _ hS => law_sp (cl := cl) main H a ns hl hS, fun base _ _ => cr_any ?_⟩
  exact def_fn (ps := ["script"]) (prog_ok (fun i x n e => by simpa using hd.get i x n e) hb hc.get k) hb hc.get F S hT e1 e3 hcmp
end
end Gv

namespace Gv
open PySem

theorem bind_k {α β : Type} (a : α) (M : Store) (f : α → Store → R β) : (R.ok a M).bind f = f a M := (rfl)
theorem toS_k (a : Val) (M : Store) (s : Slots) (f : Val → Store → SR) : (R.ok a M).toS s f = f a M := (rfl)
theorem ofOpt_k {α : Type} (a : α) (M : Store) : ofOpt (some a) M = .ok a M := (rfl)
/-! ### one expression at a time -/
section
variable {F : FEnv} {s : Slots} {M : Store}
def lcE (F : FEnv) (c e : IE) (tg : Tg) (s : Slots) (vs : List Val) (M : Store) : R (List Val) := lcL (evE F c) (evE F e) tg s vs M
theorem ev_lit (x : PyData) : evE F (.lit x) s M = .ok (.d x) M := (rfl)
theorem ev_var (i : Nat) : evE F (.var i) s M = (match s[i]? with | some (some v) => .ok v M | _ => .bad) := (rfl)
theorem ev_bin (al : Bool) (op : Operator) (a b : IE) : evE F (.bin al op a b) s M = (evE F a s M).bind fun x M => (evE F b s M).bind fun y M => binD al M op x y := (rfl)
theorem ev_neg (a : IE) : evE F (.neg a) s M = (evE F a s M).bind fun x M => (match x with | .d (.int i) => .ok (.d (.int (-i))) M | _ => .bad) := (rfl)
theorem ev_not (a : IE) : evE F (.not a) s M = (evE F a s M).bind fun x M => (match x with | .d (.bool b) => bl (!b) M | _ => .bad) := (rfl)
theorem ev_and (a b : IE) : evE F (.and a b) s M = (evE F a s M).bind fun x M => brV x M (fun M => evE F b s M) (fun M => bl false M) := (rfl)
theorem ev_or (a b : IE) : evE F (.or a b) s M = (evE F a s M).bind fun x M => brV x M (fun M => bl true M) (fun M => evE F b s M) := (rfl)
theorem ev_cmp (op : CmpOp) (a b : IE) : evE F (.cmp op a b) s M = (evE F a s M).bind fun x M => (evE F b s M).bind fun y M => cmpD M op x y := (rfl)
theorem ev_chain (op op' : CmpOp) (a b c : IE) : evE F (.chain op op' a b c) s M = (evE F a s M).bind fun x M => (evE F b s M).bind fun y M => (cmpD M op x y).bind fun z M => brV z M (fun M => (evE F c s M).bind fun w M => cmpD M op' y w) (fun M => bl false M) := (rfl)
theorem ev_ifx (c a b : IE) : evE F (.ifx c a b) s M = (evE F c s M).bind fun x M => brV x M (fun M => evE F a s M) (fun M => evE F b s M) := (rfl)
theorem ev_tup (es : List IE) : evE F (.tup es) s M = (evEs F es s M).bind fun vs M => (match allD vs with | some ds => .ok (.d (.tuple ds)) M | none => .bad) := (rfl)
theorem ev_lst (al : Bool) (es : List IE) : evE F (.lst al es) s M = (evEs F es s M).bind fun vs M => mkLV al vs M := (rfl)
theorem ev_idx (a i : IE) : evE F (.idx a i) s M = (evE F a s M).bind fun x M => (evE F i s M).bind fun y M => idxD M x y := (rfl)
theorem ev_toI (a : IE) : evE F (.toI a) s M = (evE F a s M).bind fun v M => (match v with | .d (.int i) => .ok (.d (.int i)) M | _ => .bad) := (rfl)
theorem ev_sl (al : Bool) (a lo hi : IE) : evE F (.sl al a lo hi) s M = (evE F a s M).bind fun x M => (evE F lo s M).bind fun l M => (ofOpt (part l) M).bind fun l M => (evE F hi s M).bind fun h M => (ofOpt (part h) M).bind fun h M => slD al M x l h := (rfl)
theorem ev_rev (al : Bool) (a : IE) : evE F (.rev al a) s M = (evE F a s M).bind fun x M => revD al M x := (rfl)
theorem ev_bi (al : Bool) (f : Bf) (es : List IE) : evE F (.bi al f es) s M = (evEs F es s M).bind fun vs M => biD al f vs M := (rfl)
theorem ev_isi (a : IE) (t : Ty) : evE F (.isi a t) s M = (evE F a s M).bind fun x M => (match isiD F.sub M x t with | some b => bl b M | none => .bad) := (rfl)
theorem ev_call (f : Nat) (es : List IE) : evE F (.call f es) s M = (evEs F es s M).bind fun vs M => callV F f vs M := (rfl)
theorem ev_lc (al : Bool) (own : List Nat) (tg : Tg) (it c e : IE) : evE F (.lc al own tg it c e) s M = (evI F it s M).bind fun vs M => (lcE F c e tg (wipe s own) vs M).bind fun ys M => mkLV al ys M := (rfl)
theorem ev_mt (m : Mt) (o : IE) (es : List IE) : evE F (.mt m o es) s M = (evE F o s M).bind fun x M => if isLst M x then (evEs F es s M).bind fun vs M => mtD m x vs M else .bad := (rfl)
def lrS (al : Bool) (o : Option (List PyData)) (M : Store) : R Val := match o with | some ds => mkL al ds M | none => .bad
theorem lrS_ok (al : Bool) (ds : List PyData) (M : Store) : lrS al (some ds) M = mkL al ds M := (rfl)
theorem ev_lrng (al : Bool) (es : List IE) : evE F (.lrng al es) s M = (evEs F es s M).bind fun vs M => lrS al ((rngD vs).bind allD) M := (rfl)
theorem evs_nil : evEs F [] s M = .ok [] M := (rfl)
theorem evs_cons (e : IE) (es : List IE) : evEs F (e :: es) s M = (evE F e s M).bind fun v M => (evEs F es s M).bind fun vs M => .ok (v :: vs) M := (rfl)
theorem evi_rng (es : List IE) : evI F (.rng es) s M = (evEs F es s M).bind fun vs M => ofOpt (rngD vs) M := (rfl)
theorem evi_seq (a : IE) : evI F (.seq a) s M = (evE F a s M).bind fun v M => ofOpt (seqD v) M := (rfl)
theorem evi_enum (a : IE) : evI F (.enum a) s M = (evE F a s M).bind fun v M => ofOpt (enumD v) M := (rfl)
theorem evi_zip (a b : IE) : evI F (.zip a b) s M = (evE F a s M).bind fun v M => (evE F b s M).bind fun w M => ofOpt (zipD v w) M := (rfl)
/-- a slot -/
theorem slot_ok {v : Val} {i : Nat} (h : s[i]? = some (some v)) : evE F (.var i) s M = .ok v M := by rw [ev_var, h]
end
local macro_rules | `(tactic| walk_at "ev0") => `(tactic| simp only [ev_lit, ev_var])
/-! ### operations, one by one -/
section
variable {M : Store} {al : Bool} {i j : Int} {a b : Bool} {x y : Val} {xs ys : List PyData} {z : Str}
theorem add_ii : binD al M .Add (.d (.int i)) (.d (.int j)) = .ok (.d (.int (i + j))) M := (rfl)
theorem sub_ii : binD al M .Sub (.d (.int i)) (.d (.int j)) = .ok (.d (.int (i - j))) M := (rfl)
theorem mul_ii (h : mulOk i j = true) : binD al M .Mult (.d (.int i)) (.d (.int j)) = .ok (.d (.int (i * j))) M := by
  show (if mulOk i j then R.ok (Val.d (.int (i * j))) M else .bad) = _
  rw [if_pos h]
theorem div_ii (h0 : 0 < j) (h1 : j < bigB) : binD al M .FloorDiv (.d (.int i)) (.d (.int j)) = .ok (.d (.int (i / j))) M := by
  show (if decide (0 < j) && decide (j < bigB) then R.ok (Val.d (.int (i / j))) M else .bad) = _
  rw [if_pos (by simp [h0, h1])]
theorem mod_ii (h0 : 0 < j) : binD al M .Mod (.d (.int i)) (.d (.int j)) = .ok (.d (.int (i % j))) M := by
  show (if 0 < j then R.ok (Val.d (.int (i % j))) M else .bad) = _
  rw [if_pos h0]
theorem pow_ii (h0 : 0 ≤ j) (h1 : j ≤ 1000) (h2 : i.natAbs ≤ 1000) : binD al M .Pow (.d (.int i)) (.d (.int j)) = .ok (.d (.int (i ^ j.toNat))) M := by
  show (if decide (0 ≤ j) && decide (j ≤ 1000) && decide (i.natAbs ≤ 1000) then R.ok (Val.d (.int (i ^ j.toNat))) M else .bad) = _
  rw [if_pos (by simp [h0, h1, h2])]
theorem add_tt (h : xs.length + ys.length ≤ lim) : binD al M .Add (.d (.tuple xs)) (.d (.tuple ys)) = .ok (.d (.tuple (xs ++ ys))) M := by
  show (if xs.length + ys.length ≤ lim then R.ok (Val.d (.tuple (xs ++ ys))) M else .bad) = _
  rw [if_pos h]
theorem add_ll (h : xs.length + ys.length ≤ lim) : binD al M .Add (.d (.list xs)) (.d (.list ys)) = mkL al (xs ++ ys) M := by
  show (if xs.length + ys.length ≤ lim then mkL al (xs ++ ys) M else .bad) = _
  rw [if_pos h]
theorem lt_ii : cmpD M .Lt (.d (.int i)) (.d (.int j)) = bl (decide (i < j)) M := (rfl)
theorem le_ii : cmpD M .LtE (.d (.int i)) (.d (.int j)) = bl (decide (i ≤ j)) M := (rfl)
theorem gt_ii : cmpD M .Gt (.d (.int i)) (.d (.int j)) = bl (decide (j < i)) M := (rfl)
theorem ge_ii : cmpD M .GtE (.d (.int i)) (.d (.int j)) = bl (decide (j ≤ i)) M := (rfl)
theorem eqD_int {M : Store} {a b : Int} : eqD M (.d (.int a)) (.d (.int b)) = some (decide (a = b)) := by
  simp [eqD, okD, PyData.eqv]
  exact Bool.beq_eq_decide_eq a b
theorem eq_ii : cmpD M .Eq (.d (.int i)) (.d (.int j)) = bl (decide (i = j)) M := by
  show (match eqD M (.d (.int i)) (.d (.int j)) with | some b => bl b M | none => .bad) = _
  rw [eqD_int]
theorem ne_ii : cmpD M .NotEq (.d (.int i)) (.d (.int j)) = bl (decide (¬ i = j)) M := by
  show (match eqD M (.d (.int i)) (.d (.int j)) with | some b => bl (!b) M | none => .bad) = _
  rw [eqD_int]
  simp
theorem is_none : cmpD M .Is x (.d .none) = bl (isNone x) M := by
  show (match x, (.d .none : Val) with | x, .d .none => bl (isNone x) M | .d (.bool a), .d (.bool b) => bl (decide (a = b)) M | _, _ => .bad) = _
  rfl
theorem isnot_none : cmpD M .IsNot x (.d .none) = bl (!isNone x) M := (rfl)
theorem is_bb : cmpD M .Is (.d (.bool a)) (.d (.bool b)) = bl (decide (a = b)) M := (rfl)
theorem isnot_bb : cmpD M .IsNot (.d (.bool a)) (.d (.bool b)) = bl (!decide (a = b)) M := (rfl)
theorem len_t : biD al .len [.d (.tuple xs)] M = .ok (.d (.int xs.length)) M := (rfl)
theorem len_l : biD al .len [.d (.list xs)] M = .ok (.d (.int xs.length)) M := (rfl)
theorem tuple_l : biD al .tuple [.d (.list xs)] M = .ok (.d (.tuple xs)) M := (rfl)
theorem tuple_t : biD al .tuple [.d (.tuple xs)] M = .ok (.d (.tuple xs)) M := (rfl)
theorem list_l : biD al .list [.d (.list xs)] M = mkL al xs M := (rfl)
theorem list_t : biD al .list [.d (.tuple xs)] M = mkL al xs M := (rfl)
theorem int_i : biD al .int [.d (.int i)] M = .ok (.d (.int i)) M := (rfl)
theorem int_b : biD al .int [.d (.bool a)] M = .ok (.d (.int (if a then 1 else 0))) M := (rfl)
theorem min_ii : biD al .min2 [.d (.int i), .d (.int j)] M = .ok (.d (.int (if j < i then j else i))) M := (rfl)
theorem max_ii : biD al .max2 [.d (.int i), .d (.int j)] M = .ok (.d (.int (if j > i then j else i))) M := (rfl)
theorem idx_t {v : PyData} (h : atI xs i = some v) : idxD M (.d (.tuple xs)) (.d (.int i)) = .ok (.d v) M := by
  show (match atI xs i with | some v => R.ok (Val.d v) M | none => .bad) = _
  rw [h]
theorem idx_l {v : PyData} (h : atI xs i = some v) : idxD M (.d (.list xs)) (.d (.int i)) = .ok (.d v) M := by
  show (match atI xs i with | some v => R.ok (Val.d v) M | none => .bad) = _
  rw [h]
theorem rev_t : revD al M (.d (.tuple xs)) = .ok (.d (.tuple xs.reverse)) M := (rfl)
theorem seq_l : seqD (.d (.list xs)) = some (xs.map .d) := (rfl)
theorem seq_t : seqD (.d (.tuple xs)) = some (xs.map .d) := (rfl)
theorem tup_d (h : allD ys' = some xs) : (match allD ys' with | some ds => R.ok (Val.d (.tuple ds)) M | none => .bad) = .ok (.d (.tuple xs)) M := by rw [h]
theorem at_in {α : Type} {l : List α} {d : α} (h0 : 0 ≤ i) (h1 : i < l.length) : atI l i = some (l.getD i.toNat d) := by
  unfold atI ixN
  rw [if_pos h0, if_pos h1]
  have h3 : i.toNat < l.length := by omega
  simp [List.getElem?_eq_getElem, h3, List.getD_eq_getElem?_getD]
theorem at_neg {α : Type} {l : List α} {d : α} (h0 : i < 0) (h1 : -(l.length : Int) ≤ i) : atI l i = some (l.getD (i + l.length).toNat d) := by
  unfold atI ixN
  rw [if_neg (by omega), if_pos h1]
  have h3 : (i + l.length).toNat < l.length := by omega
  simp [List.getElem?_eq_getElem, h3, List.getD_eq_getElem?_getD]
end
/-! ### one statement at a time -/
section
variable {F : FEnv} {wf : Nat} {s : Slots} {M : Store} {r : List IS}
theorem ss0 : evSs F wf [] s M = .next s M := (rfl)
theorem ss_app0 (a b : List IS) (s : Slots) (M : Store) : evSs F wf (a ++ b) s M = (match evSs F wf a s M with | .next s1 M1 => evSs F wf b s1 M1 | x => x) := by
  induction a generalizing s M with
  | nil => rfl
  | cons st a ih =>
    show (match evS F wf st s M with | .next s1 M1 => evSs F wf (a ++ b) s1 M1 | x => x) = _
    show _ = (match (match evS F wf st s M with | .next s1 M1 => evSs F wf a s1 M1 | x => x) with | .next s1 M1 => evSs F wf b s1 M1 | x => x)
    cases evS F wf st s M with
    | next s1 M1 => exact ih s1 M1
    | _ => rfl
def cont (F : FEnv) (wf : Nat) (r : List IS) (x : SR) : SR := match x with | .next s1 M1 => evSs F wf r s1 M1 | x => x
theorem cont_next (s : Slots) (M : Store) : cont F wf r (.next s M) = evSs F wf r s M := (rfl)
theorem cont_ret (v : Val) (M : Store) : cont F wf r (.ret v M) = .ret v M := (rfl)
theorem cont_exc (c : Nat) (s : Slots) (M : Store) : cont F wf r (.exc c s M) = .exc c s M := (rfl)
theorem ss_asg1 (t : Tg) (e : IE) : evSs F wf (.asg t e :: r) s M = (evE F e s M).toS s fun v M => (match asgT t v s with | some s' => evSs F wf r s' M | none => .bad) := by
  show (match (evE F e s M).toS s (fun v M => (match asgT t v s with | some s' => SR.next s' M | none => .bad)) with | .next s1 M1 => evSs F wf r s1 M1 | x => x) = _
  cases evE F e s M with
  | ok v M1 =>
    simp only [R.toS_ok]
    cases asgT t v s <;> rfl
  | exc c M1 => rfl
  | bad => rfl
theorem ss_expr1 (e : IE) : evSs F wf (.expr e :: r) s M = (evE F e s M).toS s fun _ M => evSs F wf r s M := by
  show (match (evE F e s M).toS s (fun v M => SR.next s M) with | .next s1 M1 => evSs F wf r s1 M1 | x => x) = _
  cases evE F e s M <;> rfl
theorem ss_ret1 (e : IE) : evSs F wf (.ret e :: r) s M = (evE F e s M).toS s fun v M => .ret v M := by
  show (match (evE F e s M).toS s (fun v M => SR.ret v M) with | .next s1 M1 => evSs F wf r s1 M1 | x => x) = _
  cases evE F e s M <;> rfl
def brS (F : FEnv) (wf : Nat) (a b : List IS) (s : Slots) (x : Val) (M : Store) : SR := match x with | .d (.bool true) => evSs F wf a s M | .d (.bool false) => evSs F wf b s M | _ => .bad
theorem ss_ite1 (c : IE) (a b : List IS) : evSs F wf (.ite c a b :: r) s M = (evE F c s M).toS s fun x M => brS F wf (a ++ r) (b ++ r) s x M := by
  show (match (evE F c s M).toS s (fun x M => (match x with | .d (.bool true) => evSs F wf a s M | .d (.bool false) => evSs F wf b s M | _ => .bad)) with | .next s1 M1 => evSs F wf r s1 M1 | x => x) = _
  cases evE F c s M with
  | exc c M1 => rfl
  | bad => rfl
  | ok v M1 =>
    cases v with
    | d y =>
      cases y with
      | bool q => cases q <;> (simp only [R.toS_ok, brS]; rw [ss_app0])
      | _ => rfl
    | _ => rfl
theorem brS_dec {p : Prop} [Decidable p] {a b : List IS} : brS F wf a b s (.d (.bool (decide p))) M = if p then evSs F wf a s M else evSs F wf b s M := by
  by_cases h : p <;> simp [h, brS]
theorem brS_T {a b : List IS} : brS F wf a b s (.d (.bool true)) M = evSs F wf a s M := (rfl)
theorem brS_F {a b : List IS} : brS F wf a b s (.d (.bool false)) M = evSs F wf b s M := (rfl)
theorem ss_setix1 (o i e : IE) : evSs F wf (.setix o i e :: r) s M = (evE F e s M).toS s fun v M => (evE F o s M).toS s fun x M => (evE F i s M).toS s fun y M => (match x, y with
      | .ref a, .d (.int k) => (match M[a]? with
        | some (.lst vs) => (match ixN vs.length k with | some j => evSs F wf r s (M.set a (.lst (vs.set j v))) | none => .bad)
        | _ => .bad)
      | _, _ => .bad) := by
  show cont F wf r (evS F wf (.setix o i e) s M) = _
  unfold evS
  cases evE F e s M with
  | exc c M1 => rfl
  | bad => rfl
  | ok v M1 =>
    simp only [R.toS_ok]
    cases evE F o s M1 with
    | exc c M1 => rfl
    | bad => rfl
    | ok x M2 =>
      simp only [R.toS_ok]
      cases evE F i s M2 with
      | exc c M1 => rfl
      | bad => rfl
      | ok y M3 =>
        simp only [R.toS_ok]
        cases x with
        | ref a =>
          cases y with
          | d q =>
            cases q with
            | int k =>
              dsimp only
              cases M3[a]? with
              | none => rfl
              | some c =>
                cases c with
                | lst vs => dsimp only; cases ixN vs.length k <;> rfl
                | _ => rfl
            | _ => rfl
          | _ => rfl
        | _ => rfl
def forS (F : FEnv) (wf : Nat) (r : List IS) (t : Tg) (b : List IS) (s : Slots) (x : R (List Val)) : SR := match x with
      | .ok vs M => cont F wf r (forL (evSs F wf b) t vs s M)
      | .exc c M => .exc c s M
      | .bad => .bad
theorem forS_ok (t : Tg) (b : List IS) (vs : List Val) : forS F wf r t b s (.ok vs M) = cont F wf r (forL (evSs F wf b) t vs s M) := (rfl)
theorem ss_for1 (t : Tg) (it : IE) (b : List IS) : evSs F wf (.forr t it b :: r) s M = forS F wf r t b s (evI F it s M) := by
  show cont F wf r (evS F wf (.forr t it b) s M) = _
  unfold evS
  cases evI F it s M <;> rfl
end
theorem brV_dec {p : Prop} [Decidable p] {M : Store} {f g : Store → R Val} : brV (.d (.bool (decide p))) M f g = if p then f M else g M := by
  by_cases h : p <;> simp [h, brV]
theorem brV_T {M : Store} {f g : Store → R Val} : brV (.d (.bool true)) M f g = f M := (rfl)
theorem brV_F {M : Store} {f g : Store → R Val} : brV (.d (.bool false)) M f g = g M := (rfl)
theorem bind_ite {α β : Type} {p : Prop} [Decidable p] {a b : R α} {f : α → Store → R β} : (if p then a else b).bind f = if p then a.bind f else b.bind f := by
  by_cases h : p <;> simp [h]
theorem toS_ite {p : Prop} [Decidable p] {a b : R Val} {s : Slots} {f : Val → Store → SR} : (if p then a else b).toS s f = if p then a.toS s f else b.toS s f := by
  by_cases h : p <;> simp [h]
theorem or_dec {p q : Prop} [Decidable p] [Decidable q] {M : Store} : (if p then bl true M else bl (decide q) M) = bl (decide (p ∨ q)) M := by
  by_cases h : p <;> simp [h]
theorem and_dec {p q : Prop} [Decidable p] [Decidable q] {M : Store} : (if p then bl (decide q) M else bl false M) = bl (decide (p ∧ q)) M := by
  by_cases h : p <;> simp [h]
theorem bl_bind {β : Type} {b : Bool} {M : Store} {f : Val → Store → R β} : (bl b M).bind f = f (.d (.bool b)) M := (rfl)
theorem bl_toS {b : Bool} {M : Store} {s : Slots} {f : Val → Store → SR} : (bl b M).toS s f = f (.d (.bool b)) M := (rfl)
theorem not_dec {p : Prop} [Decidable p] : (!decide p) = decide (¬ p) := by simp
theorem fin_ret (n0 : Nat) (v : Val) (M : Store) : fin n0 (.ret v M) = exitV n0 v M := (rfl)
theorem fin_next (n0 : Nat) (s : Slots) (M : Store) : fin n0 (.next s M) = exitV n0 (.d .none) M := (rfl)
theorem exit_same {n0 : Nat} {x : PyData} {M : Store} (h : M.length = n0) : exitV n0 (.d x) M = .ok (.d x) M := by
  unfold exitV
  subst h
  simp
theorem asg_one (i : Nat) (v : Val) (s : Slots) : asgT (.one i) v s = some (s.set i (some v)) := (rfl)
theorem asg_many (is : List Nat) (xs : List PyData) (s : Slots) : asgT (.many is) (.d (.tuple xs)) s = setAll is (xs.map .d) s := (rfl)
theorem setAll_n (s : Slots) : setAll [] (([] : List PyData).map .d) s = some s := (rfl)
theorem setAll_c (i : Nat) (is : List Nat) (x : PyData) (xs : List PyData) (s : Slots) : setAll (i :: is) ((x :: xs).map .d) s = setAll is (xs.map .d) (s.set i (some (.d x))) := (rfl)
theorem wipe_n (s : Slots) : wipe s [] = s := (rfl)
theorem wipe_c (s : Slots) (v : Nat) (vs : List Nat) : wipe s (v :: vs) = (wipe s vs).set v none := (rfl)
theorem exit_any (n0 : Nat) (x : PyData) (M : Store) : ∃ M', exitV n0 (.d x) M = .ok (.d x) M' := by
  unfold exitV
  by_cases h : (M.take n0).all (Cell.below n0) = true
  · rw [if_pos h]
    exact ⟨_, rfl⟩
  · rw [if_neg h]
    exact ⟨_, rfl⟩
theorem call_fn {T : List Fn} {sub : Nat → Nat → Bool} {wf k f : Nat} {vs : List Val} {M : Store} {fn : Fn} (h : T[f]? = some fn) (hl : vs.length = fn.ps) (hk : fn.keep = false := by rfl) :
    callF T sub wf (k + 1) f vs M = fin M.length (evSs ⟨callF T sub wf k, sub⟩ wf fn.body (enter fn vs) M) := by
  show (match T[f]? with | none => R.bad | some fn => if vs.length = fn.ps then finB fn.keep M.length (evSs ⟨callF T sub wf k, sub⟩ wf fn.body (enter fn vs) M) else .bad) = _
  rw [h]
  dsimp only
  rw [if_pos hl, hk]
  rfl
theorem call_fnK {T : List Fn} {sub : Nat → Nat → Bool} {wf k f : Nat} {vs : List Val} {M : Store} {fn : Fn} (h : T[f]? = some fn) (hl : vs.length = fn.ps) (hk : fn.keep = true := by rfl) :
    callF T sub wf (k + 1) f vs M = finK (evSs ⟨callF T sub wf k, sub⟩ wf fn.body (enter fn vs) M) := by
  show (match T[f]? with | none => R.bad | some fn => if vs.length = fn.ps then finB fn.keep M.length (evSs ⟨callF T sub wf k, sub⟩ wf fn.body (enter fn vs) M) else .bad) = _
  rw [h]
  dsimp only
  rw [if_pos hl, hk]
  rfl
theorem finK_ret (v : Val) (M : Store) : finK (.ret v M) = .ok v M := (rfl)
/-- a call with data alone -/
theorem callV_d {F : FEnv} {f : Nat} {ds : List PyData} {M : Store} {d : PyData} (h : F.call f (ds.map .d) [] = .ok (.d d) []) : callV F f (ds.map .d) M = .ok (.d d) M := by
  unfold callV
  rw [allD_map]
  simp only [h, Val.shift, List.map_nil, List.append_nil]
theorem lc_map {cond elt : Slots → Store → R Val} {s : Slots} {i : Nat} {M : Store} {f : Val → Val} : ∀ {vs : List Val}, (∀ v ∈ vs, cond (s.set i (some v)) M = .ok (.d (.bool true)) M) → (∀ v ∈ vs, elt (s.set i (some v)) M = .ok (f v) M) → lcL cond elt (.one i) s vs M = .ok (vs.map f) M
  | [], _, _ => rfl
  | v :: vs, h1, h2 => by
    unfold lcL
    simp only [asgT]
    rw [h1 v (by simp)]
    dsimp only
    rw [h2 v (by simp)]
    simp only [R.noexc_ok, R.bind_ok]
    rw [lc_map (fun w hw => h1 w (by simp [hw])) (fun w hw => h2 w (by simp [hw]))]
    rfl
theorem lc_mapE {F : FEnv} {c e : IE} {s : Slots} {i : Nat} {M : Store} {f : Val → Val} {vs : List Val} (h1 : ∀ v ∈ vs, evE F c (s.set i (some v)) M = .ok (.d (.bool true)) M) (h2 : ∀ v ∈ vs, evE F e (s.set i (some v)) M = .ok (f v) M) : lcE F c e (.one i) s vs M = .ok (vs.map f) M := by
  unfold lcE
  exact lc_map h1 h2
theorem for_inv {body : Slots → Store → SR} {tg : Tg} (P : Slots → Store → Prop) : ∀ {vs : List Val} {s : Slots} {M : Store}, (∀ v ∈ vs, ∀ s M, P s M → ∃ s1 s' M', asgT tg v s = some s1 ∧ body s1 M = .next s' M' ∧ P s' M') → P s M → ∃ s' M', forL body tg vs s M = .next s' M' ∧ P s' M'
  | [], s, M, _, p => ⟨s, M, rfl, p⟩
  | v :: vs, s, M, h, p => by
    obtain ⟨s1, s2, M2, e1, e2, p2⟩ := h v (by simp) s M p
    obtain ⟨s3, M3, e3, p3⟩ := for_inv P (vs := vs) (s := s2) (M := M2) (fun w hw => h w (by simp [hw])) p2
    refine ⟨s3, M3, ?_, p3⟩
    unfold forL
    rw [e1]
    dsimp only
    rw [e2]
    exact e3
theorem mkLV_d {al : Bool} {xs : List PyData} {M : Store} : mkLV al (xs.map .d) M = mkL al xs M := by
  unfold mkLV
  rw [allD_map]
theorem mkL_F {xs : List PyData} {M : Store} : mkL false xs M = .ok (.d (.list xs)) M := (rfl)
theorem mkL_T {xs : List PyData} {M : Store} : mkL true xs M = .ok (.ref M.length) (M ++ [.lst (xs.map .d)]) := (rfl)
theorem mkLV_T {vs : List Val} {M : Store} : mkLV true vs M = .ok (.ref M.length) (M ++ [.lst vs]) := by
  unfold mkLV
  cases h : allD vs with
  | none => rfl
  | some ds =>
    have e : vs = ds.map .d := by
      induction vs generalizing ds with
      | nil => simp [allD] at h; subst h; rfl
      | cons v vs ih =>
        cases v with
        | d x =>
          simp only [allD] at h
          cases h2 : allD vs with
          | none => rw [h2] at h; simp at h
          | some es => rw [h2] at h; simp at h; subst h; simp [← ih es h2]
        | _ => simp [allD] at h
    subst e
    rfl
theorem mkLV_Fd {vs : List Val} {M : Store} : mkLV false vs M = (match allD vs with | some ds => .ok (.d (.list ds)) M | none => .ok (.ref M.length) (M ++ [.lst vs])) := (rfl)
theorem allD_cons_d (x : PyData) (r : List Val) : allD (.d x :: r) = (allD r).map (x :: ·) := (rfl)
theorem allD_nil : allD [] = some [] := (rfl)
theorem allD_cons_r (n : Nat) (r : List Val) : allD (.ref n :: r) = none := (rfl)
theorem allD3 (a b c : PyData) : allD [.d a, .d b, .d c] = some [a, b, c] := (rfl)
theorem allD2 (a b : PyData) : allD [.d a, .d b] = some [a, b] := (rfl)
theorem allD1 (a : PyData) : allD [.d a] = some [a] := (rfl)
theorem callV_r {F : FEnv} {f n : Nat} {r : List Val} {M : Store} : callV F f (.ref n :: r) M = F.call f (.ref n :: r) M := (rfl)
theorem callV_dd {F : FEnv} {f : Nat} {vs : List Val} {ds : List PyData} {M : Store} {d : PyData} (hd : allD vs = some ds) (h : F.call f vs [] = .ok (.d d) []) : callV F f vs M = .ok (.d d) M := by
  unfold callV
  rw [hd]
  simp only [h, Val.shift, List.map_nil, List.append_nil]
theorem upTo_length (i : Int) (n : Nat) : (upTo i n).length = n := by simp [upTo]
theorem mem_upTo {i : Int} {n : Nat} {v : Val} (h : v ∈ upTo i n) : ∃ k : Nat, k < n ∧ v = .d (.int (i + (k : Int))) := by
  unfold upTo at h
  simp only [List.mem_map, List.mem_range] at h
  obtain ⟨k, h1, h2⟩ := h
  exact ⟨k, h1, h2.symm⟩
theorem rng1_ok {n : Int} (h : n < 16777216) (h2 : -4611686018427387904 ≤ n) : rngD [.d (.int n)] = some (upTo 0 n.toNat) := by
  unfold rngD
  have e1 : ((2 : Int) ^ 24) = 16777216 := by decide
  have e2 : (-(2 : Int) ^ 62) = -4611686018427387904 := by decide
  simp only [e1, h, decide_true, Bool.true_and]
  rw [if_pos (decide_eq_true (by rw [e2]; exact h2))]
mutual
def okDeep : PyData → Bool
  | .list xs => okDeeps xs
  | .tuple xs => okDeeps xs
  | .dict _ => false
  | _ => true
def okDeeps : List PyData → Bool
  | [] => true
  | x :: xs => okDeep x && okDeeps xs
end
mutual
theorem eqv_refl : ∀ d : PyData, (∀ kvs, d ≠ .dict kvs) → okDeep d = true → PyData.eqv d d = true
  | .none, _, _ => by simp [PyData.eqv]
  | .bool b, _, _ => by simp [PyData.eqv]
  | .int i, _, _ => by simp [PyData.eqv]
  | .str x, _, _ => by simp [PyData.eqv]
  | .list xs, _, h => by simp only [PyData.eqv]; exact eqvAll_refl xs (by simpa [okDeep] using h)
  | .tuple xs, _, h => by simp only [PyData.eqv]; exact eqvAll_refl xs (by simpa [okDeep] using h)
  | .dict kvs, h, _ => absurd rfl (h kvs)
theorem eqvAll_refl : ∀ xs : List PyData, okDeeps xs = true → PyData.eqvAll xs xs = true
  | [], _ => by simp [PyData.eqvAll]
  | x :: xs, h => by
    simp only [okDeeps, Bool.and_eq_true] at h
    simp only [PyData.eqvAll, Bool.and_eq_true]
    exact ⟨eqv_refl x (fun kvs e => by subst e; simp [okDeep] at h) h.1, eqvAll_refl xs h.2⟩
end
theorem okDeep_of : ∀ (n : Nat) (d : PyData), okD n d = true → okDeep d = true
  | _, .none, _ => rfl
  | _, .bool _, _ => rfl
  | _, .int _, _ => rfl
  | _, .str _, _ => rfl
  | 0, .list xs, h => by simp [okD] at h
  | 0, .tuple xs, h => by simp [okD] at h
  | n + 1, .list xs, h => by
    have h' : ∀ x ∈ xs, okD n x = true := by simpa [okD, List.all_eq_true] using h
    have : ∀ ys : List PyData, (∀ x ∈ ys, okD n x = true) → okDeeps ys = true := by
      intro ys
      induction ys with
      | nil => intro _; rfl
      | cons y ys ih => intro hy; simp [okDeeps, okDeep_of n y (hy y (by simp)), ih fun x hx => hy x (by simp [hx])]
    exact this xs h'
  | n + 1, .tuple xs, h => by
    have h' : ∀ x ∈ xs, okD n x = true := by simpa [okD, List.all_eq_true] using h
    have : ∀ ys : List PyData, (∀ x ∈ ys, okD n x = true) → okDeeps ys = true := by
      intro ys
      induction ys with
      | nil => intro _; rfl
      | cons y ys ih => intro hy; simp [okDeeps, okDeep_of n y (hy y (by simp)), ih fun x hx => hy x (by simp [hx])]
    exact this xs h'
  | n, .dict _, h => by cases n <;> simp [okD] at h
theorem eqv_self {n : Nat} {d : PyData} (h : okD n d = true) : PyData.eqv d d = true :=
  eqv_refl d (fun kvs e => by subst e; cases n <;> simp [okD] at h) (okDeep_of n d h)
theorem eqD_self {M : Store} {d : PyData} (h : okD 30 d = true) : eqD M (.d d) (.d d) = some true := by
  simp [eqD, h, eqv_self h]
end Gv

namespace Gv
open PySem
theorem frz_map {n0 n : Nat} {M : Store} (ds : List PyData) : (ds.map Val.d).mapM (frz n0 n M) = some ds := by
  induction ds with
  | nil => rfl
  | cons x ds ih =>
    rw [List.map_cons, List.mapM_cons, ih]
    cases n <;> rfl
theorem idx_r {M : Store} {a : Nat} {vs : List Val} {i : Int} {v : Val} (h1 : M[a]? = some (.lst vs)) (h2 : atI vs i = some v) : idxD M (.ref a) (.d (.int i)) = .ok v M := by
  show (match M[a]? with | some (.lst vs) => (match atI vs i with | some v => R.ok v M | none => .bad) | _ => .bad) = _
  rw [h1]
  dsimp only
  rw [h2]
theorem at_last {α : Type} (l : List α) (x : α) : atI (l ++ [x]) (-1) = some x := by
  rw [at_neg (d := x) (by decide) (by simp; omega)]
  have e : (-1 + ((l ++ [x]).length : Int)).toNat = l.length := by simp; omega
  rw [e]
  simp
theorem exit_frz {n0 a : Nat} {M : Store} {ds : List PyData} (h1 : (M.take n0).all (Cell.below n0) = true) (h2 : n0 ≤ a) (h3 : M[a]? = some (.lst (ds.map .d))) : exitV n0 (.ref a) M = .ok (.d (.list ds)) (M.take n0) := by
  unfold exitV
  rw [if_pos h1]
  dsimp only
  rw [if_neg (by omega)]
  have e : frz n0 8 M (.ref a) = some (.list ds) := by
    show (if a < n0 then none else match M[a]? with | some (.lst vs) => (vs.mapM (frz n0 7 M)).map PyData.list | _ => none) = _
    rw [if_neg (by omega), h3]
    dsimp only
    rw [frz_map]
    rfl
  rw [e]
theorem ss_app1 {F : FEnv} {wf : Nat} {s : Slots} {M : Store} {r : List IS} (o e : IE) : evSs F wf (.app o e :: r) s M = (evE F o s M).toS s fun x M => (match x with
      | .ref a => (match M[a]? with
        | some (.lst _) => (evE F e s M).toS s fun v M => (match M[a]? with
          | some (.lst vs) => if vs.length < lim then evSs F wf r s (M.set a (.lst (vs ++ [v]))) else .bad
          | _ => .bad)
        | _ => .bad)
      | _ => .bad) := by
  show cont F wf r (evS F wf (.app o e) s M) = _
  unfold evS
  cases evE F o s M with
  | exc c M1 => rfl
  | bad => rfl
  | ok x M1 =>
    simp only [R.toS_ok]
    cases x with
    | ref a =>
      dsimp only
      cases M1[a]? with
      | none => rfl
      | some c =>
        cases c with
        | lst vs0 =>
          dsimp only
          cases evE F e s M1 with
          | exc c M1 => rfl
          | bad => rfl
          | ok v M2 =>
            simp only [R.toS_ok]
            cases M2[a]? with
            | none => rfl
            | some c =>
              cases c with
              | lst vs =>
                dsimp only
                by_cases h : vs.length < lim
                · rw [if_pos h, if_pos h]; rfl
                · rw [if_neg h, if_neg h]; rfl
              | _ => rfl
        | _ => rfl
    | _ => rfl
theorem ss_whil1 {F : FEnv} {wf : Nat} {s : Slots} {M : Store} {r : List IS} (c : IE) (b : List IS) : evSs F wf (.whil c b :: r) s M = cont F wf r (whileL (evE F c) (evSs F wf b) wf s M) := by
  show cont F wf r (evS F wf (.whil c b) s M) = _
  unfold evS
  rfl
theorem whileL_T {c : Slots → Store → R Val} {body : Slots → Store → SR} {n : Nat} {s s2 : Slots} {M M1 M2 : Store} (h : c s M = .ok (.d (.bool true)) M1) (h2 : body s M1 = .next s2 M2) : whileL c body (n + 1) s M = whileL c body n s2 M2 := by
  conv => lhs; unfold whileL
  rw [h]
  dsimp only
  rw [h2]
theorem whileL_F {c : Slots → Store → R Val} {body : Slots → Store → SR} {n : Nat} {s : Slots} {M M1 : Store} (h : c s M = .ok (.d (.bool false)) M1) : whileL c body (n + 1) s M = .next s M1 := by
  conv => lhs; unfold whileL
  rw [h]
theorem eqv_nil (xs : List PyData) : PyData.eqv (.list xs) (.list []) = decide (xs = []) := by
  cases xs <;> simp [PyData.eqv, PyData.eqvAll]
theorem okD_ints (n : Nat) (q : List Int) : okD (n + 1) (.list (q.map .int)) = true := by simp [okD]
theorem eq_nil {M : Store} (q : List Int) : cmpD M .Eq (.d (.list (q.map .int))) (.d (.list [])) = bl (decide (q = [])) M := by
  show (match eqD M (.d (.list (q.map .int))) (.d (.list [])) with | some b => bl b M | none => .bad) = _
  have : eqD M (.d (.list (q.map .int))) (.d (.list [])) = some (decide (q = [])) := by
    unfold eqD
    simp only [view_d]
    rw [okD_ints 29 q, if_pos (by rfl), eqv_nil]
    simp
  rw [this]
theorem sl_t {al : Bool} {M : Store} {xs : List PyData} {lo hi : Option Int} : slD al M (.d (.tuple xs)) lo hi = .ok (.d (.tuple (cut xs lo hi))) M := (rfl)
theorem sl_l {M : Store} {xs : List PyData} {lo hi : Option Int} : slD false M (.d (.list xs)) lo hi = .ok (.d (.list (cut xs lo hi))) M := (rfl)
theorem part_n : part (.d .none) = some none := (rfl)
theorem part_i {i : Int} : part (.d (.int i)) = some (some i) := (rfl)
theorem cut_1 {α : Type} (x : α) (xs : List α) : cut (x :: xs) (some 1) none = xs := by
  simp [cut, sIx]
theorem cut_lo {α : Type} (xs : List α) {i : Int} (h0 : 0 ≤ i) (h1 : i ≤ xs.length) : cut xs (some i) none = xs.drop i.toNat := by
  unfold cut sIx
  dsimp only
  rw [if_neg (by omega)]
  have : min i.toNat xs.length = i.toNat := by omega
  rw [this, ← List.length_drop]
  exact List.take_length
theorem cut_hi {α : Type} (xs : List α) {i : Int} (h0 : 0 ≤ i) (h1 : i ≤ xs.length) : cut xs none (some i) = xs.take i.toNat := by
  unfold cut sIx
  dsimp only
  rw [if_neg (by omega)]
  have : min i.toNat xs.length = i.toNat := by omega
  rw [this]
  simp
theorem lc_pure {F : FEnv} {e : IE} {s : Slots} {i : Nat} {M : Store} {xs : List PyData} {g : PyData → PyData} (h : ∀ x ∈ xs, evE F e (s.set i (some (.d x))) M = .ok (.d (g x)) M) :
    lcE F (.lit (.bool true)) e (.one i) s (xs.map .d) M = .ok ((xs.map g).map .d) M := by
  rw [lc_mapE (f := fun v => match v with | .d x => .d (g x) | v => v) (fun v hv => ev_lit _)]
  · rw [List.map_map, List.map_map]
    rfl
  · intro v hv
    obtain ⟨x, hx, rfl⟩ := List.mem_map.mp hv
    exact h x hx
theorem at_zero {α : Type} (x : α) (xs : List α) : atI (x :: xs) 0 = some x := by
  unfold atI ixN
  rw [if_pos (by decide), if_pos (by simp)]
  rfl
theorem allB_map (bs : List Bool) : allB (bs.map PyData.bool) = some bs := by
  induction bs with
  | nil => rfl
  | cons b bs ih => simp [allB, ih]
theorem all_b {al : Bool} {M : Store} {α : Type} {xs : List α} {p : α → Bool} : biD al .all [.d (.list (xs.map fun x => .bool (p x)))] M = bl (xs.all p) M := by
  show (match (lstD M (.d (.list (xs.map fun x => .bool (p x))))).bind allB with | some bs => bl (bs.all id) M | none => .bad) = _
  have e : (xs.map fun x => PyData.bool (p x)) = (xs.map p).map PyData.bool := by simp
  show (match allB (xs.map fun x => PyData.bool (p x)) with | some bs => bl (bs.all id) M | none => .bad) = _
  rw [e, allB_map]
  simp [List.all_map]
theorem for_fold {β : Type} {body : Slots → Store → SR} {tg : Tg} (st : β → Slots → Store → Prop) (step : β → Val → β) : ∀ {vs : List Val} {b : β} {s : Slots} {M : Store},
    (∀ v ∈ vs, ∀ b s M, st b s M → ∃ s1 s' M', asgT tg v s = some s1 ∧ body s1 M = .next s' M' ∧ st (step b v) s' M') → st b s M → ∃ s' M', forL body tg vs s M = .next s' M' ∧ st (vs.foldl step b) s' M'
  | [], b, s, M, _, p => ⟨s, M, rfl, p⟩
  | v :: vs, b, s, M, h, p => by
    obtain ⟨s1, s2, M2, e1, e2, p2⟩ := h v (by simp) b s M p
    obtain ⟨s3, M3, e3, p3⟩ := for_fold st step (vs := vs) (b := step b v) (s := s2) (M := M2) (fun w hw => h w (by simp [hw])) p2
    refine ⟨s3, M3, ?_, p3⟩
    unfold forL
    rw [e1]
    dsimp only
    rw [e2]
    exact e3
theorem rng2_ok {i j : Int} (h0 : -1000000 ≤ i) (h1 : i < 1000000) (h2 : -1000000 ≤ j) (h3 : j < 1000000) : rngD [.d (.int i), .d (.int j)] = some (upTo i (j - i).toNat) := by
  unfold rngD
  have e1 : ((2 : Int) ^ 24) = 16777216 := by decide
  have e2 : ((2 : Int) ^ 62) = 4611686018427387904 := by decide
  simp only [e1, e2]
  rw [if_pos (by simp only [Bool.and_eq_true, decide_eq_true_eq]; omega)]
theorem ne_self {M : Store} {d : PyData} (h : okD 30 d = true) : cmpD M .NotEq (.d d) (.d d) = bl false M := by
  show (match eqD M (.d d) (.d d) with | some b => bl (!b) M | none => .bad) = _
  rw [eqD_self h]
  rfl
theorem list_s {ns : List Int} {M : Store} {al : Bool} (h : ns.length ≤ lim) : biD al .list [.scr ns] M = mkL al (ns.map .int) M := by
  show (if ns.length ≤ lim then mkL al (ns.map .int) M else .bad) = _
  rw [if_pos h]
theorem fold_filter {α : Type} (p : α → Bool) : ∀ (l acc : List α), l.foldl (fun a x => if p x then a ++ [x] else a) acc = acc ++ l.filter p
  | [], acc => by simp
  | x :: l, acc => by
    rw [List.foldl_cons, fold_filter p l]
    by_cases h : p x = true
    · simp [h]
    · simp [h]
theorem enum_map {α : Type} (emb : α → PyData) (d : α) (xs : List α) : (List.range (xs.map emb).length).zipWith (fun (k : Nat) x => Val.d (.tuple [.int (k : Int), x])) (xs.map emb) = (List.range xs.length).map fun k : Nat => Val.d (.tuple [.int (k : Int), emb (xs.getD k d)]) := by
  apply List.ext_getElem?
  intro j
  rw [List.getElem?_zipWith, List.getElem?_map, List.getElem?_map]
  by_cases hj : j < xs.length
  · rw [List.getElem?_range (by simpa using hj), List.getElem?_range hj, List.getElem?_eq_getElem hj]
    simp [List.getD_eq_getElem?_getD, hj]
  · have h1 : (List.range xs.length)[j]? = none := List.getElem?_eq_none (by simpa using hj)
    have h2 : xs[j]? = none := List.getElem?_eq_none (by omega)
    rw [List.length_map, h1, h2]
    rfl
theorem len_map_t {α : Type} {al : Bool} {M : Store} (emb : α → PyData) (xs : List α) : biD al .len [.d (.tuple (xs.map emb))] M = .ok (.d (.int xs.length)) M := by rw [len_t, List.length_map]
theorem map_at {α : Type} (emb : α → PyData) (xs : List α) (d : α) {i : Int} (h0 : 0 ≤ i) (h1 : i < xs.length) : atI (xs.map emb) i = some (emb (xs.getD i.toNat d)) := by
  unfold atI ixN
  rw [List.length_map, if_pos h0, if_pos h1]
  have h3 : i.toNat < xs.length := by omega
  simp [List.getElem?_eq_getElem, h3, List.getD_eq_getElem?_getD]
theorem getD_mem {α : Type} {l : List α} {k : Nat} {d : α} (h : k < l.length) : l.getD k d ∈ l := by
  rw [List.getD_eq_getElem?_getD, List.getElem?_eq_getElem h]
  exact List.getElem_mem h
theorem getD_all {α : Type} {d : α} {l : List α} (P : α → Bool) (h : l.all P = true) (hd : P d = true) (i : Nat) : P (l.getD i d) = true := by
  rw [List.getD_eq_getElem?_getD]
  by_cases hi : i < l.length
  · rw [List.getElem?_eq_getElem hi]
    exact List.all_eq_true.mp h _ (List.getElem_mem hi)
  · rw [List.getElem?_eq_none (by omega)]
    exact hd
theorem at2 {α : Type} (a b : α) {i : Int} (h0 : 0 ≤ i) (h1 : i < 2) : atI [a, b] i = some (if i = 0 then a else b) := by
  have : i = 0 ∨ i = 1 := by omega
  rcases this with rfl | rfl <;> rfl
theorem ite_int (p : Prop) [Decidable p] (a b : Int) : (if p then PyData.int a else PyData.int b) = PyData.int (if p then a else b) := by split <;> rfl
def pick3 {α : Type} (a b c : α) (i : Int) : α := if i = 0 then a else if i = 1 then b else c
theorem at3 {α : Type} (a b c : α) {i : Int} (h0 : 0 ≤ i) (h1 : i < 3) : atI [a, b, c] i = some (pick3 a b c i) := by
  have : i = 0 ∨ i = 1 ∨ i = 2 := by omega
  rcases this with rfl | rfl | rfl <;> rfl
theorem pick3_map {α β : Type} (f : α → β) (a b c : α) (i : Int) : pick3 (f a) (f b) (f c) i = f (pick3 a b c i) := by
  unfold pick3
  split
  · rfl
  · split <;> rfl
theorem pick3_all {α : Type} {P : α → Prop} {a b c : α} (i : Int) (ha : P a) (hb : P b) (hc : P c) : P (pick3 a b c i) := by
  unfold pick3
  split
  · exact ha
  · split
    · exact hb
    · exact hc
theorem mkLV_3 {M : Store} (a b c : PyData) : mkLV false [.d a, .d b, .d c] M = .ok (.d (.list [a, b, c])) M := (rfl)
theorem for_idx {body : Slots → Store → SR} {tg : Tg} : ∀ {vs : List Val} (st : Nat → Slots → Store → Prop) {s : Slots} {M : Store},
    (∀ (i : Nat) (v : Val), vs[i]? = some v → ∀ s M, st i s M → ∃ s1 s' M', asgT tg v s = some s1 ∧ body s1 M = .next s' M' ∧ st (i + 1) s' M') → st 0 s M → ∃ s' M', forL body tg vs s M = .next s' M' ∧ st vs.length s' M'
  | [], st, s, M, _, p => ⟨s, M, rfl, p⟩
  | v :: vs, st, s, M, h, p => by
    obtain ⟨s1, s2, M2, e1, e2, p2⟩ := h 0 v rfl s M p
    obtain ⟨s3, M3, e3, p3⟩ := for_idx (vs := vs) (fun i => st (i + 1)) (s := s2) (M := M2) (fun i w hw => h (i + 1) w (by simpa using hw)) p2
    refine ⟨s3, M3, ?_, p3⟩
    unfold forL
    rw [e1]
    dsimp only
    rw [e2]
    exact e3
theorem range_at {α : Type} {f : Nat → α} {n i : Nat} {v : α} (h : ((List.range n).map f)[i]? = some v) : i < n ∧ v = f i := by
  rw [List.getElem?_map, Option.map_eq_some_iff] at h
  obtain ⟨k, e, rfl⟩ := h
  rw [List.getElem?_eq_some_iff] at e
  obtain ⟨h1, h2⟩ := e
  simp at h1 h2
  subst h2
  exact ⟨h1, rfl⟩
theorem filter_succ (p : Nat → Bool) (i : Nat) : (List.range (i + 1)).filter p = (List.range i).filter p ++ (if p i then [i] else []) := by
  rw [List.range_succ, List.filter_append]
  by_cases h : p i = true <;> simp [h]
theorem ix1_0 {M : Store} {a : PyData} : idxD M (.d (.tuple [a])) (.d (.int 0)) = .ok (.d a) M := (rfl)
theorem ixl1_0 {M : Store} {a : PyData} : idxD M (.d (.list [a])) (.d (.int 0)) = .ok (.d a) M := (rfl)
theorem ix2_0 {M : Store} {a b : PyData} : idxD M (.d (.tuple [a, b])) (.d (.int 0)) = .ok (.d a) M := (rfl)
theorem ixl2_0 {M : Store} {a b : PyData} : idxD M (.d (.list [a, b])) (.d (.int 0)) = .ok (.d a) M := (rfl)
theorem ix2_1 {M : Store} {a b : PyData} : idxD M (.d (.tuple [a, b])) (.d (.int 1)) = .ok (.d b) M := (rfl)
theorem ixl2_1 {M : Store} {a b : PyData} : idxD M (.d (.list [a, b])) (.d (.int 1)) = .ok (.d b) M := (rfl)
theorem ix3_0 {M : Store} {a b c : PyData} : idxD M (.d (.tuple [a, b, c])) (.d (.int 0)) = .ok (.d a) M := (rfl)
theorem ixl3_0 {M : Store} {a b c : PyData} : idxD M (.d (.list [a, b, c])) (.d (.int 0)) = .ok (.d a) M := (rfl)
theorem ix3_1 {M : Store} {a b c : PyData} : idxD M (.d (.tuple [a, b, c])) (.d (.int 1)) = .ok (.d b) M := (rfl)
theorem ixl3_1 {M : Store} {a b c : PyData} : idxD M (.d (.list [a, b, c])) (.d (.int 1)) = .ok (.d b) M := (rfl)
theorem ix3_2 {M : Store} {a b c : PyData} : idxD M (.d (.tuple [a, b, c])) (.d (.int 2)) = .ok (.d c) M := (rfl)
theorem ixl3_2 {M : Store} {a b c : PyData} : idxD M (.d (.list [a, b, c])) (.d (.int 2)) = .ok (.d c) M := (rfl)
theorem ix4_0 {M : Store} {a b c d : PyData} : idxD M (.d (.tuple [a, b, c, d])) (.d (.int 0)) = .ok (.d a) M := (rfl)
theorem ixl4_0 {M : Store} {a b c d : PyData} : idxD M (.d (.list [a, b, c, d])) (.d (.int 0)) = .ok (.d a) M := (rfl)
theorem ix4_1 {M : Store} {a b c d : PyData} : idxD M (.d (.tuple [a, b, c, d])) (.d (.int 1)) = .ok (.d b) M := (rfl)
theorem ixl4_1 {M : Store} {a b c d : PyData} : idxD M (.d (.list [a, b, c, d])) (.d (.int 1)) = .ok (.d b) M := (rfl)
theorem ix4_2 {M : Store} {a b c d : PyData} : idxD M (.d (.tuple [a, b, c, d])) (.d (.int 2)) = .ok (.d c) M := (rfl)
theorem ixl4_2 {M : Store} {a b c d : PyData} : idxD M (.d (.list [a, b, c, d])) (.d (.int 2)) = .ok (.d c) M := (rfl)
theorem ix4_3 {M : Store} {a b c d : PyData} : idxD M (.d (.tuple [a, b, c, d])) (.d (.int 3)) = .ok (.d d) M := (rfl)
theorem ixl4_3 {M : Store} {a b c d : PyData} : idxD M (.d (.list [a, b, c, d])) (.d (.int 3)) = .ok (.d d) M := (rfl)
theorem ix5_0 {M : Store} {a b c d e : PyData} : idxD M (.d (.tuple [a, b, c, d, e])) (.d (.int 0)) = .ok (.d a) M := (rfl)
theorem ixl5_0 {M : Store} {a b c d e : PyData} : idxD M (.d (.list [a, b, c, d, e])) (.d (.int 0)) = .ok (.d a) M := (rfl)
theorem ix5_1 {M : Store} {a b c d e : PyData} : idxD M (.d (.tuple [a, b, c, d, e])) (.d (.int 1)) = .ok (.d b) M := (rfl)
theorem ixl5_1 {M : Store} {a b c d e : PyData} : idxD M (.d (.list [a, b, c, d, e])) (.d (.int 1)) = .ok (.d b) M := (rfl)
theorem ix5_2 {M : Store} {a b c d e : PyData} : idxD M (.d (.tuple [a, b, c, d, e])) (.d (.int 2)) = .ok (.d c) M := (rfl)
theorem ixl5_2 {M : Store} {a b c d e : PyData} : idxD M (.d (.list [a, b, c, d, e])) (.d (.int 2)) = .ok (.d c) M := (rfl)
theorem ix5_3 {M : Store} {a b c d e : PyData} : idxD M (.d (.tuple [a, b, c, d, e])) (.d (.int 3)) = .ok (.d d) M := (rfl)
theorem ixl5_3 {M : Store} {a b c d e : PyData} : idxD M (.d (.list [a, b, c, d, e])) (.d (.int 3)) = .ok (.d d) M := (rfl)
theorem ix5_4 {M : Store} {a b c d e : PyData} : idxD M (.d (.tuple [a, b, c, d, e])) (.d (.int 4)) = .ok (.d e) M := (rfl)
theorem ixl5_4 {M : Store} {a b c d e : PyData} : idxD M (.d (.list [a, b, c, d, e])) (.d (.int 4)) = .ok (.d e) M := (rfl)
end Gv

namespace Lw
open PySem PySem.Spec L2 Gv
def top (i : Nat) : Stmt := PySem.Challenge.pw_glowrow_k08_rows_taken.main.body.getD i (.Pass ⟨0, 0, 0, 0⟩)
abbrev i_strip_of : Nat := 0
abbrev i_lying_on : Nat := 1
abbrev i_kept_on : Nat := 2
abbrev i_floor_strip : Nat := 3
abbrev i_taken : Nat := 4
abbrev i_law_draw : Nat := 5
abbrev i_law_size : Nat := 6
abbrev i_law_frame : Nat := 7
abbrev i_law_inks : Nat := 8
abbrev i_law_inked : Nat := 9
abbrev i_law_far : Nat := 10
abbrev i_law_mover : Nat := 11
abbrev i_law_stand : Nat := 12
abbrev i_law_strip : Nat := 13
abbrev i_law_lying : Nat := 14
abbrev i_law_taken : Nat := 15
abbrev i_law : Nat := 16
def fns : List (Str × Nat) := [("strip_of", 3), ("lying_on", 2), ("kept_on", 3), ("floor_strip", 3), ("taken", 3), ("_law_draw", 2), ("_law_size", 2), ("_law_frame", 2), ("_law_inks", 3), ("_law_inked", 2), ("_law_far", 2), ("_law_mover", 3), ("_law_stand", 3), ("_law_strip", 3), ("_law_lying", 2), ("_law_taken", 3), ("law", 1)]
def cons : List (Str × PyData) := []
abbrev N_strip_of : List Str := ["shape", "turn", "row"]
abbrev N_lying_on : List Str := ["stand", "row", "found", "number", "mover"]
abbrev N_kept_on : List Str := ["frame", "stand", "row"]
abbrev N_floor_strip : List Str := ["frame", "stand", "row", "inks", "floor", "shift", "x"]
abbrev N_taken : List Str := ["frame", "stand", "row", "strips", "number", "shape", "x", "y", "rank", "turn"]
abbrev N_law_draw : List Str := ["tape", "many", "prime", "found", "cell"]
abbrev N_law_size : List Str := ["tape", "most"]
abbrev N_law_frame : List Str := ["tape", "most", "gap"]
abbrev N_law_inks : List Str := ["tape", "wide", "thin", "k"]
abbrev N_law_inked : List Str := ["tape", "most", "wide", "thin", "k"]
abbrev N_law_far : List Str := ["tape", "size"]
abbrev N_law_mover : List Str := ["tape", "frame", "shapes", "shape"]
abbrev N_law_stand : List Str := ["tape", "frame", "movers_most", "floor", "shift", "shapes", "book", "movers", "k"]
abbrev N_law_strip : List Str := ["shape", "turn", "row", "k"]
abbrev N_law_lying : List Str := ["stand", "row", "found", "number", "shape", "x", "y", "rank", "turn"]
abbrev N_law_taken : List Str := ["frame", "stand", "row", "inks", "strips", "number", "floor", "shift", "shape", "x", "y", "rank", "turn"]
abbrev N_law : List Str := ["script", "tape", "frame", "stand", "row", "found"]
def fn_strip_of : Fn := { ps := 3, n := 3, body := [
    .ite (.or (.cmp .Lt (.var 2) (.lit (.int 0))) (.cmp .GtE (.var 2) (.bi false .len [(.var 0)]))) [
      .ret (.tup [])] [],
    .ite (.cmp .GtE (.var 1) (.lit (.int 2))) [
      .asg (.one 2) (.bin false .Sub (.bin false .Sub (.bi false .len [(.var 0)]) (.lit (.int 1))) (.var 2))] [],
    .ite (.cmp .Eq (.bin false .Mod (.var 1) (.lit (.int 2))) (.lit (.int 1))) [
      .ret (.rev false (.idx (.var 0) (.var 2)))] [],
    .ret (.idx (.var 0) (.var 2))] }
def fn_lying_on : Fn := { ps := 2, n := 5, body := [
    .asg (.one 2) (.lst true []),
    .forr (.many [3, 4]) (.enum (.idx (.var 0) (.lit (.int 3)))) [
      .ite (.and (.cmp .IsNot (.idx (.var 4) (.lit (.int 0))) (.lit .none)) (.and (.cmp .LtE (.lit (.int 0)) (.bin false .Sub (.var 1) (.idx (.var 4) (.lit (.int 2))))) (.cmp .Lt (.bin false .Sub (.var 1) (.idx (.var 4) (.lit (.int 2)))) (.bi false .len [(.idx (.idx (.var 0) (.lit (.int 2))) (.idx (.var 4) (.lit (.int 0))))])))) [
        .app (.var 2) (.var 3)] []],
    .ret (.var 2)] }
def fn_kept_on : Fn := { ps := 3, n := 3, body := [
    .ret (.sl false (.call i_lying_on [(.var 1), (.var 2)]) (.lit .none) (.toI (.idx (.var 0) (.lit (.int 3)))))] }
def fn_floor_strip : Fn := { ps := 3, n := 7, body := [
    .asg (.many [4, 5]) (.sl false (.var 1) (.lit .none) (.toI (.lit (.int 2)))),
    .asg (.one 3) (.idx (.var 4) (.bin false .Mod (.bin false .Add (.var 2) (.idx (.var 5) (.lit (.int 1)))) (.bi false .len [(.var 4)]))),
    .ret (.bi false .tuple [(.lc false [6] (.one 6) (.rng [(.idx (.var 0) (.lit (.int 0)))]) (.lit (.bool true)) (.idx (.var 3) (.bin false .Mod (.bin false .Add (.var 6) (.idx (.var 5) (.lit (.int 0)))) (.bi false .len [(.var 3)]))))])] }
def fn_taken : Fn := { ps := 3, n := 10, body := [
    .asg (.one 3) (.lst true []),
    .forr (.one 4) (.seq (.call i_kept_on [(.var 0), (.var 1), (.var 2)])) [
      .asg (.many [5, 6, 7, 8, 9]) (.idx (.idx (.var 1) (.lit (.int 3))) (.var 4)),
      .app (.var 3) (.tup [(.var 4), (.var 6), (.var 8), (.call i_strip_of [(.idx (.idx (.var 1) (.lit (.int 2))) (.var 5)), (.var 9), (.bin false .Sub (.var 2) (.var 7))])])],
    .ret (.tup [(.call i_floor_strip [(.var 0), (.var 1), (.var 2)]), (.bi false .tuple [(.var 3)])])] }
def fn_law_draw : Fn := { ps := 2, n := 5, body := [
    .asg (.one 2) (.lit (.int 2305843009213693951)),
    .ite (.cmp .Lt (.idx (.var 0) (.lit (.int 2))) (.var 1)) [
      .asg (.one 4) (.lit (.int 0)),
      .ite (.cmp .Gt (.bi false .len [(.idx (.var 0) (.lit (.int 0)))]) (.lit (.int 0))) [
        .asg (.one 4) (.idx (.idx (.var 0) (.lit (.int 0))) (.bin false .Mod (.idx (.var 0) (.lit (.int 1))) (.bi false .len [(.idx (.var 0) (.lit (.int 0)))])))] [],
      .ite (.or (.cmp .GtE (.idx (.var 0) (.lit (.int 1))) (.bi false .len [(.idx (.var 0) (.lit (.int 0)))])) (.cmp .Lt (.var 4) (.bin false .Pow (.lit (.int 10)) (.lit (.int 18))))) [
        .asg (.one 4) (.bin false .Mod (.bin false .Add (.var 4) (.bin false .Mult (.lit (.int 1000003)) (.idx (.var 0) (.lit (.int 1))))) (.var 2)),
        .asg (.one 4) (.bin false .Mod (.bin false .Add (.bin false .Add (.bin false .Mult (.var 4) (.var 4)) (.bin false .Mult (.lit (.int 1181783497276652981)) (.var 4))) (.lit (.int 2049848353892358983))) (.var 2)),
        .asg (.one 4) (.bin false .Mod (.bin false .Add (.bin false .Mult (.var 4) (.var 4)) (.lit (.int 1442695040888963407))) (.var 2))] [],
      .setix (.var 0) (.lit (.int 1)) (.bin false .Add (.idx (.var 0) (.lit (.int 1))) (.lit (.int 1))),
      .setix (.var 0) (.lit (.int 2)) (.var 4)] [],
    .asg (.one 3) (.bin false .Mod (.idx (.var 0) (.lit (.int 2))) (.var 1)),
    .setix (.var 0) (.lit (.int 2)) (.bin false .FloorDiv (.idx (.var 0) (.lit (.int 2))) (.var 1)),
    .ret (.var 3)] }
def fn_law_size : Fn := { ps := 2, n := 2, body := [
    .ret (.bin false .Add (.lit (.int 1)) (.idx (.lst false [(.call i_law_draw [(.var 0), (.bi false .min2 [(.var 1), (.lit (.int 6))])]), (.call i_law_draw [(.var 0), (.var 1)]), (.bin false .Sub (.var 1) (.lit (.int 1)))]) (.bin false .FloorDiv (.bin false .Mult (.call i_law_draw [(.var 0), (.lit (.int 8))]) (.lit (.int 3))) (.lit (.int 10)))))] }
def fn_law_frame : Fn := { ps := 2, n := 3, body := [
    .asg (.one 2) (.idx (.lst false [(.lit (.int 0)), (.call i_law_draw [(.var 0), (.lit (.int 21))])]) (.call i_law_draw [(.var 0), (.lit (.int 2))])),
    .ret (.tup [(.call i_law_size [(.var 0), (.var 1)]), (.call i_law_size [(.var 0), (.var 1)]), (.var 2), (.call i_law_draw [(.var 0), (.lit (.int 13))])])] }
def fn_law_inks : Fn := { ps := 3, n := 4, body := [
    .ret (.bi false .tuple [(.lc false [3] (.one 3) (.rng [(.var 1)]) (.lit (.bool true)) (.bin false .Mult (.call i_law_draw [(.var 0), (.lit (.int 16))]) (.bi false .int [(.cmp .Gt (.call i_law_draw [(.var 0), (.var 2)]) (.lit (.int 0)))])))])] }
def fn_law_inked : Fn := { ps := 2, n := 5, body := [
    .asg (.one 2) (.call i_law_size [(.var 0), (.var 1)]),
    .asg (.one 3) (.bin false .Add (.lit (.int 1)) (.call i_law_draw [(.var 0), (.lit (.int 4))])),
    .ret (.bi false .tuple [(.lc false [4] (.one 4) (.rng [(.call i_law_size [(.var 0), (.var 1)])]) (.lit (.bool true)) (.call i_law_inks [(.var 0), (.var 2), (.var 3)]))])] }
def fn_law_far : Fn := { ps := 2, n := 2, body := [
    .ret (.idx (.lst false [(.bin false .Sub (.call i_law_draw [(.var 0), (.bin false .Add (.var 1) (.lit (.int 16)))]) (.lit (.int 8))), (.bin false .Sub (.call i_law_draw [(.var 0), (.lit (.int 2001))]) (.lit (.int 1000)))]) (.bin false .FloorDiv (.call i_law_draw [(.var 0), (.lit (.int 8))]) (.lit (.int 7))))] }
def fn_law_mover : Fn := { ps := 3, n := 4, body := [
    .asg (.one 3) (.lit .none),
    .ite (.and (.cmp .Gt (.var 2) (.lit (.int 0))) (.cmp .Gt (.call i_law_draw [(.var 0), (.lit (.int 8))]) (.lit (.int 0)))) [
      .asg (.one 3) (.call i_law_draw [(.var 0), (.var 2)])] [],
    .ret (.tup [(.var 3), (.call i_law_far [(.var 0), (.idx (.var 1) (.lit (.int 0)))]), (.call i_law_far [(.var 0), (.idx (.var 1) (.lit (.int 1)))]), (.call i_law_draw [(.var 0), (.lit (.int 4))]), (.call i_law_draw [(.var 0), (.lit (.int 4))])])] }
def fn_law_stand : Fn := { ps := 3, n := 9, body := [
    .asg (.one 3) (.call i_law_inked [(.var 0), (.lit (.int 16))]),
    .asg (.one 4) (.tup [(.call i_law_far [(.var 0), (.lit (.int 9))]), (.call i_law_far [(.var 0), (.lit (.int 9))])]),
    .asg (.one 5) (.idx (.lst false [(.call i_law_draw [(.var 0), (.lit (.int 4))]), (.call i_law_draw [(.var 0), (.lit (.int 9))])]) (.bin false .FloorDiv (.call i_law_draw [(.var 0), (.lit (.int 4))]) (.lit (.int 3)))),
    .asg (.one 6) (.bi false .tuple [(.lc false [8] (.one 8) (.rng [(.var 5)]) (.lit (.bool true)) (.call i_law_inked [(.var 0), (.lit (.int 8))]))]),
    .asg (.one 7) (.bi false .tuple [(.lc false [8] (.one 8) (.rng [(.call i_law_draw [(.var 0), (.bin false .Add (.var 2) (.lit (.int 1)))])]) (.lit (.bool true)) (.call i_law_mover [(.var 0), (.var 1), (.bi false .len [(.var 6)])]))]),
    .ret (.tup [(.var 3), (.var 4), (.var 6), (.var 7), (.bi false .tuple [(.lc false [8] (.one 8) (.rng [(.lit (.int 16))]) (.lit (.bool true)) (.call i_law_draw [(.var 0), (.lit (.int 64))]))])])] }
def fn_law_strip : Fn := { ps := 3, n := 4, body := [
    .ite (.cmp .Eq (.bin false .FloorDiv (.var 1) (.lit (.int 2))) (.lit (.int 1))) [
      .asg (.one 2) (.bin false .Sub (.bin false .Sub (.bi false .len [(.var 0)]) (.lit (.int 1))) (.var 2))] [],
    .ite (.cmp .Eq (.bin false .Mod (.var 1) (.lit (.int 2))) (.lit (.int 0))) [
      .ret (.idx (.var 0) (.var 2))] [],
    .ret (.bi false .tuple [(.lc false [3] (.one 3) (.rng [(.bi false .len [(.idx (.var 0) (.var 2))])]) (.lit (.bool true)) (.idx (.idx (.var 0) (.var 2)) (.bin false .Sub (.bin false .Sub (.bi false .len [(.idx (.var 0) (.var 2))]) (.lit (.int 1))) (.var 3))))])] }
def fn_law_lying : Fn := { ps := 2, n := 9, body := [
    .asg (.one 2) (.lst true []),
    .forr (.one 3) (.rng [(.bi false .len [(.idx (.var 0) (.lit (.int 3)))])]) [
      .asg (.many [4, 5, 6, 7, 8]) (.idx (.idx (.var 0) (.lit (.int 3))) (.var 3)),
      .ite (.and (.cmp .IsNot (.var 4) (.lit .none)) (.and (.cmp .LtE (.var 6) (.var 1)) (.cmp .Lt (.var 1) (.bin false .Add (.var 6) (.bi false .len [(.idx (.idx (.var 0) (.lit (.int 2))) (.var 4))]))))) [
        .app (.var 2) (.var 3)] []],
    .ret (.var 2)] }
def fn_law_taken : Fn := { ps := 3, n := 13, body := [
    .asg (.many [6, 7]) (.sl false (.var 1) (.lit .none) (.toI (.lit (.int 2)))),
    .asg (.one 3) (.idx (.var 6) (.bin false .Mod (.bin false .Add (.var 2) (.idx (.var 7) (.lit (.int 1)))) (.bi false .len [(.var 6)]))),
    .asg (.one 4) (.lst true []),
    .forr (.one 5) (.seq (.sl false (.call i_law_lying [(.var 1), (.var 2)]) (.lit .none) (.toI (.idx (.var 0) (.lit (.int 3)))))) [
      .asg (.many [8, 9, 10, 11, 12]) (.idx (.idx (.var 1) (.lit (.int 3))) (.var 5)),
      .app (.var 4) (.tup [(.var 5), (.var 9), (.var 11), (.call i_law_strip [(.idx (.idx (.var 1) (.lit (.int 2))) (.var 8)), (.var 12), (.bin false .Sub (.var 2) (.var 10))])])],
    .ret (.tup [(.bi false .tuple [(.lc false [9] (.one 9) (.rng [(.idx (.var 0) (.lit (.int 0)))]) (.lit (.bool true)) (.idx (.var 3) (.bin false .Mod (.bin false .Add (.var 9) (.idx (.var 7) (.lit (.int 0)))) (.bi false .len [(.var 3)]))))]), (.bi false .tuple [(.var 4)])])] }
def fn_law : Fn := { ps := 1, n := 6, body := [
    .asg (.one 1) (.lst true [(.bi false .list [(.var 0)]), (.lit (.int 0)), (.lit (.int 0))]),
    .asg (.one 2) (.call i_law_frame [(.var 1), (.lit (.int 40))]),
    .asg (.one 3) (.call i_law_stand [(.var 1), (.var 2), (.lit (.int 12))]),
    .forr (.one 4) (.rng [(.idx (.var 2) (.lit (.int 1)))]) [
      .asg (.one 5) (.call i_taken [(.var 2), (.var 3), (.var 4)]),
      .ite (.or (.not (.isi (.var 5) .tuple)) (.or (.cmp .NotEq (.bi false .len [(.var 5)]) (.lit (.int 2))) (.not (.isi (.idx (.var 5) (.lit (.int 0))) .tuple)))) [
        .ret (.lit (.bool false))] [],
      .ite (.cmp .NotEq (.var 5) (.call i_law_taken [(.var 2), (.var 3), (.var 4)])) [
        .ret (.lit (.bool false))] []],
    .ret (.lit (.bool true))] }
def T : List Fn := [fn_strip_of, fn_lying_on, fn_kept_on, fn_floor_strip, fn_taken, fn_law_draw, fn_law_size, fn_law_frame, fn_law_inks, fn_law_inked, fn_law_far, fn_law_mover, fn_law_stand, fn_law_strip, fn_law_lying, fn_law_taken, fn_law]

abbrev lev : Nat := 20
abbrev sub : Nat → Nat → Bool := fun _ _ => false
abbrev wf : Nat := 1000
end Lw

open Gv in
local macro_rules | `(tactic| walk_at "ev") => `(tactic| try simp only [Bool.not_true, Bool.not_false, ev_lit, ev_var, ev_bin, ev_neg, ev_not, ev_and, ev_or, ev_cmp, ev_chain, ev_ifx, ev_tup, ev_lst, ev_idx, ev_toI, ev_sl, ev_rev, ev_bi, ev_isi, ev_call, ev_lc, ev_lrng, ev_mt, evs_nil, evs_cons, evi_rng, evi_seq, evi_enum, evi_zip, bind_k, toS_k, forS_ok, lrS_ok, bl_bind, bl_toS, List.getElem?_cons_zero, List.getElem?_cons_succ, List.set_cons_zero, List.set_cons_succ, asg_one, asg_many, setAll_n, setAll_c, brV_dec, brV_T, brV_F, or_dec, and_dec, not_dec, callV_r, ofOpt_k, wipe_n, wipe_c, List.cons_append, List.nil_append, add_ii, sub_ii, lt_ii, le_ii, gt_ii, ge_ii, eq_ii, ne_ii, len_t, len_l, tuple_l, tuple_t, list_l, list_t, int_i, int_b, min_ii, max_ii, rev_t, seq_l, seq_t, Gv.is_none, isnot_none, is_bb, isnot_bb, mkLV_d, mkL_F, mkLV_T, mkLV_Fd, allD_map, allD_cons_r, Option.map_none, allD_nil, allD_cons_d, Option.map_some, List.length_map, ix1_0, ixl1_0, ix2_0, ixl2_0, ix2_1, ixl2_1, ix3_0, ixl3_0, ix3_1, ixl3_1, ix3_2, ixl3_2, ix4_0, ixl4_0, ix4_1, ixl4_1, ix4_2, ixl4_2, ix4_3, ixl4_3, ix5_0, ixl5_0, ix5_1, ixl5_1, ix5_2, ixl5_2, ix5_3, ixl5_3, ix5_4, ixl5_4, part_n, part_i, sl_t, sl_l])
open Gv in
local macro_rules | `(tactic| walk_at "st") => `(tactic| try simp only [ss_asg1, ss_expr1, ss_ret1, ss_ite1, brS_dec, brS_T, brS_F, ss0, cont_next, cont_ret, Bool.not_true, Bool.not_false, ev_lit, ev_var, ev_bin, ev_neg, ev_not, ev_and, ev_or, ev_cmp, ev_chain, ev_ifx, ev_tup, ev_lst, ev_idx, ev_toI, ev_sl, ev_rev, ev_bi, ev_isi, ev_call, ev_lc, ev_lrng, ev_mt, evs_nil, evs_cons, evi_rng, evi_seq, evi_enum, evi_zip, bind_k, toS_k, forS_ok, lrS_ok, bl_bind, bl_toS, List.getElem?_cons_zero, List.getElem?_cons_succ, List.set_cons_zero, List.set_cons_succ, asg_one, asg_many, setAll_n, setAll_c, brV_dec, brV_T, brV_F, or_dec, and_dec, not_dec, callV_r, ofOpt_k, wipe_n, wipe_c, List.cons_append, List.nil_append, add_ii, sub_ii, lt_ii, le_ii, gt_ii, ge_ii, eq_ii, ne_ii, len_t, len_l, tuple_l, tuple_t, list_l, list_t, int_i, int_b, min_ii, max_ii, rev_t, seq_l, seq_t, Gv.is_none, isnot_none, is_bb, isnot_bb, mkLV_d, mkL_F, mkLV_T, mkLV_Fd, allD_map, allD_cons_r, Option.map_none, allD_nil, allD_cons_d, Option.map_some, List.length_map, ix1_0, ixl1_0, ix2_0, ixl2_0, ix2_1, ixl2_1, ix3_0, ixl3_0, ix3_1, ixl3_1, ix3_2, ixl3_2, ix4_0, ixl4_0, ix4_1, ixl4_1, ix4_2, ixl4_2, ix4_3, ixl4_3, ix5_0, ixl5_0, ix5_1, ixl5_1, ix5_2, ixl5_2, ix5_3, ixl5_3, ix5_4, ixl5_4, part_n, part_i, sl_t, sl_l])

namespace Lw
open PySem Gv
/-! ### the tape of draws -/
structure Tape where
  ns : List Int
  p : Int
  c : Int
def Tape.cell (t : Tape) : Cell := .lst [.d (.list (t.ns.map .int)), .d (.int t.p), .d (.int t.c)]
def prime : Int := 2305843009213693951
def mix (x p : Int) : Int :=
  let a := (x + 1000003 * p) % prime
  let b := (a * a + 1181783497276652981 * a + 2049848353892358983) % prime
  (b * b + 1442695040888963407) % prime
def Tape.raw (t : Tape) : Int := if t.ns = [] then 0 else t.ns.getD (t.p % t.ns.length).toNat 0
def Tape.next (t : Tape) : Int := if t.ns.length ≤ t.p ∨ t.raw < 1000000000000000000 then mix t.raw t.p else t.raw
def Tape.fill (t : Tape) (many : Int) : Tape := if t.c < many then ⟨t.ns, t.p + 1, t.next⟩ else t
def Tape.draw (t : Tape) (many : Int) : Int × Tape := ((t.fill many).c % many, { t.fill many with c := (t.fill many).c / many })
theorem Tape.draw_lo (t : Tape) {many : Int} (h : 0 < many) : 0 ≤ (t.draw many).1 := Int.emod_nonneg _ (by omega)
theorem Tape.draw_hi (t : Tape) {many : Int} (h : 0 < many) : (t.draw many).1 < many := Int.emod_lt_of_pos _ h
theorem at3_0 {α : Type} (a b c : α) : atI [a, b, c] 0 = some a := rfl
theorem at3_1 {α : Type} (a b c : α) : atI [a, b, c] 1 = some b := rfl
theorem at3_2 {α : Type} (a b c : α) : atI [a, b, c] 2 = some c := rfl
theorem ix3_1 : ixN 3 1 = some 1 := rfl
theorem ix3_2 : ixN 3 2 = some 2 := rfl
theorem raw_at (ns : List Int) (p : Int) (h : ns ≠ []) : atI (ns.map PyData.int) (p % (ns.length : Int)) = some (.int (ns.getD (p % (ns.length : Int)).toNat 0)) := by
  have hl : 0 < ns.length := List.length_pos_iff.mpr h
  have h1 : 0 ≤ p % (ns.length : Int) := Int.emod_nonneg _ (by omega)
  have h2 : p % (ns.length : Int) < ns.length := Int.emod_lt_of_pos _ (by omega)
  unfold atI ixN
  rw [List.length_map, if_pos h1, if_pos h2]
  have h3 : (p % (ns.length : Int)).toNat < ns.length := by omega
  simp [List.getElem?_eq_getElem, h3, List.getD_eq_getElem?_getD]
theorem mulOk_l {i j : Int} (h1 : -18446744073709551616 < i) (h2 : i < 18446744073709551616) : mulOk i j = true := by
  unfold mulOk
  have e : ((2 : Int) ^ 64) = 18446744073709551616 := by decide
  rw [e]
  simp [h1, h2]
theorem mulOk_r {i j : Int} (h1 : -18446744073709551616 < j) (h2 : j < 18446744073709551616) : mulOk i j = true := by
  unfold mulOk
  have e : ((2 : Int) ^ 64) = 18446744073709551616 := by decide
  rw [e]
  simp [h1, h2]
theorem mod_prime (x : Int) : 0 ≤ x % 2305843009213693951 ∧ x % 2305843009213693951 < 2305843009213693951 := ⟨Int.emod_nonneg _ (by decide), Int.emod_lt_of_pos _ (by decide)⟩
end Lw

namespace Lw
open PySem Gv
local macro_rules | `(tactic| walk_at "ed") => `(tactic| simp only [ev_lit, ev_var, ev_bin, ev_neg, ev_not, ev_and, ev_or, ev_cmp, ev_chain, ev_ifx, ev_tup, ev_lst, ev_idx, ev_toI, ev_sl, ev_rev, ev_bi, ev_isi, ev_call, ev_lc, ev_lrng, evs_nil, evs_cons, evi_rng, evi_seq, evi_enum, evi_zip, bind_k, toS_k, forS_ok, lrS_ok, bl_bind, bl_toS, List.getElem?_cons_zero, List.getElem?_cons_succ, List.set_cons_zero, List.set_cons_succ, asg_one, asg_many, setAll_n, setAll_c, brV_dec, brV_T, brV_F, or_dec, and_dec, not_dec, callV_r, ofOpt_k, wipe_n, wipe_c, List.cons_append, List.nil_append, add_ii, sub_ii, lt_ii, le_ii, gt_ii, ge_ii, eq_ii, ne_ii, len_t, len_l, tuple_l, tuple_t, list_l, list_t, int_i, int_b, min_ii, max_ii, rev_t, seq_l, seq_t, Gv.is_none, isnot_none, is_bb, isnot_bb, mkLV_d, mkL_F, allD_nil, allD_cons_d, Option.map_some, List.length_map, cmpD, biD, biLen, lenD, binD, addD, mulD, idxD, List.length_cons, List.length_nil, at3_0, at3_1, at3_2, ix3_1, ix3_2, Nat.zero_add, Nat.reduceAdd])
theorem draw_end (ns : List Int) (p c many : Int) (h0 : 0 < many) (h1 : many < bigB) (Q : Store) (o1 o2 : Option Val) (F : FEnv) :
    evSs F wf (fn_law_draw.body.drop 2) [some (.ref 0), some (.d (.int many)), o1, none, o2] (.lst [.d (.list (ns.map .int)), .d (.int p), .d (.int c)] :: Q) = .ret (.d (.int (c % many))) ((Tape.mk ns p (c / many)).cell :: Q) := by
  simp only [fn_law_draw, List.drop_succ_cons, List.drop_zero]
  rw [ss_asg1]
  walk_at "ed"
  simp only [h0, if_true, R.bind_ok, R.toS_ok]
  rw [ss_setix1]
  walk_at "ed"
  simp only [h0, h1, decide_true, Bool.and_self, if_true, R.bind_ok, R.toS_ok]
  walk_at "ed"
  rw [ss_ret1]
  walk_at "ed"
  rfl
theorem draw_mid (ns : List Int) (p c many x : Int) (h0 : 0 < many) (h1 : many < bigB) (Q : Store) (F : FEnv) (tail : List IS)
    (hend : ∀ (ns : List Int) (p c : Int) (o1 o2 : Option Val), evSs F wf tail [some (.ref 0), some (.d (.int many)), o1, none, o2] (.lst [.d (.list (ns.map .int)), .d (.int p), .d (.int c)] :: Q) = .ret (.d (.int (c % many))) ((Tape.mk ns p (c / many)).cell :: Q)) :
    evSs F wf ([.ite (.or (.cmp .GtE (.idx (.var 0) (.lit (.int 1))) (.bi false .len [(.idx (.var 0) (.lit (.int 0)))])) (.cmp .Lt (.var 4) (.bin false .Pow (.lit (.int 10)) (.lit (.int 18))))) [
        .asg (.one 4) (.bin false .Mod (.bin false .Add (.var 4) (.bin false .Mult (.lit (.int 1000003)) (.idx (.var 0) (.lit (.int 1))))) (.var 2)),
        .asg (.one 4) (.bin false .Mod (.bin false .Add (.bin false .Add (.bin false .Mult (.var 4) (.var 4)) (.bin false .Mult (.lit (.int 1181783497276652981)) (.var 4))) (.lit (.int 2049848353892358983))) (.var 2)),
        .asg (.one 4) (.bin false .Mod (.bin false .Add (.bin false .Mult (.var 4) (.var 4)) (.lit (.int 1442695040888963407))) (.var 2))] [],
      .setix (.var 0) (.lit (.int 1)) (.bin false .Add (.idx (.var 0) (.lit (.int 1))) (.lit (.int 1))),
      .setix (.var 0) (.lit (.int 2)) (.var 4)] ++ tail) [some (.ref 0), some (.d (.int many)), some (.d (.int 2305843009213693951)), none, some (.d (.int x))] (.lst [.d (.list (ns.map .int)), .d (.int p), .d (.int c)] :: Q) =
      .ret (.d (.int ((if ns.length ≤ p ∨ x < 1000000000000000000 then mix x p else x) % many))) ((Tape.mk ns (p + 1) ((if ns.length ≤ p ∨ x < 1000000000000000000 then mix x p else x) / many)).cell :: Q) := by
  try simp only [List.cons_append, List.nil_append]
  rw [ss_ite1]
  have e18 : (10 : Int) ^ (18 : Int).toNat = 1000000000000000000 := by decide
  have c1 : (decide ((0 : Int) ≤ 18) && decide ((18 : Int) ≤ 1000) && decide ((10 : Int).natAbs ≤ 1000)) = true := by decide
  walk_at "ed"
  simp only [c1, if_true, R.bind_ok, e18, or_dec, bl_toS, bl_bind]
  rw [brS_dec]
  by_cases hm : (ns.length : Int) ≤ p ∨ x < 1000000000000000000
  · rw [if_pos hm]
    simp only [hm, if_true, List.cons_append, List.nil_append]
    rw [ss_asg1]
    walk_at "ed"
    simp only [mulOk_l (show -18446744073709551616 < (1000003 : Int) by decide) (by decide), if_true, R.bind_ok, show (0 : Int) < 2305843009213693951 from by decide]
    walk_at "ed"
    rw [ss_asg1]
    obtain ⟨q1, q2⟩ := mod_prime (x + 1000003 * p)
    walk_at "ed"
    simp only [mulOk_l (show -18446744073709551616 < (x + 1000003 * p) % 2305843009213693951 by omega) (show (x + 1000003 * p) % 2305843009213693951 < 18446744073709551616 by omega), mulOk_l (show -18446744073709551616 < (1181783497276652981 : Int) by decide) (by decide), if_true, R.bind_ok, show (0 : Int) < 2305843009213693951 from by decide]
    walk_at "ed"
    try simp only [show (0 : Int) < 2305843009213693951 from by decide, if_true]
    try walk_at "ed"
    rw [ss_asg1]
    generalize hA : (x + 1000003 * p) % 2305843009213693951 = A
    obtain ⟨q3, q4⟩ := mod_prime (A * A + 1181783497276652981 * A + 2049848353892358983)
    generalize hB : (A * A + 1181783497276652981 * A + 2049848353892358983) % 2305843009213693951 = B at q3 q4
    walk_at "ed"
    simp only [mulOk_l (show -18446744073709551616 < B by omega) (show B < 18446744073709551616 by omega), if_true, R.bind_ok, show (0 : Int) < 2305843009213693951 from by decide]
    walk_at "ed"
    try simp only [show (0 : Int) < 2305843009213693951 from by decide, if_true]
    try walk_at "ed"
    rw [ss_setix1]
    walk_at "ed"
    rw [ss_setix1]
    walk_at "ed"
    have hmix : mix x p = (B * B + 1442695040888963407) % 2305843009213693951 := by
      show ((((x + 1000003 * p) % 2305843009213693951) * ((x + 1000003 * p) % 2305843009213693951) + 1181783497276652981 * ((x + 1000003 * p) % 2305843009213693951) + 2049848353892358983) % 2305843009213693951 * ((((x + 1000003 * p) % 2305843009213693951) * ((x + 1000003 * p) % 2305843009213693951) + 1181783497276652981 * ((x + 1000003 * p) % 2305843009213693951) + 2049848353892358983) % 2305843009213693951) + 1442695040888963407) % 2305843009213693951 = _
      rw [hA, hB]
    rw [hmix]
    exact hend ns (p + 1) _ _ _
  · rw [if_neg hm]
    simp only [hm, if_false, List.nil_append]
    rw [ss_setix1]
    walk_at "ed"
    rw [ss_setix1]
    walk_at "ed"
    exact hend ns (p + 1) _ _ _
theorem draw_ok (k : Nat) (t : Tape) (many : Int) (h0 : 0 < many) (h1 : many < bigB) (Q : Store) :
    callF T sub wf (k + 1) i_law_draw [.ref 0, .d (.int many)] (t.cell :: Q) = .ok (.d (.int (t.draw many).1)) ((t.draw many).2.cell :: Q) := by
  rw [call_fn (fn := fn_law_draw) rfl rfl]
  have key : ∀ F, evSs F wf fn_law_draw.body (enter fn_law_draw [.ref 0, .d (.int many)]) (t.cell :: Q) = .ret (.d (.int (t.draw many).1)) ((t.draw many).2.cell :: Q) := by
    intro F
    obtain ⟨ns, p, c⟩ := t
    show evSs F wf fn_law_draw.body [some (.ref 0), some (.d (.int many)), none, none, none] (.lst [.d (.list (ns.map .int)), .d (.int p), .d (.int c)] :: Q) = _
    rw [show fn_law_draw.body = fn_law_draw.body.take 2 ++ fn_law_draw.body.drop 2 from rfl]
    have hend := fun ns p c o1 o2 => draw_end ns p c many h0 h1 Q o1 o2 F
    generalize fn_law_draw.body.drop 2 = tail at hend ⊢
    simp only [fn_law_draw, List.take_succ_cons, List.take_zero, List.cons_append, List.nil_append]
    rw [ss_asg1]
    walk_at "ed"
    rw [ss_ite1]
    walk_at "ed"
    rw [brS_dec]
    by_cases hc : c < many
    · rw [if_pos hc]
      have hd : (Tape.draw ⟨ns, p, c⟩ many) = ((Tape.next ⟨ns, p, c⟩) % many, ⟨ns, p + 1, (Tape.next ⟨ns, p, c⟩) / many⟩) := by
        unfold Tape.draw Tape.fill
        simp only [hc, if_true]
      rw [hd]
      try simp only [List.cons_append, List.nil_append]
      rw [ss_asg1]
      walk_at "ed"
      rw [ss_ite1]
      walk_at "ed"
      rw [brS_dec]
      by_cases hn : ns = []
      · subst hn
        rw [if_neg (by simp)]
        have := draw_mid [] p c many 0 h0 h1 Q F tail hend
        exact this
      · have hl : 0 < ns.length := List.length_pos_iff.mpr hn
        rw [if_pos (by omega)]
        try simp only [List.cons_append, List.nil_append]
        rw [ss_asg1]
        walk_at "ed"
        simp only [show (0 : Int) < (ns.length : Int) from by omega, if_true, R.bind_ok, raw_at ns p hn]
        walk_at "ed"
        have := draw_mid ns p c many (ns.getD (p % (ns.length : Int)).toNat 0) h0 h1 Q F tail hend
        have hr : Tape.raw ⟨ns, p, c⟩ = ns.getD (p % (ns.length : Int)).toNat 0 := by
          unfold Tape.raw
          simp only [hn, if_false]
        unfold Tape.next
        rw [hr]
        exact this
    · rw [if_neg hc]
      have hd : (Tape.draw ⟨ns, p, c⟩ many) = (c % many, ⟨ns, p, c / many⟩) := by
        unfold Tape.draw Tape.fill
        simp only [hc, if_false]
      rw [hd]
      exact hend ns p c _ _
  rw [key, fin_ret]
  exact exit_same (by simp)
end Lw

namespace Lw
open PySem Gv
/-- a draw again and again -/
def iter {α : Type} (f : Tape → α × Tape) : Nat → Tape → List α × Tape
  | 0, t => ([], t)
  | n + 1, t => ((f t).1 :: (iter f n (f t).2).1, (iter f n (f t).2).2)
theorem iter_length {α : Type} (f : Tape → α × Tape) : ∀ (n : Nat) (t : Tape), (iter f n t).1.length = n
  | 0, _ => rfl
  | n + 1, t => by simp [iter, iter_length f n]
theorem iter_all {α : Type} {f : Tape → α × Tape} {P : α → Prop} (h : ∀ t, P (f t).1) : ∀ (n : Nat) (t : Tape), ∀ x ∈ (iter f n t).1, P x
  | 0, _, x, hx => by simp [iter] at hx
  | n + 1, t, x, hx => by
    simp only [iter, List.mem_cons] at hx
    rcases hx with rfl | hx
    · exact h t
    · exact iter_all h n _ x hx
theorem lc_iter {α : Type} {cond elt : Slots → Store → R Val} {s : Slots} {i : Nat} {Q : Store} {f : Tape → α × Tape} {emb : α → PyData} (hc : ∀ v M, cond (s.set i (some v)) M = .ok (.d (.bool true)) M) :
    ∀ {vs : List Val} {t : Tape}, (∀ v ∈ vs, ∀ t : Tape, elt (s.set i (some v)) (t.cell :: Q) = .ok (.d (emb (f t).1)) ((f t).2.cell :: Q)) →
    lcL cond elt (.one i) s vs (t.cell :: Q) = .ok (((iter f vs.length t).1.map emb).map .d) ((iter f vs.length t).2.cell :: Q)
  | [], t, _ => rfl
  | v :: vs, t, h => by
    unfold lcL
    simp only [asgT]
    rw [hc]
    dsimp only
    rw [h v (by simp)]
    simp only [R.noexc_ok, R.bind_ok]
    rw [lc_iter hc (vs := vs) fun w hw => h w (by simp [hw])]
    rfl
theorem lcE_iter {α : Type} {F : FEnv} {c e : IE} {s : Slots} {i : Nat} {Q : Store} {f : Tape → α × Tape} {emb : α → PyData} {vs : List Val} {t : Tape} (hc : ∀ v M, evE F c (s.set i (some v)) M = .ok (.d (.bool true)) M)
    (h : ∀ v ∈ vs, ∀ t : Tape, evE F e (s.set i (some v)) (t.cell :: Q) = .ok (.d (emb (f t).1)) ((f t).2.cell :: Q)) :
    lcE F c e (.one i) s vs (t.cell :: Q) = .ok (((iter f vs.length t).1.map emb).map .d) ((iter f vs.length t).2.cell :: Q) := by
  unfold lcE
  exact lc_iter hc h
end Lw

namespace Lw
open PySem Gv
def min6 (most : Int) : Int := if 6 < most then 6 else most
theorem min6_lo {most : Int} (h : 0 < most) : 0 < min6 most := by unfold min6; split <;> omega
theorem min6_hi (most : Int) : min6 most ≤ most := by unfold min6; split <;> omega
def Tape.size (t : Tape) (most : Int) : Int × Tape :=
  (1 + pick3 (t.draw (min6 most)).1 ((t.draw (min6 most)).2.draw most).1 (most - 1) ((((t.draw (min6 most)).2.draw most).2.draw 8).1 * 3 / 10), (((t.draw (min6 most)).2.draw most).2.draw 8).2)
theorem Tape.size_lo (t : Tape) {most : Int} (h : 0 < most) : 1 ≤ (t.size most).1 := by
  have h1 := t.draw_lo (min6_lo h)
  have h2 := (t.draw (min6 most)).2.draw_lo h
  have := pick3_all (P := fun x : Int => 0 ≤ x) ((((t.draw (min6 most)).2.draw most).2.draw 8).1 * 3 / 10) h1 h2 (c := most - 1) (by omega)
  show 1 ≤ 1 + pick3 _ _ _ _
  omega
theorem Tape.size_hi (t : Tape) {most : Int} (h : 0 < most) : (t.size most).1 ≤ most := by
  have h1 := t.draw_hi (min6_lo h)
  have h2 := (t.draw (min6 most)).2.draw_hi h
  have h3 := min6_hi most
  have := pick3_all (P := fun x : Int => x < most) ((((t.draw (min6 most)).2.draw most).2.draw 8).1 * 3 / 10) (a := (t.draw (min6 most)).1) (by omega) h2 (c := most - 1) (by omega)
  show 1 + pick3 _ _ _ _ ≤ most
  omega
theorem size_ok (k : Nat) (t : Tape) (most : Int) (h0 : 0 < most) (h1 : most < bigB) (Q : Store) :
    callF T sub wf (k + 2) i_law_size [.ref 0, .d (.int most)] (t.cell :: Q) = .ok (.d (.int (t.size most).1)) ((t.size most).2.cell :: Q) := by
  rw [call_fn (fn := fn_law_size) rfl rfl]
  have hb : (8 : Int) < bigB := by unfold bigB; decide
  have hb10 : (10 : Int) < bigB := by unfold bigB; decide
  have hm := min6_lo h0
  have hm2 : min6 most < bigB := by have := min6_hi most; omega
  have e : evSs ⟨callF T sub wf (k + 1), sub⟩ wf fn_law_size.body (enter fn_law_size [.ref 0, .d (.int most)]) (t.cell :: Q) = .ret (.d (.int (t.size most).1)) ((t.size most).2.cell :: Q) := by
    show evSs _ wf fn_law_size.body [some (.ref 0), some (.d (.int most))] (t.cell :: Q) = _
    simp only [fn_law_size]
    rw [ss_ret1]
    walk_at "ev"
    rw [show (if (6 : Int) < most then (6 : Int) else most) = min6 most from rfl, draw_ok k t _ hm hm2]
    walk_at "ev"
    rw [draw_ok k _ most h0 h1]
    walk_at "ev"
    try rw [mkLV_3]
    try walk_at "ev"
    rw [draw_ok k _ 8 (by decide) hb]
    have q1 := (((t.draw (min6 most)).2.draw most).2).draw_lo (many := 8) (by decide)
    have q2 := (((t.draw (min6 most)).2.draw most).2).draw_hi (many := 8) (by decide)
    walk_at "ev"
    rw [mul_ii (mulOk_r (by decide) (by decide))]
    walk_at "ev"
    rw [div_ii (by decide) hb10]
    walk_at "ev"
    rw [idx_l (at3 _ _ _ (by omega) (by omega)), pick3_map PyData.int]
    walk_at "ev"
    rfl
  rw [e, fin_ret]
  exact exit_same (by simp)
end Lw

namespace Lw
open PySem Gv
def tupI (xs : List Int) : PyData := .tuple (xs.map .int)
def Tape.ink (thin : Int) (t : Tape) : Int × Tape := ((t.draw 16).1 * (if ((t.draw 16).2.draw thin).1 > 0 then 1 else 0), ((t.draw 16).2.draw thin).2)
theorem Tape.ink_lo (t : Tape) (thin : Int) : 0 ≤ (t.ink thin).1 := by
  have := t.draw_lo (many := 16) (by decide)
  show 0 ≤ (t.draw 16).1 * (if _ then 1 else 0)
  split <;> omega
theorem Tape.ink_hi (t : Tape) (thin : Int) : (t.ink thin).1 ≤ 15 := by
  have := t.draw_hi (many := 16) (by decide)
  have h2 := t.draw_lo (many := 16) (by decide)
  show (t.draw 16).1 * (if _ then 1 else 0) ≤ 15
  split <;> omega
def Tape.inks (wide thin : Int) (t : Tape) : List Int × Tape := iter (Tape.ink thin) wide.toNat t
theorem inks_ok (k : Nat) (t : Tape) (wide thin : Int) (h0 : 0 < thin) (h1 : thin < bigB) (w0 : 0 ≤ wide) (w1 : wide < 16777216) (Q : Store) :
    callF T sub wf (k + 2) i_law_inks [.ref 0, .d (.int wide), .d (.int thin)] (t.cell :: Q) = .ok (.d (tupI (t.inks wide thin).1)) ((t.inks wide thin).2.cell :: Q) := by
  rw [call_fn (fn := fn_law_inks) rfl rfl]
  have hb : (16 : Int) < bigB := by unfold bigB; decide
  have e : evSs ⟨callF T sub wf (k + 1), sub⟩ wf fn_law_inks.body (enter fn_law_inks [.ref 0, .d (.int wide), .d (.int thin)]) (t.cell :: Q) = .ret (.d (tupI (t.inks wide thin).1)) ((t.inks wide thin).2.cell :: Q) := by
    show evSs _ wf fn_law_inks.body [some (.ref 0), some (.d (.int wide)), some (.d (.int thin)), none] (t.cell :: Q) = _
    simp only [fn_law_inks]
    rw [ss_ret1]
    walk_at "ev"
    rw [rng1_ok w1 (by omega)]
    walk_at "ev"
    rw [lcE_iter (f := Tape.ink thin) (emb := PyData.int) (fun v M => rfl)]
    · rw [upTo_length]
      walk_at "ev"
      rfl
    · intro v hv t
      walk_at "ev"
      rw [draw_ok k t 16 (by decide) hb]
      walk_at "ev"
      rw [draw_ok k _ thin h0 h1]
      walk_at "ev"
      rw [mul_ii (mulOk_l (by have := t.draw_lo (many := 16) (by decide); omega) (by have := t.draw_hi (many := 16) (by decide); omega))]
      unfold Tape.ink
      by_cases hp : 0 < ((t.draw 16).2.draw thin).1
      · simp [hp]
      · simp [hp]
  rw [e, fin_ret]
  exact exit_same (by simp)
end Lw

namespace Lw
open PySem Gv
def rowsD (sh : List (List Int)) : PyData := .tuple (sh.map tupI)
def Tape.inked (most : Int) (t : Tape) : List (List Int) × Tape :=
  let w := t.size most
  let h := w.2.draw 4
  let n := h.2.size most
  iter (Tape.inks w.1 (1 + h.1)) n.1.toNat n.2
theorem inked_ok (k : Nat) (t : Tape) (most : Int) (h0 : 0 < most) (h1 : most ≤ 1000) (Q : Store) :
    callF T sub wf (k + 3) i_law_inked [.ref 0, .d (.int most)] (t.cell :: Q) = .ok (.d (rowsD (t.inked most).1)) ((t.inked most).2.cell :: Q) := by
  rw [call_fn (fn := fn_law_inked) rfl rfl]
  have hb : (1000 : Int) < bigB := by unfold bigB; decide
  have w1 := t.size_lo h0
  have w2 := t.size_hi h0
  have d1 := (t.size most).2.draw_lo (many := 4) (by decide)
  have d2 := (t.size most).2.draw_hi (many := 4) (by decide)
  have n1 := ((t.size most).2.draw 4).2.size_lo h0
  have n2 := ((t.size most).2.draw 4).2.size_hi h0
  have e : evSs ⟨callF T sub wf (k + 2), sub⟩ wf fn_law_inked.body (enter fn_law_inked [.ref 0, .d (.int most)]) (t.cell :: Q) = .ret (.d (rowsD (t.inked most).1)) ((t.inked most).2.cell :: Q) := by
    show evSs _ wf fn_law_inked.body [some (.ref 0), some (.d (.int most)), none, none, none] (t.cell :: Q) = _
    simp only [fn_law_inked]
    rw [ss_asg1]
    walk_at "ev"
    rw [size_ok k t most h0 (by omega)]
    walk_at "ev"
    rw [ss_asg1]
    walk_at "ev"
    rw [draw_ok (k + 1) _ 4 (by decide) (by omega)]
    walk_at "ev"
    rw [ss_ret1]
    walk_at "ev"
    rw [size_ok k _ most h0 (by omega)]
    walk_at "ev"
    rw [rng1_ok (by omega) (by omega)]
    walk_at "ev"
    rw [lcE_iter (f := Tape.inks (t.size most).1 (1 + ((t.size most).2.draw 4).1)) (emb := tupI) (fun v M => rfl)]
    · rw [upTo_length]
      walk_at "ev"
      rfl
    · intro v hv t'
      walk_at "ev"
      exact inks_ok k t' _ _ (by omega) (by omega) (by omega) (by omega) Q
  rw [e, fin_ret]
  exact exit_same (by simp)
/-- what is drawn is a shape -/
structure Shape (most : Nat) (sh : List (List Int)) : Prop where
  h0 : 1 ≤ sh.length
  h1 : sh.length ≤ most
  w : ∃ w, 1 ≤ w ∧ w ≤ most ∧ ∀ r ∈ sh, r.length = w
  ink : ∀ r ∈ sh, ∀ x ∈ r, 0 ≤ x ∧ x ≤ 15
theorem inked_shape (t : Tape) {most : Nat} (h0 : 0 < most) : Shape most (t.inked most).1 := by
  have hm : (0 : Int) < most := by omega
  have w1 := t.size_lo hm
  have w2 := t.size_hi hm
  have n1 := ((t.size most).2.draw 4).2.size_lo hm
  have n2 := ((t.size most).2.draw 4).2.size_hi hm
  refine ⟨?_, ?_, ⟨(t.size most).1.toNat, by omega, by omega, ?_⟩, ?_⟩
  · show 1 ≤ (iter _ _ _).1.length
    rw [iter_length]
    omega
  · show (iter _ _ _).1.length ≤ most
    rw [iter_length]
    omega
  · exact iter_all (P := fun r : List Int => r.length = (t.size most).1.toNat) (fun t' => iter_length _ _ _) _ _
  · refine iter_all (P := fun r : List Int => ∀ x ∈ r, 0 ≤ x ∧ x ≤ 15) (fun t' => ?_) _ _
    exact iter_all (P := fun x : Int => 0 ≤ x ∧ x ≤ 15) (fun t'' => ⟨t''.ink_lo _, t''.ink_hi _⟩) _ _
end Lw

namespace Lw
open PySem Gv
theorem lc_ex {α : Type} {F : FEnv} {e : IE} {s : Slots} {i : Nat} {Q : Store} {emb : α → PyData} {P : α → Prop} : ∀ {vs : List Val} {t : Tape},
    (∀ v ∈ vs, ∀ t : Tape, ∃ (a : α) (t' : Tape), evE F e (s.set i (some v)) (t.cell :: Q) = .ok (.d (emb a)) (t'.cell :: Q) ∧ P a) →
    ∃ (as : List α) (t' : Tape), lcE F (.lit (.bool true)) e (.one i) s vs (t.cell :: Q) = .ok ((as.map emb).map .d) (t'.cell :: Q) ∧ as.length = vs.length ∧ ∀ a ∈ as, P a
  | [], t, _ => ⟨[], t, rfl, rfl, fun _ h => by simp at h⟩
  | v :: vs, t, h => by
    obtain ⟨a, t1, e1, p1⟩ := h v (by simp) t
    obtain ⟨as, t2, e2, l2, p2⟩ := lc_ex (vs := vs) (t := t1) fun w hw => h w (by simp [hw])
    refine ⟨a :: as, t2, ?_, by simp [l2], fun b hb => ?_⟩
    · unfold lcE at e2 ⊢
      unfold lcL
      simp only [asgT, ev_lit]
      rw [e1]
      simp only [R.noexc_ok, R.bind_ok]
      rw [e2]
      rfl
    · rcases List.mem_cons.mp hb with rfl | hb
      · exact p1
      · exact p2 b hb
end Lw

namespace Lw
open PySem Gv
theorem far_ok (k : Nat) (t : Tape) (size : Int) (h0 : 0 ≤ size) (h1 : size ≤ 100) (Q : Store) :
    ∃ (x : Int) (t' : Tape), callF T sub wf (k + 2) i_law_far [.ref 0, .d (.int size)] (t.cell :: Q) = .ok (.d (.int x)) (t'.cell :: Q) ∧ -1000 ≤ x ∧ x ≤ 1000 := by
  rw [call_fn (fn := fn_law_far) rfl rfl]
  have hb : (2001 : Int) < bigB := by unfold bigB; decide
  have e : ∃ (x : Int) (t' : Tape), evSs ⟨callF T sub wf (k + 1), sub⟩ wf fn_law_far.body (enter fn_law_far [.ref 0, .d (.int size)]) (t.cell :: Q) = .ret (.d (.int x)) (t'.cell :: Q) ∧ -1000 ≤ x ∧ x ≤ 1000 := by
    show ∃ (x : Int) (t' : Tape), evSs _ wf fn_law_far.body [some (.ref 0), some (.d (.int size))] (t.cell :: Q) = _ ∧ _
    unfold fn_law_far
    walk_at "st"
    rw [draw_ok k t _ (by omega) (by omega)]
    have a1 := t.draw_lo (many := size + 16) (by omega)
    have a2 := t.draw_hi (many := size + 16) (by omega)
    generalize t.draw (size + 16) = p1 at a1 a2 ⊢
    walk_at "st"
    rw [draw_ok k _ 2001 (by decide) hb]
    have b1 := p1.2.draw_lo (many := 2001) (by decide)
    have b2 := p1.2.draw_hi (many := 2001) (by decide)
    generalize p1.2.draw 2001 = p2 at b1 b2 ⊢
    walk_at "st"
    rw [draw_ok k _ 8 (by decide) (by omega)]
    have c1 := p2.2.draw_lo (many := 8) (by decide)
    have c2 := p2.2.draw_hi (many := 8) (by decide)
    generalize p2.2.draw 8 = p3 at c1 c2 ⊢
    walk_at "st"
    rw [div_ii (by decide) (by omega)]
    walk_at "st"
    rw [idx_l (at2 _ _ (by omega) (by omega)), ite_int]
    walk_at "st"
    refine ⟨_, p3.2, rfl, ?_, ?_⟩ <;> (split <;> omega)
  obtain ⟨x, t', e, h⟩ := e
  refine ⟨x, t', ?_, h⟩
  rw [e, fin_ret]
  exact exit_same (by simp)
structure Frame where
  wide : Int
  high : Int
  gap : Int
  most : Int
def frameD (f : Frame) : PyData := .tuple [.int f.wide, .int f.high, .int f.gap, .int f.most]
structure Frame.Ok (f : Frame) (m : Int) : Prop where
  w0 : 1 ≤ f.wide
  w1 : f.wide ≤ m
  h0 : 1 ≤ f.high
  h1 : f.high ≤ m
  g0 : 0 ≤ f.gap
  g1 : f.gap ≤ 20
  m0 : 0 ≤ f.most
  m1 : f.most ≤ 12
theorem frame_ok (k : Nat) (t : Tape) (m : Int) (h0 : 0 < m) (h1 : m ≤ 1000) (Q : Store) :
    ∃ (f : Frame) (t' : Tape), callF T sub wf (k + 3) i_law_frame [.ref 0, .d (.int m)] (t.cell :: Q) = .ok (.d (frameD f)) (t'.cell :: Q) ∧ f.Ok m := by
  rw [call_fn (fn := fn_law_frame) rfl rfl]
  have hb : (1000 : Int) < bigB := by unfold bigB; decide
  have e : ∃ (f : Frame) (t' : Tape), evSs ⟨callF T sub wf (k + 2), sub⟩ wf fn_law_frame.body (enter fn_law_frame [.ref 0, .d (.int m)]) (t.cell :: Q) = .ret (.d (frameD f)) (t'.cell :: Q) ∧ f.Ok m := by
    show ∃ (f : Frame) (t' : Tape), evSs _ wf fn_law_frame.body [some (.ref 0), some (.d (.int m)), none] (t.cell :: Q) = _ ∧ _
    unfold fn_law_frame
    walk_at "st"
    rw [draw_ok (k + 1) t 21 (by decide) (by omega)]
    have a1 := t.draw_lo (many := 21) (by decide)
    have a2 := t.draw_hi (many := 21) (by decide)
    generalize t.draw 21 = p1 at a1 a2 ⊢
    walk_at "st"
    rw [draw_ok (k + 1) _ 2 (by decide) (by omega)]
    have b1 := p1.2.draw_lo (many := 2) (by decide)
    have b2 := p1.2.draw_hi (many := 2) (by decide)
    generalize p1.2.draw 2 = p2 at b1 b2 ⊢
    walk_at "st"
    rw [idx_l (at2 _ _ b1 b2), ite_int]
    walk_at "st"
    rw [size_ok k _ m h0 (by omega)]
    have c1 := p2.2.size_lo h0
    have c2 := p2.2.size_hi h0
    generalize p2.2.size m = p3 at c1 c2 ⊢
    walk_at "st"
    rw [size_ok k _ m h0 (by omega)]
    have d1 := p3.2.size_lo h0
    have d2 := p3.2.size_hi h0
    generalize p3.2.size m = p4 at d1 d2 ⊢
    walk_at "st"
    rw [draw_ok (k + 1) _ 13 (by decide) (by omega)]
    have e1 := p4.2.draw_lo (many := 13) (by decide)
    have e2 := p4.2.draw_hi (many := 13) (by decide)
    generalize p4.2.draw 13 = p5 at e1 e2 ⊢
    walk_at "st"
    refine ⟨⟨p3.1, p4.1, if p2.1 = 0 then 0 else p1.1, p5.1⟩, p5.2, rfl, ⟨c1, c2, d1, d2, ?_, ?_, e1, by show p5.1 ≤ 12; omega⟩⟩
    · show 0 ≤ (if p2.1 = 0 then 0 else p1.1)
      split <;> omega
    · show (if p2.1 = 0 then 0 else p1.1) ≤ 20
      split <;> omega
  obtain ⟨x, t', e, h⟩ := e
  refine ⟨x, t', ?_, h⟩
  rw [e, fin_ret]
  exact exit_same (by simp)
end Lw

namespace Lw
open PySem Gv
structure Mover where
  shape : Option Nat
  x : Int
  y : Int
  rank : Int
  turn : Int
def shapeN : Option Nat → PyData
  | none => .none
  | some n => .int (n : Int)
def moverD (m : Mover) : PyData := .tuple [shapeN m.shape, .int m.x, .int m.y, .int m.rank, .int m.turn]
structure Mover.Ok (m : Mover) (shapes : Nat) : Prop where
  s : ∀ n, m.shape = some n → n < shapes
  x0 : -1000 ≤ m.x
  x1 : m.x ≤ 1000
  y0 : -1000 ≤ m.y
  y1 : m.y ≤ 1000
  r0 : 0 ≤ m.rank
  r1 : m.rank < 4
  t0 : 0 ≤ m.turn
  t1 : m.turn < 4
theorem mover_tail (k : Nat) (t : Tape) (f : Frame) (hf : f.Ok 40) (shapes : Nat) (s : Option Nat) (hs : ∀ n, s = some n → n < shapes) (a2 : Option Val) (Q : Store) :
    ∃ (m : Mover) (t' : Tape), evSs ⟨callF T sub wf (k + 2), sub⟩ wf [.ret (.tup [(.var 3), (.call i_law_far [(.var 0), (.idx (.var 1) (.lit (.int 0)))]), (.call i_law_far [(.var 0), (.idx (.var 1) (.lit (.int 1)))]), (.call i_law_draw [(.var 0), (.lit (.int 4))]), (.call i_law_draw [(.var 0), (.lit (.int 4))])])]
      [some (.ref 0), some (.d (frameD f)), a2, some (.d (shapeN s))] (t.cell :: Q) = .ret (.d (moverD m)) (t'.cell :: Q) ∧ m.Ok shapes := by
  have hb : (4 : Int) < bigB := by unfold bigB; decide
  unfold frameD
  walk_at "st"
  obtain ⟨x, t1, e1, x0, x1⟩ := far_ok k t f.wide (by have := hf.w0; omega) (by have := hf.w1; omega) Q
  rw [e1]
  walk_at "st"
  obtain ⟨y, t2, e2, y0, y1⟩ := far_ok k t1 f.high (by have := hf.h0; omega) (by have := hf.h1; omega) Q
  rw [e2]
  walk_at "st"
  rw [draw_ok (k + 1) t2 4 (by decide) hb]
  have a1 := t2.draw_lo (many := 4) (by decide)
  have a2 := t2.draw_hi (many := 4) (by decide)
  generalize t2.draw 4 = p1 at a1 a2 ⊢
  walk_at "st"
  rw [draw_ok (k + 1) _ 4 (by decide) hb]
  have b1 := p1.2.draw_lo (many := 4) (by decide)
  have b2 := p1.2.draw_hi (many := 4) (by decide)
  generalize p1.2.draw 4 = p2 at b1 b2 ⊢
  walk_at "st"
  exact ⟨⟨s, x, y, p1.1, p2.1⟩, p2.2, rfl, ⟨hs, x0, x1, y0, y1, a1, a2, b1, b2⟩⟩
theorem mover_ok (k : Nat) (t : Tape) (f : Frame) (hf : f.Ok 40) (shapes : Nat) (hs : shapes ≤ 8) (Q : Store) :
    ∃ (m : Mover) (t' : Tape), callF T sub wf (k + 3) i_law_mover [.ref 0, .d (frameD f), .d (.int shapes)] (t.cell :: Q) = .ok (.d (moverD m)) (t'.cell :: Q) ∧ m.Ok shapes := by
  have hb : (8 : Int) < bigB := by unfold bigB; decide
  rw [call_fn (fn := fn_law_mover) rfl rfl]
  have e : ∃ (m : Mover) (t' : Tape), evSs ⟨callF T sub wf (k + 2), sub⟩ wf fn_law_mover.body (enter fn_law_mover [.ref 0, .d (frameD f), .d (.int shapes)]) (t.cell :: Q) = .ret (.d (moverD m)) (t'.cell :: Q) ∧ m.Ok shapes := by
    show ∃ (m : Mover) (t' : Tape), evSs _ wf fn_law_mover.body [some (.ref 0), some (.d (frameD f)), some (.d (.int shapes)), none] (t.cell :: Q) = _ ∧ _
    unfold fn_law_mover
    rw [ss_asg1]
    walk_at "ev"
    rw [ss_ite1]
    walk_at "ev"
    by_cases h0 : 0 < (shapes : Int)
    · rw [if_pos h0, draw_ok (k + 1) t 8 (by decide) hb]
      walk_at "ev"
      rw [brS_dec]
      generalize t.draw 8 = p0
      by_cases h1 : 0 < p0.1
      · rw [if_pos h1, ss_asg1]
        walk_at "ev"
        rw [draw_ok (k + 1) _ _ h0 (by omega)]
        have a1 := p0.2.draw_lo (many := shapes) h0
        have a2 := p0.2.draw_hi (many := shapes) h0
        generalize p0.2.draw shapes = p1 at a1 a2 ⊢
        walk_at "ev"
        have := mover_tail k p1.2 f hf shapes (some p1.1.toNat) (fun n hn => by cases hn; omega) (some (.d (.int shapes))) Q
        rw [show shapeN (some p1.1.toNat) = .int p1.1 from by show PyData.int ((p1.1.toNat : Nat) : Int) = _; rw [Int.toNat_of_nonneg a1]] at this
        exact this
      · rw [if_neg h1]
        exact mover_tail k _ f hf shapes none (fun n hn => by cases hn) _ Q
    · rw [if_neg h0, bl_toS, brS_F]
      exact mover_tail k _ f hf shapes none (fun n hn => by cases hn) _ Q
  obtain ⟨x, t', e, h⟩ := e
  refine ⟨x, t', ?_, h⟩
  rw [e, fin_ret]
  exact exit_same (by simp)
structure Stand where
  floor : List (List Int)
  sx : Int
  sy : Int
  book : List (List (List Int))
  movers : List Mover
  pots : List Int
def standD (s : Stand) : PyData := .tuple [rowsD s.floor, .tuple [.int s.sx, .int s.sy], .tuple (s.book.map rowsD), .tuple (s.movers.map moverD), .tuple (s.pots.map .int)]
structure Stand.Ok (s : Stand) (most : Nat) : Prop where
  fl : Shape 16 s.floor
  x0 : -1000 ≤ s.sx
  x1 : s.sx ≤ 1000
  y0 : -1000 ≤ s.sy
  y1 : s.sy ≤ 1000
  bk : ∀ b ∈ s.book, Shape 8 b
  bl : s.book.length ≤ 8
  mv : ∀ m ∈ s.movers, m.Ok s.book.length
  ml : s.movers.length ≤ most
  pt : ∀ p ∈ s.pots, 0 ≤ p ∧ p < 64
  pl : s.pots.length = 16
theorem stand_ok (k : Nat) (t : Tape) (f : Frame) (hf : f.Ok 40) (most : Nat) (hm : most ≤ 1000) (Q : Store) :
    ∃ (s : Stand) (t' : Tape), callF T sub wf (k + 4) i_law_stand [.ref 0, .d (frameD f), .d (.int most)] (t.cell :: Q) = .ok (.d (standD s)) (t'.cell :: Q) ∧ s.Ok most := by
  have hb : (1001 : Int) < bigB := by unfold bigB; decide
  rw [call_fn (fn := fn_law_stand) rfl rfl]
  have e : ∃ (s : Stand) (t' : Tape), evSs ⟨callF T sub wf (k + 3), sub⟩ wf fn_law_stand.body (enter fn_law_stand [.ref 0, .d (frameD f), .d (.int most)]) (t.cell :: Q) = .ret (.d (standD s)) (t'.cell :: Q) ∧ s.Ok most := by
    show ∃ (s : Stand) (t' : Tape), evSs _ wf fn_law_stand.body [some (.ref 0), some (.d (frameD f)), some (.d (.int most)), none, none, none, none, none, none] (t.cell :: Q) = _ ∧ _
    unfold fn_law_stand
    rw [ss_asg1]
    walk_at "ev"
    rw [inked_ok k t 16 (by decide) (by decide)]
    have hfl := inked_shape t (most := 16) (by decide)
    rw [show ((16 : Nat) : Int) = 16 from rfl] at hfl
    generalize t.inked 16 = p0 at hfl ⊢
    walk_at "ev"
    rw [ss_asg1]
    walk_at "ev"
    obtain ⟨sx, t1, e1, x0, x1⟩ := far_ok (k + 1) p0.2 9 (by decide) (by decide) Q
    rw [e1]
    walk_at "ev"
    obtain ⟨sy, t2, e2, y0, y1⟩ := far_ok (k + 1) t1 9 (by decide) (by decide) Q
    rw [e2]
    walk_at "ev"
    rw [ss_asg1]
    walk_at "ev"
    rw [draw_ok (k + 2) t2 4 (by decide) (by omega)]
    have a1 := t2.draw_lo (many := 4) (by decide)
    have a2 := t2.draw_hi (many := 4) (by decide)
    generalize t2.draw 4 = p1 at a1 a2 ⊢
    walk_at "ev"
    rw [draw_ok (k + 2) _ 9 (by decide) (by omega)]
    have b1 := p1.2.draw_lo (many := 9) (by decide)
    have b2 := p1.2.draw_hi (many := 9) (by decide)
    generalize p1.2.draw 9 = p2 at b1 b2 ⊢
    walk_at "ev"
    rw [draw_ok (k + 2) _ 4 (by decide) (by omega)]
    have c1 := p2.2.draw_lo (many := 4) (by decide)
    have c2 := p2.2.draw_hi (many := 4) (by decide)
    generalize p2.2.draw 4 = p3 at c1 c2 ⊢
    walk_at "ev"
    rw [div_ii (by decide) (by omega)]
    walk_at "ev"
    rw [idx_l (at2 _ _ (by omega) (by omega)), ite_int]
    walk_at "ev"
    have hsn : ∃ n : Nat, (if p3.1 / 3 = 0 then p1.1 else p2.1) = (n : Int) ∧ n ≤ 8 := by
      refine ⟨(if p3.1 / 3 = 0 then p1.1 else p2.1).toNat, ?_, ?_⟩ <;> (split <;> omega)
    obtain ⟨n, hn, hn8⟩ := hsn
    rw [hn, ss_asg1]
    walk_at "ev"
    rw [rng1_ok (by omega) (by omega)]
    walk_at "ev"
    obtain ⟨book, t4, e4, l4, p4⟩ := lc_ex (F := ⟨callF T sub wf (k + 3), sub⟩) (e := .call i_law_inked [(.var 0), (.lit (.int 8))]) (s := [some (.ref 0), some (.d (frameD f)), some (.d (.int most)), some (.d (rowsD p0.1)), some (.d (.tuple [.int sx, .int sy])), some (.d (.int n)), none, none, none]) (i := 8) (Q := Q) (emb := rowsD) (P := fun b => Shape 8 b) (vs := Gv.upTo 0 (n : Int).toNat) (t := p3.2) (fun v hv t => by
      refine ⟨(t.inked 8).1, (t.inked 8).2, ?_, inked_shape t (most := 8) (by decide)⟩
      walk_at "ev"
      exact inked_ok k t 8 (by decide) (by decide) Q)
    rw [e4]
    walk_at "ev"
    rw [upTo_length, Int.toNat_natCast] at l4
    rw [ss_asg1]
    walk_at "ev"
    rw [draw_ok (k + 2) t4 _ (by omega) (by omega)]
    have d1 := t4.draw_lo (many := (most : Int) + 1) (by omega)
    have d2 := t4.draw_hi (many := (most : Int) + 1) (by omega)
    generalize t4.draw ((most : Int) + 1) = p5 at d1 d2 ⊢
    walk_at "ev"
    rw [rng1_ok (by omega) (by omega)]
    walk_at "ev"
    obtain ⟨movers, t6, e6, l6, p6⟩ := lc_ex (F := ⟨callF T sub wf (k + 3), sub⟩) (e := .call i_law_mover [(.var 0), (.var 1), (.bi false .len [(.var 6)])]) (s := [some (.ref 0), some (.d (frameD f)), some (.d (.int most)), some (.d (rowsD p0.1)), some (.d (.tuple [.int sx, .int sy])), some (.d (.int n)), some (.d (.tuple (book.map rowsD))), none, none]) (i := 8) (Q := Q) (emb := moverD) (P := fun m => m.Ok book.length) (vs := Gv.upTo 0 p5.1.toNat) (t := p5.2) (fun v hv t => by
      walk_at "ev"
      exact mover_ok k t f hf book.length (by omega) Q)
    rw [e6]
    walk_at "ev"
    rw [upTo_length] at l6
    rw [ss_ret1]
    walk_at "ev"
    rw [rng1_ok (by decide) (by decide)]
    walk_at "ev"
    obtain ⟨pots, t7, e7, l7, p7⟩ := lc_ex (F := ⟨callF T sub wf (k + 3), sub⟩) (e := .call i_law_draw [(.var 0), (.lit (.int 64))]) (s := [some (.ref 0), some (.d (frameD f)), some (.d (.int most)), some (.d (rowsD p0.1)), some (.d (.tuple [.int sx, .int sy])), some (.d (.int n)), some (.d (.tuple (book.map rowsD))), some (.d (.tuple (movers.map moverD))), none]) (i := 8) (Q := Q) (emb := PyData.int) (P := fun p : Int => 0 ≤ p ∧ p < 64) (vs := Gv.upTo 0 (16 : Int).toNat) (t := t6) (fun v hv t => by
      refine ⟨(t.draw 64).1, (t.draw 64).2, ?_, t.draw_lo (by decide), t.draw_hi (by decide)⟩
      walk_at "ev"
      exact draw_ok (k + 2) t 64 (by decide) (by omega) Q)
    rw [e7]
    walk_at "ev"
    rw [upTo_length] at l7
    exact ⟨⟨p0.1, sx, sy, book, movers, pots⟩, t7, rfl, ⟨hfl, x0, x1, y0, y1, p4, by show book.length ≤ 8; omega, p6, by show movers.length ≤ most; omega, p7, l7⟩⟩
  obtain ⟨x, t', e, h⟩ := e
  refine ⟨x, t', ?_, h⟩
  rw [e, fin_ret]
  exact exit_same (by simp)
end Lw

namespace Lw
open PySem Gv
/-- mover k lies on the row -/
def lies (s : Stand) (row : Int) (k : Nat) : Bool := match s.movers[k]? with
  | some m => (match m.shape with
    | some n => decide (0 ≤ row - m.y) && decide (row - m.y < (s.book.getD n []).length)
    | none => false)
  | none => false
def lyingL (s : Stand) (row : Int) : List Nat := (List.range s.movers.length).filter (lies s row)
theorem rows_len {al : Bool} {M : Store} (sh : List (List Int)) : biD al .len [.d (rowsD sh)] M = .ok (.d (.int sh.length)) M := by unfold rowsD; exact len_map_t _ _
def nsD (l : List Nat) : List PyData := l.map fun (n : Nat) => PyData.int (n : Int)
abbrev m0 : Mover := ⟨none, 0, 0, 0, 0⟩
theorem lies_at {s : Stand} {row : Int} {k : Nat} (hk : k < s.movers.length) : lies s row k = (match (s.movers.getD k m0).shape with
    | some n => decide (0 ≤ row - (s.movers.getD k m0).y) && decide (row - (s.movers.getD k m0).y < (s.book.getD n []).length)
    | none => false) := by
  unfold lies
  simp [hk, List.getD_eq_getElem?_getD]
theorem nsD_app (a b : List Nat) : nsD (a ++ b) = nsD a ++ nsD b := by simp [nsD]
theorem lying_ok (k : Nat) (s : Stand) (hs : s.Ok 1000) (row : Int) :
    callF T sub wf (k + 1) i_lying_on [.d (standD s), .d (.int row)] [] = .ok (.d (.list (nsD (lyingL s row)))) [] := by
  rw [call_fn (fn := fn_lying_on) rfl rfl]
  have hml := hs.ml
  have e : ∃ a3 a4, evSs ⟨callF T sub wf k, sub⟩ wf fn_lying_on.body (enter fn_lying_on [.d (standD s), .d (.int row)]) [] = .ret (.ref 0) [.lst ((nsD (lyingL s row)).map .d)] ∧ a3 = 0 ∧ a4 = 0 := by
    refine ⟨0, 0, ?_, rfl, rfl⟩
    show evSs _ wf fn_lying_on.body [some (.d (standD s)), some (.d (.int row)), none, none, none] [] = _
    unfold fn_lying_on
    rw [ss_asg1]
    walk_at "ev"
    rw [ss_for1]
    unfold standD
    walk_at "ev"
    rw [show enumD (.d (.tuple (s.movers.map moverD))) = some ((List.range s.movers.length).map fun k : Nat => Val.d (.tuple [.int (k : Int), moverD (s.movers.getD k m0)])) from by
      rw [← enum_map moverD m0 s.movers]; rfl]
    walk_at "ev"
    obtain ⟨s', M', e1, a3, a4, e2, e3⟩ := for_idx (body := evSs ⟨callF T sub wf k, sub⟩ wf [
      .ite (.and (.cmp .IsNot (.idx (.var 4) (.lit (.int 0))) (.lit .none)) (.and (.cmp .LtE (.lit (.int 0)) (.bin false .Sub (.var 1) (.idx (.var 4) (.lit (.int 2))))) (.cmp .Lt (.bin false .Sub (.var 1) (.idx (.var 4) (.lit (.int 2)))) (.bi false .len [(.idx (.idx (.var 0) (.lit (.int 2))) (.idx (.var 4) (.lit (.int 0))))])))) [
        .app (.var 2) (.var 3)] []]) (tg := .many [3, 4]) (vs := (List.range s.movers.length).map fun k : Nat => Val.d (.tuple [.int (k : Int), moverD (s.movers.getD k m0)]))
        (fun i sl M => ∃ a3 a4, sl = [some (.d (standD s)), some (.d (.int row)), some (.ref 0), a3, a4] ∧ M = [.lst ((nsD ((List.range i).filter (lies s row))).map .d)]) (s := [some (.d (standD s)), some (.d (.int row)), some (.ref 0), none, none]) (M := [.lst []])
      (fun i v hv sl M p => by
        obtain ⟨hi, rfl⟩ := range_at hv
        obtain ⟨a3, a4, rfl, rfl⟩ := p
        refine ⟨_, _, _, rfl, ?_, some (.d (.int (i : Int))), some (.d (moverD (s.movers.getD i m0))), rfl, rfl⟩
        have hm := hs.mv _ (getD_mem (d := m0) hi)
        rw [filter_succ, nsD_app, lies_at hi]
        generalize s.movers.getD i m0 = m at hm
        have hlen : ((List.range i).filter (lies s row)).length ≤ i := by
          have := List.length_filter_le (lies s row) (List.range i)
          simpa using this
        generalize (List.range i).filter (lies s row) = acc at hlen
        show evSs _ wf _ [some (.d (standD s)), some (.d (.int row)), some (.ref 0), some (.d (.int (i : Int))), some (.d (moverD m))] _ = _
        rw [ss_ite1]
        unfold moverD
        walk_at "ev"
        cases hsh : m.shape with
        | none =>
          simp only [shapeN, isNone, Bool.not_true, brV_F, bl_toS, brS_F]
          rw [ss0]
          simp [nsD]
        | some n =>
          have hn := hm.s n hsh
          simp only [shapeN, isNone, Bool.not_false, brV_T]
          unfold standD
          walk_at "ev"
          simp only [idx_t (map_at rowsD s.book [] (Int.natCast_nonneg n) (by omega)), bind_k, rows_len, Int.toNat_natCast]
          walk_at "ev"
          rw [brS_dec]
          by_cases hc : 0 ≤ row - m.y ∧ row - m.y < (s.book.getD n []).length
          · rw [if_pos hc, ss_app1]
            walk_at "ev"
            rw [if_pos (by simp [nsD]; unfold lim; omega)]
            have : (decide (0 ≤ row - m.y) && decide (row - m.y < (s.book.getD n []).length)) = true := by rw [Bool.and_eq_true, decide_eq_true_eq, decide_eq_true_eq]; exact hc
            simp only [this, if_true, ss0]
            simp [nsD]
          · rw [if_neg hc]
            have : (decide (0 ≤ row - m.y) && decide (row - m.y < (s.book.getD n []).length)) = false := by
              rw [Bool.and_eq_false_iff, decide_eq_false_iff_not, decide_eq_false_iff_not]
              omega
            simp only [this, ss0]
            simp [nsD]) ⟨none, none, rfl, rfl⟩
    subst e2 e3
    refine (congrArg (cont _ wf _) e1).trans ?_
    rw [cont_next, ss_ret1]
    walk_at "ev"
    unfold lyingL
    simp only [List.length_map, List.length_range]
  obtain ⟨_, _, e, _⟩ := e
  rw [e, fin_ret]
  exact exit_frz rfl (Nat.zero_le _) rfl
end Lw

namespace Lw
open PySem Gv
theorem upTo0 (n : Nat) : Gv.upTo 0 n = (List.range n).map fun k : Nat => Val.d (.int (k : Int)) := by simp [Gv.upTo]
theorem llying_ok (k : Nat) (s : Stand) (hs : s.Ok 1000) (row : Int) :
    callF T sub wf (k + 1) i_law_lying [.d (standD s), .d (.int row)] [] = .ok (.d (.list (nsD (lyingL s row)))) [] := by
  rw [call_fn (fn := fn_law_lying) rfl rfl]
  have hml := hs.ml
  have e : evSs ⟨callF T sub wf k, sub⟩ wf fn_law_lying.body (enter fn_law_lying [.d (standD s), .d (.int row)]) [] = .ret (.ref 0) [.lst ((nsD (lyingL s row)).map .d)] := by
    show evSs _ wf fn_law_lying.body [some (.d (standD s)), some (.d (.int row)), none, none, none, none, none, none, none] [] = _
    unfold fn_law_lying
    rw [ss_asg1]
    walk_at "ev"
    rw [ss_for1]
    unfold standD
    walk_at "ev"
    rw [rng1_ok (by omega) (by omega), Int.toNat_natCast, upTo0]
    walk_at "ev"
    obtain ⟨s', M', e1, a3, a4, a5, a6, a7, a8, e2, e3⟩ := for_idx (body := evSs ⟨callF T sub wf k, sub⟩ wf [
      .asg (.many [4, 5, 6, 7, 8]) (.idx (.idx (.var 0) (.lit (.int 3))) (.var 3)),
      .ite (.and (.cmp .IsNot (.var 4) (.lit .none)) (.and (.cmp .LtE (.var 6) (.var 1)) (.cmp .Lt (.var 1) (.bin false .Add (.var 6) (.bi false .len [(.idx (.idx (.var 0) (.lit (.int 2))) (.var 4))]))))) [
        .app (.var 2) (.var 3)] []]) (tg := .one 3) (vs := (List.range s.movers.length).map fun k : Nat => Val.d (.int (k : Int)))
        (fun i sl M => ∃ a3 a4 a5 a6 a7 a8, sl = [some (.d (standD s)), some (.d (.int row)), some (.ref 0), a3, a4, a5, a6, a7, a8] ∧ M = [.lst ((nsD ((List.range i).filter (lies s row))).map .d)]) (s := [some (.d (standD s)), some (.d (.int row)), some (.ref 0), none, none, none, none, none, none]) (M := [.lst []])
      (fun i v hv sl M p => by
        obtain ⟨hi, rfl⟩ := range_at hv
        obtain ⟨a3, a4, a5, a6, a7, a8, rfl, rfl⟩ := p
        have hm := hs.mv _ (getD_mem (d := m0) hi)
        have hat := map_at moverD s.movers m0 (Int.natCast_nonneg i) (by omega)
        rw [Int.toNat_natCast] at hat
        rw [filter_succ, nsD_app, lies_at hi]
        generalize s.movers.getD i m0 = m at hm hat
        have hlen : ((List.range i).filter (lies s row)).length ≤ i := by
          have := List.length_filter_le (lies s row) (List.range i)
          simpa using this
        generalize (List.range i).filter (lies s row) = acc at hlen
        refine ⟨_, _, _, rfl, ?_, some (.d (.int (i : Int))), some (.d (shapeN m.shape)), some (.d (.int m.x)), some (.d (.int m.y)), some (.d (.int m.rank)), some (.d (.int m.turn)), rfl, rfl⟩
        show evSs _ wf _ [some (.d (standD s)), some (.d (.int row)), some (.ref 0), some (.d (.int (i : Int))), a4, a5, a6, a7, a8] _ = _
        rw [ss_asg1]
        unfold standD
        walk_at "ev"
        rw [idx_t hat]
        unfold moverD
        walk_at "ev"
        rw [ss_ite1]
        walk_at "ev"
        cases hsh : m.shape with
        | none =>
          simp only [shapeN, isNone, Bool.not_true, brV_F, bl_toS, brS_F]
          rw [ss0]
          simp [nsD]
        | some n =>
          have hn := hm.s n hsh
          simp only [shapeN, isNone, Bool.not_false, brV_T]
          walk_at "ev"
          simp only [idx_t (map_at rowsD s.book [] (Int.natCast_nonneg n) (by omega)), bind_k, rows_len, Int.toNat_natCast]
          walk_at "ev"
          rw [brS_dec]
          by_cases hc : m.y ≤ row ∧ row < m.y + ((s.book.getD n []).length : Int)
          · rw [if_pos hc, ss_app1]
            walk_at "ev"
            rw [if_pos (by simp [nsD]; unfold lim; omega)]
            have : (decide (0 ≤ row - m.y) && decide (row - m.y < (s.book.getD n []).length)) = true := by rw [Bool.and_eq_true, decide_eq_true_eq, decide_eq_true_eq]; omega
            simp only [this, if_true, ss0]
            simp [nsD]
          · rw [if_neg hc]
            have : (decide (0 ≤ row - m.y) && decide (row - m.y < (s.book.getD n []).length)) = false := by
              rw [Bool.and_eq_false_iff, decide_eq_false_iff_not, decide_eq_false_iff_not]
              omega
            simp only [this, ss0]
            simp [nsD]) ⟨none, none, none, none, none, none, rfl, rfl⟩
    subst e2 e3
    refine (congrArg (cont _ wf _) e1).trans ?_
    rw [cont_next, ss_ret1]
    walk_at "ev"
    unfold lyingL
    simp only [List.length_map, List.length_range]
  rw [e, fin_ret]
  exact exit_frz rfl (Nat.zero_le _) rfl
end Lw

namespace Lw
open PySem Gv
def stripL (sh : List (List Int)) (turn row : Int) : List Int :=
  if row < 0 ∨ (sh.length : Int) ≤ row then [] else
    let line := sh.getD (if 2 ≤ turn then (sh.length : Int) - 1 - row else row).toNat []
    if turn % 2 = 1 then line.reverse else line
theorem row_at (sh : List (List Int)) {i : Int} (h0 : 0 ≤ i) (h1 : i < sh.length) : atI (sh.map tupI) i = some (tupI (sh.getD i.toNat [])) := by
  unfold atI ixN
  rw [List.length_map, if_pos h0, if_pos h1]
  have h3 : i.toNat < sh.length := by omega
  simp [List.getElem?_eq_getElem, h3, List.getD_eq_getElem?_getD]
theorem int_at (xs : List Int) {i : Int} (h0 : 0 ≤ i) (h1 : i < xs.length) : atI (xs.map PyData.int) i = some (.int (xs.getD i.toNat 0)) := by
  unfold atI ixN
  rw [List.length_map, if_pos h0, if_pos h1]
  have h3 : i.toNat < xs.length := by omega
  simp [List.getElem?_eq_getElem, h3, List.getD_eq_getElem?_getD]
theorem okD_tupI (n : Nat) (xs : List Int) : okD (n + 1) (tupI xs) = true := by simp [tupI, okD]
theorem strip_ok (k : Nat) (sh : List (List Int)) (turn row : Int) :
    callF T sub wf (k + 1) i_strip_of [.d (rowsD sh), .d (.int turn), .d (.int row)] [] = .ok (.d (tupI (stripL sh turn row))) [] := by
  rw [call_fn (fn := fn_strip_of) rfl rfl]
  have e : evSs ⟨callF T sub wf k, sub⟩ wf fn_strip_of.body (enter fn_strip_of [.d (rowsD sh), .d (.int turn), .d (.int row)]) [] = .ret (.d (tupI (stripL sh turn row))) [] := by
    show evSs _ wf fn_strip_of.body [some (.d (rowsD sh)), some (.d (.int turn)), some (.d (.int row))] [] = _
    simp only [fn_strip_of, rowsD]
    rw [ss_ite1]
    walk_at "ev"
    rw [brS_dec]
    unfold stripL
    by_cases h : row < 0 ∨ (sh.length : Int) ≤ row
    · rw [if_pos h, if_pos h]
      try simp only [List.cons_append, List.nil_append]
      rw [ss_ret1]
      walk_at "ev"
      rfl
    · rw [if_neg h, if_neg h, ss_ite1]
      have hr : 0 ≤ row ∧ row < sh.length := by omega
      have tail : ∀ r : Int, 0 ≤ r → r < sh.length → evSs ⟨callF T sub wf k, sub⟩ wf [.ite (.cmp .Eq (.bin false .Mod (.var 1) (.lit (.int 2))) (.lit (.int 1))) [
          .ret (.rev false (.idx (.var 0) (.var 2)))] [], .ret (.idx (.var 0) (.var 2))] [some (.d (.tuple (sh.map tupI))), some (.d (.int turn)), some (.d (.int r))] [] =
          .ret (.d (tupI (if turn % 2 = 1 then (sh.getD r.toNat []).reverse else sh.getD r.toNat []))) [] := by
        intro r r0 r1
        rw [ss_ite1]
        walk_at "ev"
        rw [mod_ii (by decide)]
        walk_at "ev"
        rw [brS_dec]
        by_cases ht : turn % 2 = 1
        · rw [if_pos ht]
          try simp only [List.cons_append, List.nil_append]
          rw [ss_ret1]
          walk_at "ev"
          rw [idx_t (row_at sh r0 r1)]
          walk_at "ev"
          rw [if_pos ht]
          unfold tupI
          walk_at "ev"
          rw [List.map_reverse]
        · rw [if_neg ht]
          try simp only [List.nil_append]
          rw [ss_ret1]
          walk_at "ev"
          rw [idx_t (row_at sh r0 r1), if_neg ht]
          walk_at "ev"
      walk_at "ev"
      rw [brS_dec]
      by_cases ht : 2 ≤ turn
      · rw [if_pos ht]
        try simp only [List.cons_append, List.nil_append]
        rw [ss_asg1]
        walk_at "ev"
        rw [tail _ (by omega) (by omega)]
        simp only [ht, if_true]
      · rw [if_neg ht]
        try simp only [List.nil_append]
        rw [tail _ hr.1 hr.2]
        simp only [ht, if_false]
  rw [e, fin_ret]
  exact exit_same rfl
end Lw

namespace Lw
open PySem Gv
theorem rev_upTo (line : List Int) : (Gv.upTo 0 line.length).map (fun v => match v with | .d (.int i) => Val.d (.int (line.getD (line.length - 1 - i).toNat 0)) | v => v) = (line.reverse.map PyData.int).map Val.d := by
  apply List.ext_getElem?
  intro j
  simp only [Gv.upTo, List.map_map, List.getElem?_map]
  by_cases hj : j < line.length
  · rw [List.getElem?_range hj, List.getElem?_reverse hj]
    simp only [Option.map_some, Function.comp_def]
    have e : ((line.length : Int) - 1 - (0 + (j : Int))).toNat = line.length - 1 - j := by omega
    have h2 : line.length - 1 - j < line.length := by omega
    simp [e, List.getD_eq_getElem?_getD, h2]
  · rw [List.getElem?_eq_none (by simpa using hj), List.getElem?_eq_none (by simpa using hj)]
    rfl
theorem lstrip_elt (F : FEnv) (sh : List (List Int)) (turn r i : Int) (line : List Int) (h0 : 0 ≤ i) (h1 : i < line.length) (hrow : atI (sh.map tupI) r = some (.tuple (line.map .int))) :
    evE F (.idx (.idx (.var 0) (.var 2)) (.bin false .Sub (.bin false .Sub (.bi false .len [(.idx (.var 0) (.var 2))]) (.lit (.int 1))) (.var 3))) [some (.d (.tuple (sh.map tupI))), some (.d (.int turn)), some (.d (.int r)), some (.d (.int i))] [] = .ok (.d (.int (line.getD (line.length - 1 - i).toNat 0))) [] := by
  walk_at "ev"
  rw [idx_t hrow]
  walk_at "ev"
  rw [idx_t hrow]
  walk_at "ev"
  exact idx_t (int_at line (by omega) (by omega))
theorem lstrip_it (F : FEnv) (sh : List (List Int)) (turn r : Int) (line : List Int) (hlen : line.length ≤ 1000) (hrow : atI (sh.map tupI) r = some (.tuple (line.map .int))) :
    evI F (.rng [(.bi false .len [(.idx (.var 0) (.var 2))])]) [some (.d (.tuple (sh.map tupI))), some (.d (.int turn)), some (.d (.int r)), none] [] = .ok (Gv.upTo 0 line.length) [] := by
  walk_at "ev"
  rw [idx_t hrow]
  walk_at "ev"
  rw [rng1_ok (by omega) (by omega), Int.toNat_natCast]
  walk_at "ev"
theorem lstrip_lc (F : FEnv) (sh : List (List Int)) (turn r : Int) (line : List Int) (hlen : line.length ≤ 1000) (hrow : atI (sh.map tupI) r = some (.tuple (line.map .int))) :
    lcE F (.lit (.bool true)) (.idx (.idx (.var 0) (.var 2)) (.bin false .Sub (.bin false .Sub (.bi false .len [(.idx (.var 0) (.var 2))]) (.lit (.int 1))) (.var 3))) (.one 3) [some (.d (.tuple (sh.map tupI))), some (.d (.int turn)), some (.d (.int r)), none] (Gv.upTo 0 line.length) [] = .ok ((line.reverse.map PyData.int).map Val.d) [] := by
  rw [lc_mapE (f := fun v => match v with | .d (.int i) => Val.d (.int (line.getD (line.length - 1 - i).toNat 0)) | v => v) (fun v hv => ev_lit _)]
  · rw [rev_upTo]
  · intro v hv
    obtain ⟨j, hj, rfl⟩ := mem_upTo hv
    exact lstrip_elt F sh turn r _ line (by omega) (by omega) hrow
theorem lstrip_rev (F : FEnv) (sh : List (List Int)) (turn r : Int) (line : List Int) (hlen : line.length ≤ 1000) (hrow : atI (sh.map tupI) r = some (.tuple (line.map .int))) :
    evSs F wf [.ret (.bi false .tuple [(.lc false [3] (.one 3) (.rng [(.bi false .len [(.idx (.var 0) (.var 2))])]) (.lit (.bool true)) (.idx (.idx (.var 0) (.var 2)) (.bin false .Sub (.bin false .Sub (.bi false .len [(.idx (.var 0) (.var 2))]) (.lit (.int 1))) (.var 3))))])] [some (.d (.tuple (sh.map tupI))), some (.d (.int turn)), some (.d (.int r)), none] [] =
          .ret (.d (tupI line.reverse)) [] := by
  rw [ss_ret1, ev_bi, evs_cons, ev_lc, lstrip_it F sh turn r line hlen hrow, R.bind_ok]
  rw [show Gv.wipe [some (.d (.tuple (sh.map tupI))), some (.d (.int turn)), some (.d (.int r)), none] [3] = [some (.d (.tuple (sh.map tupI))), some (.d (.int turn)), some (.d (.int r)), none] from rfl]
  rw [lstrip_lc F sh turn r line hlen hrow]
  walk_at "ev"
  rfl
theorem lstrip_tail (k : Nat) (sh : List (List Int)) (turn r : Int) (t0 : 0 ≤ turn) (q0 : 0 ≤ r) (q1 : r < sh.length) (hl : ∀ r ∈ sh, r.length ≤ 1000) :
    evSs ⟨callF T sub wf k, sub⟩ wf [.ite (.cmp .Eq (.bin false .Mod (.var 1) (.lit (.int 2))) (.lit (.int 0))) [
      .ret (.idx (.var 0) (.var 2))] [],
    .ret (.bi false .tuple [(.lc false [3] (.one 3) (.rng [(.bi false .len [(.idx (.var 0) (.var 2))])]) (.lit (.bool true)) (.idx (.idx (.var 0) (.var 2)) (.bin false .Sub (.bin false .Sub (.bi false .len [(.idx (.var 0) (.var 2))]) (.lit (.int 1))) (.var 3))))])] [some (.d (.tuple (sh.map tupI))), some (.d (.int turn)), some (.d (.int r)), none] [] =
          .ret (.d (tupI (if turn % 2 = 1 then (sh.getD r.toNat []).reverse else sh.getD r.toNat []))) [] := by
  rw [ss_ite1]
  walk_at "ev"
  rw [mod_ii (by decide)]
  walk_at "ev"
  rw [brS_dec]
  by_cases ht : turn % 2 = 0
  · rw [if_pos ht]
    try simp only [List.cons_append, List.nil_append]
    rw [ss_ret1]
    walk_at "ev"
    rw [idx_t (row_at sh q0 q1), if_neg (by omega)]
    walk_at "ev"
  · rw [if_neg ht]
    try simp only [List.nil_append]
    have hm : sh.getD r.toNat [] ∈ sh := by
      have h3 : r.toNat < sh.length := by omega
      rw [List.getD_eq_getElem?_getD, List.getElem?_eq_getElem h3]
      exact List.getElem_mem h3
    have hlen := hl _ hm
    generalize hline : sh.getD r.toNat [] = line at hlen
    have hrow := row_at sh q0 q1
    rw [hline] at hrow
    rw [if_pos (by omega)]
    exact lstrip_rev _ sh turn r line hlen hrow
theorem lstrip_ok (k : Nat) (sh : List (List Int)) (turn row : Int) (t0 : 0 ≤ turn) (t1 : turn < 4) (r0 : 0 ≤ row) (r1 : row < sh.length) (hl : ∀ r ∈ sh, r.length ≤ 1000) :
    callF T sub wf (k + 1) i_law_strip [.d (rowsD sh), .d (.int turn), .d (.int row)] [] = .ok (.d (tupI (stripL sh turn row))) [] := by
  rw [call_fn (fn := fn_law_strip) rfl rfl]
  have hb : (2 : Int) < bigB := by unfold bigB; decide
  have e : evSs ⟨callF T sub wf k, sub⟩ wf fn_law_strip.body (enter fn_law_strip [.d (rowsD sh), .d (.int turn), .d (.int row)]) [] = .ret (.d (tupI (stripL sh turn row))) [] := by
    show evSs _ wf fn_law_strip.body [some (.d (rowsD sh)), some (.d (.int turn)), some (.d (.int row)), none] [] = _
    simp only [fn_law_strip, rowsD]
    rw [ss_ite1]
    walk_at "ev"
    rw [div_ii (by decide) hb]
    walk_at "ev"
    rw [brS_dec]
    have hs : stripL sh turn row = (if turn % 2 = 1 then (sh.getD (if 2 ≤ turn then (sh.length : Int) - 1 - row else row).toNat []).reverse else sh.getD (if 2 ≤ turn then (sh.length : Int) - 1 - row else row).toNat []) := by
      unfold stripL
      rw [if_neg (by omega)]
    rw [hs]
    by_cases ht : turn / 2 = 1
    · rw [if_pos ht]
      try simp only [List.cons_append, List.nil_append]
      rw [ss_asg1]
      walk_at "ev"
      rw [lstrip_tail k sh turn _ t0 (by omega) (by omega) hl]
      simp only [show (2 : Int) ≤ turn from by omega, if_true]
    · rw [if_neg ht]
      try simp only [List.nil_append]
      rw [lstrip_tail k sh turn _ t0 r0 r1 hl]
      simp only [show ¬ (2 : Int) ≤ turn from by omega, if_false]
  rw [e, fin_ret]
  exact exit_same rfl
end Lw

namespace Lw
open PySem Gv
theorem cut_ns (l : List Nat) (lo hi : Option Int) : cut (nsD l) lo hi = nsD (cut l lo hi) := by
  unfold cut nsD
  simp [List.map_take, List.map_drop]
theorem kept_ok (k : Nat) (f : Frame) (s : Stand) (hs : s.Ok 1000) (row : Int) :
    callF T sub wf (k + 2) i_kept_on [.d (frameD f), .d (standD s), .d (.int row)] [] = .ok (.d (.list (nsD (cut (lyingL s row) none (some f.most))))) [] := by
  rw [call_fn (fn := fn_kept_on) rfl rfl]
  have e : evSs ⟨callF T sub wf (k + 1), sub⟩ wf fn_kept_on.body (enter fn_kept_on [.d (frameD f), .d (standD s), .d (.int row)]) [] = .ret (.d (.list (nsD (cut (lyingL s row) none (some f.most))))) [] := by
    show evSs _ wf fn_kept_on.body [some (.d (frameD f)), some (.d (standD s)), some (.d (.int row))] [] = _
    unfold fn_kept_on
    walk_at "st"
    rw [callV_dd (allD2 _ _) (lying_ok k s hs row)]
    unfold frameD
    walk_at "st"
    rw [← cut_ns]
  rw [e, fin_ret]
  exact exit_same rfl
/-- the floor's row under the picture's row, shifted round -/
def floorL (f : Frame) (s : Stand) (row : Int) : List Int :=
  let line := s.floor.getD ((row + s.sy) % s.floor.length).toNat []
  (List.range f.wide.toNat).map fun x : Nat => line.getD (((x : Int) + s.sx) % line.length).toNat 0
theorem cut_2of5 (a b c d e : PyData) : cut [a, b, c, d, e] none (some 2) = [a, b] := (rfl)
theorem floor_ok (k : Nat) (f : Frame) (hf : f.Ok 40) (s : Stand) (hs : s.Ok 1000) (row : Int) :
    callF T sub wf (k + 1) i_floor_strip [.d (frameD f), .d (standD s), .d (.int row)] [] = .ok (.d (tupI (floorL f s row))) [] := by
  rw [call_fn (fn := fn_floor_strip) rfl rfl]
  have hfl := hs.fl.h0
  have w0 := hf.w0
  have w1 := hf.w1
  have hm0 : 0 ≤ (row + s.sy) % (s.floor.length : Int) := Int.emod_nonneg _ (by omega)
  have hm1 : (row + s.sy) % (s.floor.length : Int) < s.floor.length := Int.emod_lt_of_pos _ (by omega)
  have hmem : s.floor.getD ((row + s.sy) % (s.floor.length : Int)).toNat [] ∈ s.floor := getD_mem (by omega)
  obtain ⟨w, hw0, hw1, hw⟩ := hs.fl.w
  have hline := hw _ hmem
  have e : evSs ⟨callF T sub wf k, sub⟩ wf fn_floor_strip.body (enter fn_floor_strip [.d (frameD f), .d (standD s), .d (.int row)]) [] = .ret (.d (tupI (floorL f s row))) [] := by
    show evSs _ wf fn_floor_strip.body [some (.d (frameD f)), some (.d (standD s)), some (.d (.int row)), none, none, none, none] [] = _
    unfold fn_floor_strip floorL
    have hrow := map_at tupI s.floor [] hm0 hm1
    generalize s.floor.getD ((row + s.sy) % (s.floor.length : Int)).toNat [] = line at hmem hline hrow
    have hst : standD s = .tuple [rowsD s.floor, .tuple [.int s.sx, .int s.sy], .tuple (s.book.map rowsD), .tuple (s.movers.map moverD), .tuple (s.pots.map .int)] := rfl
    have hfr : frameD f = .tuple [.int f.wide, .int f.high, .int f.gap, .int f.most] := rfl
    rw [ss_asg1]
    walk_at "ev"
    rw [hst]
    walk_at "ev"
    rw [cut_2of5]
    walk_at "ev"
    rw [ss_asg1]
    walk_at "ev"
    rw [rows_len]
    walk_at "ev"
    rw [mod_ii (by omega)]
    walk_at "ev"
    unfold rowsD
    rw [idx_t hrow]
    walk_at "ev"
    rw [ss_ret1]
    rw [hfr]
    walk_at "ev"
    rw [rng1_ok (by omega) (by omega), upTo0]
    walk_at "ev"
    rw [lc_mapE (f := fun v => match v with | .d (.int x) => Val.d (.int (line.getD ((x + s.sx) % line.length).toNat 0)) | v => v) (fun v hv => ev_lit _)]
    · rw [List.map_map]
      have e5 : ((List.range f.wide.toNat).map ((fun v => match v with | .d (.int x) => Val.d (.int (line.getD ((x + s.sx) % line.length).toNat 0)) | v => v) ∘ fun k : Nat => Val.d (.int (k : Int)))) = (((List.range f.wide.toNat).map fun x : Nat => line.getD (((x : Int) + s.sx) % line.length).toNat 0).map PyData.int).map Val.d := by
        simp [Function.comp_def]
      rw [e5]
      walk_at "ev"
      rfl
    · intro v hv
      obtain ⟨x, _, rfl⟩ := List.mem_map.mp hv
      have hx0 : 0 ≤ ((x : Int) + s.sx) % (line.length : Int) := Int.emod_nonneg _ (by omega)
      have hx1 : ((x : Int) + s.sx) % (line.length : Int) < line.length := Int.emod_lt_of_pos _ (by omega)
      walk_at "ev"
      unfold tupI
      walk_at "ev"
      rw [mod_ii (by omega)]
      walk_at "ev"
      rw [idx_t (int_at line hx0 hx1)]
  rw [e, fin_ret]
  exact exit_same rfl
end Lw

namespace Lw
open PySem Gv
/-- what is told of a kept mover -/
def toldD (s : Stand) (row : Int) (n : Nat) : PyData :=
  let m := s.movers.getD n m0
  .tuple [.int (n : Int), .int m.x, .int m.rank, tupI (stripL (s.book.getD (m.shape.getD 0) []) m.turn (row - m.y))]
theorem lies_of {s : Stand} {row : Int} {n : Nat} (h : n ∈ lyingL s row) : n < s.movers.length ∧ ∃ j, (s.movers.getD n m0).shape = some j ∧ 0 ≤ row - (s.movers.getD n m0).y ∧ row - (s.movers.getD n m0).y < (s.book.getD j []).length := by
  unfold lyingL at h
  rw [List.mem_filter, List.mem_range] at h
  obtain ⟨h1, h2⟩ := h
  rw [lies_at h1] at h2
  refine ⟨h1, ?_⟩
  cases hs : (s.movers.getD n m0).shape with
  | none => rw [hs] at h2; cases h2
  | some j =>
    rw [hs] at h2
    simp only [Bool.and_eq_true, decide_eq_true_eq] at h2
    exact ⟨j, rfl, h2.1, h2.2⟩
theorem mem_cut {α : Type} {l : List α} {lo hi : Option Int} {x : α} (h : x ∈ cut l lo hi) : x ∈ l := by
  unfold cut at h
  exact List.mem_of_mem_drop (List.mem_of_mem_take h)
abbrev kb : List IS := [
      .asg (.many [5, 6, 7, 8, 9]) (.idx (.idx (.var 1) (.lit (.int 3))) (.var 4)),
      .app (.var 3) (.tup [(.var 4), (.var 6), (.var 8), (.call i_strip_of [(.idx (.idx (.var 1) (.lit (.int 2))) (.var 5)), (.var 9), (.bin false .Sub (.var 2) (.var 7))])])]
theorem kb_ok (k : Nat) (a0 a5 a6 a7 a8 a9 : Option Val) (s : Stand) (hs : s.Ok 1000) (row : Int) (n : Nat) (hn : n ∈ lyingL s row) (acc : List PyData) (hl : acc.length ≤ 1000) :
    ∃ b5 b6 b7 b8 b9, evSs ⟨callF T sub wf (k + 1), sub⟩ wf kb [a0, some (.d (standD s)), some (.d (.int row)), some (.ref 0), some (.d (.int (n : Int))), a5, a6, a7, a8, a9] [.lst (acc.map .d)]
      = .next [a0, some (.d (standD s)), some (.d (.int row)), some (.ref 0), some (.d (.int (n : Int))), b5, b6, b7, b8, b9] [.lst ((acc ++ [toldD s row n]).map .d)] := by
  obtain ⟨h1, j, hj, _, _⟩ := lies_of hn
  have hm := hs.mv _ (getD_mem (d := m0) h1)
  have hat := map_at moverD s.movers m0 (Int.natCast_nonneg n) (by omega)
  rw [Int.toNat_natCast] at hat
  unfold toldD
  generalize s.movers.getD n m0 = m at hm hat hj
  have hjl := hm.s j hj
  have hbk := map_at rowsD s.book [] (Int.natCast_nonneg j) (by omega)
  rw [Int.toNat_natCast] at hbk
  have hst : standD s = .tuple [rowsD s.floor, .tuple [.int s.sx, .int s.sy], .tuple (s.book.map rowsD), .tuple (s.movers.map moverD), .tuple (s.pots.map .int)] := rfl
  refine ⟨some (.d (shapeN m.shape)), some (.d (.int m.x)), some (.d (.int m.y)), some (.d (.int m.rank)), some (.d (.int m.turn)), ?_⟩
  unfold kb
  rw [ss_asg1]
  rw [hst]
  walk_at "ev"
  rw [idx_t hat]
  unfold moverD
  walk_at "ev"
  rw [ss_app1]
  walk_at "ev"
  rw [hj]
  simp only [shapeN]
  rw [idx_t hbk]
  walk_at "ev"
  rw [callV_dd (allD3 _ _ _) (strip_ok k (s.book.getD j []) m.turn (row - m.y))]
  walk_at "ev"
  rw [if_pos (by unfold lim; omega), ss0]
  simp
end Lw

namespace Lw
open PySem Gv
def takenD (f : Frame) (s : Stand) (row : Int) : PyData := .tuple [tupI (floorL f s row), .tuple ((cut (lyingL s row) none (some f.most)).map (toldD s row))]
theorem ns_at {l : List Nat} {i : Nat} {v : Val} (h : ((nsD l).map Val.d)[i]? = some v) : ∃ n : Nat, l[i]? = some n ∧ v = .d (.int (n : Int)) := by
  unfold nsD at h
  rw [List.getElem?_map, List.getElem?_map, Option.map_eq_some_iff] at h
  obtain ⟨d, hd, rfl⟩ := h
  rw [Option.map_eq_some_iff] at hd
  obtain ⟨n, hn, rfl⟩ := hd
  exact ⟨n, hn, rfl⟩
theorem take_snoc {α : Type} {l : List α} {i : Nat} {x : α} (h : l[i]? = some x) : l.take (i + 1) = l.take i ++ [x] := by
  rw [List.take_add_one, h]
  rfl
theorem tuple_r {al : Bool} {M : Store} {a : Nat} {ds : List PyData} (h : M[a]? = some (.lst (ds.map .d))) : biD al .tuple [.ref a] M = .ok (.d (.tuple ds)) M := by
  show (match lstD M (.ref a) with | some xs => R.ok (Val.d (.tuple xs)) M | none => .bad) = _
  have : lstD M (.ref a) = some ds := by
    show (match M[a]? with | some (.lst vs) => allD vs | _ => none) = _
    rw [h]
    exact allD_map ds
  rw [this]
theorem exit0 (x : PyData) (M : Store) : exitV 0 (.d x) M = .ok (.d x) [] := by
  unfold exitV
  simp
theorem taken_ok (k : Nat) (f : Frame) (hf : f.Ok 40) (s : Stand) (hs : s.Ok 1000) (row : Int) :
    callF T sub wf (k + 3) i_taken [.d (frameD f), .d (standD s), .d (.int row)] [] = .ok (.d (takenD f s row)) [] := by
  rw [call_fn (fn := fn_taken) rfl rfl]
  have hml := hs.ml
  have hll : (lyingL s row).length ≤ 1000 := by
    have := List.length_filter_le (lies s row) (List.range s.movers.length)
    have h2 : (lyingL s row).length ≤ s.movers.length := by simpa [lyingL] using this
    omega
  have e : ∃ M', evSs ⟨callF T sub wf (k + 2), sub⟩ wf fn_taken.body (enter fn_taken [.d (frameD f), .d (standD s), .d (.int row)]) [] = .ret (.d (takenD f s row)) M' := by
    show ∃ M', evSs _ wf fn_taken.body [some (.d (frameD f)), some (.d (standD s)), some (.d (.int row)), none, none, none, none, none, none, none] [] = _
    unfold fn_taken
    rw [ss_asg1]
    walk_at "ev"
    rw [ss_for1]
    walk_at "ev"
    rw [callV_dd (allD3 _ _ _) (kept_ok k f s hs row)]
    walk_at "ev"
    have hcl : (cut (lyingL s row) none (some f.most)).length ≤ 1000 := by
      unfold cut
      simp
      omega
    have hmem : ∀ n ∈ cut (lyingL s row) none (some f.most), n ∈ lyingL s row := fun n h => mem_cut h
    unfold takenD
    generalize cut (lyingL s row) none (some f.most) = ks at hcl hmem
    obtain ⟨s1, M1, g1, b4, b5, b6, b7, b8, b9, g2, g3⟩ := for_idx (body := evSs ⟨callF T sub wf (k + 2), sub⟩ wf kb) (tg := .one 4) (vs := (nsD ks).map Val.d) (fun i sl M => ∃ b4 b5 b6 b7 b8 b9, sl = [some (.d (frameD f)), some (.d (standD s)), some (.d (.int row)), some (.ref 0), b4, b5, b6, b7, b8, b9] ∧ M = [.lst (((ks.take i).map (toldD s row)).map .d)]) (s := [some (.d (frameD f)), some (.d (standD s)), some (.d (.int row)), some (.ref 0), none, none, none, none, none, none]) (M := [.lst []]) (fun i v hv sl M p => by
      obtain ⟨b4, b5, b6, b7, b8, b9, rfl, rfl⟩ := p
      obtain ⟨n, hn, rfl⟩ := ns_at hv
      obtain ⟨c5, c6, c7, c8, c9, e⟩ := kb_ok (k + 1) (some (.d (frameD f))) b5 b6 b7 b8 b9 s hs row n (hmem n (List.mem_of_getElem? hn)) ((ks.take i).map (toldD s row)) (by simp; omega)
      refine ⟨_, _, _, rfl, e, _, _, _, _, _, _, rfl, ?_⟩
      rw [take_snoc hn]
      simp) ⟨_, _, _, _, _, _, rfl, rfl⟩
    subst g2 g3
    refine ⟨[.lst ((ks.map (toldD s row)).map .d)], ?_⟩
    refine (congrArg (cont _ wf _) g1).trans ?_
    have hlen : ((nsD ks).map Val.d).length = ks.length := by simp [nsD]
    rw [hlen, List.take_length, cont_next, ss_ret1]
    walk_at "ev"
    rw [callV_dd (allD3 _ _ _) (floor_ok (k + 1) f hf s hs row)]
    walk_at "ev"
    rw [tuple_r (ds := ks.map (toldD s row)) rfl]
    walk_at "ev"
  obtain ⟨M', e⟩ := e
  rw [e, fin_ret]
  exact exit0 _ _
end Lw

namespace Lw
open PySem Gv
abbrev lkb : List IS := [
      .asg (.many [8, 9, 10, 11, 12]) (.idx (.idx (.var 1) (.lit (.int 3))) (.var 5)),
      .app (.var 4) (.tup [(.var 5), (.var 9), (.var 11), (.call i_law_strip [(.idx (.idx (.var 1) (.lit (.int 2))) (.var 8)), (.var 12), (.bin false .Sub (.var 2) (.var 10))])])]
theorem lkb_ok (k : Nat) (a0 a3 a6 a7 a8 a9 a10 a11 a12 : Option Val) (s : Stand) (hs : s.Ok 1000) (row : Int) (n : Nat) (hn : n ∈ lyingL s row) (acc : List PyData) (hl : acc.length ≤ 1000) :
    ∃ b8 b9 b10 b11 b12, evSs ⟨callF T sub wf (k + 1), sub⟩ wf lkb [a0, some (.d (standD s)), some (.d (.int row)), a3, some (.ref 0), some (.d (.int (n : Int))), a6, a7, a8, a9, a10, a11, a12] [.lst (acc.map .d)]
      = .next [a0, some (.d (standD s)), some (.d (.int row)), a3, some (.ref 0), some (.d (.int (n : Int))), a6, a7, b8, b9, b10, b11, b12] [.lst ((acc ++ [toldD s row n]).map .d)] := by
  obtain ⟨h1, j, hj, hr0, hr1⟩ := lies_of hn
  have hm := hs.mv _ (getD_mem (d := m0) h1)
  have hat := map_at moverD s.movers m0 (Int.natCast_nonneg n) (by omega)
  rw [Int.toNat_natCast] at hat
  unfold toldD
  generalize s.movers.getD n m0 = m at hm hat hj hr0 hr1
  have hjl := hm.s j hj
  have hbk := map_at rowsD s.book [] (Int.natCast_nonneg j) (by omega)
  rw [Int.toNat_natCast] at hbk
  have hsh := hs.bk _ (getD_mem (d := []) hjl)
  obtain ⟨w, _, w1, hw⟩ := hsh.w
  have hst : standD s = .tuple [rowsD s.floor, .tuple [.int s.sx, .int s.sy], .tuple (s.book.map rowsD), .tuple (s.movers.map moverD), .tuple (s.pots.map .int)] := rfl
  refine ⟨some (.d (shapeN m.shape)), some (.d (.int m.x)), some (.d (.int m.y)), some (.d (.int m.rank)), some (.d (.int m.turn)), ?_⟩
  unfold lkb
  rw [ss_asg1]
  rw [hst]
  walk_at "ev"
  rw [idx_t hat]
  unfold moverD
  walk_at "ev"
  rw [ss_app1]
  walk_at "ev"
  rw [hj]
  simp only [shapeN]
  rw [idx_t hbk]
  walk_at "ev"
  rw [callV_dd (allD3 _ _ _) (lstrip_ok k (s.book.getD j []) m.turn (row - m.y) hm.t0 hm.t1 hr0 hr1 fun r hr => by rw [hw r hr]; omega)]
  walk_at "ev"
  rw [if_pos (by unfold lim; omega), ss0]
  simp
theorem ltaken_ok (k : Nat) (f : Frame) (hf : f.Ok 40) (s : Stand) (hs : s.Ok 1000) (row : Int) :
    callF T sub wf (k + 3) i_law_taken [.d (frameD f), .d (standD s), .d (.int row)] [] = .ok (.d (takenD f s row)) [] := by
  rw [call_fn (fn := fn_law_taken) rfl rfl]
  have hml := hs.ml
  have hll : (lyingL s row).length ≤ 1000 := by
    have := List.length_filter_le (lies s row) (List.range s.movers.length)
    have h2 : (lyingL s row).length ≤ s.movers.length := by simpa [lyingL] using this
    omega
  have hfl := hs.fl.h0
  have w0 := hf.w0
  have w1 := hf.w1
  have hm0 : 0 ≤ (row + s.sy) % (s.floor.length : Int) := Int.emod_nonneg _ (by omega)
  have hm1 : (row + s.sy) % (s.floor.length : Int) < s.floor.length := Int.emod_lt_of_pos _ (by omega)
  have hfmem : s.floor.getD ((row + s.sy) % (s.floor.length : Int)).toNat [] ∈ s.floor := getD_mem (by omega)
  obtain ⟨w, hw0, hw1, hw⟩ := hs.fl.w
  have hline := hw _ hfmem
  have e : ∃ M', evSs ⟨callF T sub wf (k + 2), sub⟩ wf fn_law_taken.body (enter fn_law_taken [.d (frameD f), .d (standD s), .d (.int row)]) [] = .ret (.d (takenD f s row)) M' := by
    show ∃ M', evSs _ wf fn_law_taken.body [some (.d (frameD f)), some (.d (standD s)), some (.d (.int row)), none, none, none, none, none, none, none, none, none, none] [] = _
    unfold fn_law_taken takenD floorL
    have hrow := map_at tupI s.floor [] hm0 hm1
    generalize s.floor.getD ((row + s.sy) % (s.floor.length : Int)).toNat [] = line at hfmem hline hrow
    have hst : standD s = .tuple [rowsD s.floor, .tuple [.int s.sx, .int s.sy], .tuple (s.book.map rowsD), .tuple (s.movers.map moverD), .tuple (s.pots.map .int)] := rfl
    have hfr : frameD f = .tuple [.int f.wide, .int f.high, .int f.gap, .int f.most] := rfl
    rw [ss_asg1]
    walk_at "ev"
    rw [hst]
    walk_at "ev"
    rw [cut_2of5, ← hst]
    walk_at "ev"
    rw [ss_asg1]
    walk_at "ev"
    rw [rows_len]
    walk_at "ev"
    rw [mod_ii (by omega)]
    walk_at "ev"
    have hrow' : idxD [] (.d (rowsD s.floor)) (.d (.int ((row + s.sy) % (s.floor.length : Int)))) = .ok (.d (tupI line)) [] := idx_t hrow
    rw [hrow']
    walk_at "ev"
    rw [ss_asg1]
    walk_at "ev"
    rw [ss_for1]
    walk_at "ev"
    have hl : callF T sub wf (k + 2) i_law_lying [.d (standD s), .d (.int row)] [] = .ok (.d (.list (nsD (lyingL s row)))) [] := llying_ok (k + 1) s hs row
    have hc : ∀ M, callV ⟨callF T sub wf (k + 2), sub⟩ i_law_lying [.d (standD s), .d (.int row)] M = .ok (.d (.list (nsD (lyingL s row)))) M := by
      intro M
      generalize callF T sub wf (k + 2) = g at hl ⊢
      exact callV_dd (allD2 _ _) hl
    rw [hc]
    walk_at "ev"
    rw [hfr]
    walk_at "ev"
    rw [← hfr, cut_ns]
    have hcl : (cut (lyingL s row) none (some f.most)).length ≤ 1000 := by
      unfold cut
      simp
      omega
    have hmem : ∀ n ∈ cut (lyingL s row) none (some f.most), n ∈ lyingL s row := fun n h => mem_cut h
    generalize cut (lyingL s row) none (some f.most) = ks at hcl hmem
    obtain ⟨s1, M1, g1, b5, b8, b9, b10, b11, b12, g2, g3⟩ := for_idx (body := evSs ⟨callF T sub wf (k + 2), sub⟩ wf lkb) (tg := .one 5) (vs := (nsD ks).map Val.d) (fun i sl M => ∃ b5 b8 b9 b10 b11 b12, sl = [some (.d (frameD f)), some (.d (standD s)), some (.d (.int row)), some (.d (tupI line)), some (.ref 0), b5, some (.d (rowsD s.floor)), some (.d (.tuple [.int s.sx, .int s.sy])), b8, b9, b10, b11, b12] ∧ M = [.lst (((ks.take i).map (toldD s row)).map .d)]) (s := [some (.d (frameD f)), some (.d (standD s)), some (.d (.int row)), some (.d (tupI line)), some (.ref 0), none, some (.d (rowsD s.floor)), some (.d (.tuple [.int s.sx, .int s.sy])), none, none, none, none, none]) (M := [.lst []]) (fun i v hv sl M p => by
      obtain ⟨b5, b8, b9, b10, b11, b12, rfl, rfl⟩ := p
      obtain ⟨n, hn, rfl⟩ := ns_at hv
      obtain ⟨c8, c9, c10, c11, c12, e⟩ := lkb_ok (k + 1) (some (.d (frameD f))) (some (.d (tupI line))) (some (.d (rowsD s.floor))) (some (.d (.tuple [.int s.sx, .int s.sy]))) b8 b9 b10 b11 b12 s hs row n (hmem n (List.mem_of_getElem? hn)) ((ks.take i).map (toldD s row)) (by simp; omega)
      refine ⟨_, _, _, rfl, e, _, _, _, _, _, _, rfl, ?_⟩
      rw [take_snoc hn]
      simp) ⟨_, _, _, _, _, _, rfl, rfl⟩
    subst g2 g3
    refine ⟨[.lst ((ks.map (toldD s row)).map .d)], ?_⟩
    refine (congrArg (cont _ wf _) g1).trans ?_
    have hlen : ((nsD ks).map Val.d).length = ks.length := by simp [nsD]
    rw [hlen, List.take_length, cont_next, ss_ret1]
    rw [hfr]
    walk_at "ev"
    rw [rng1_ok (by omega) (by omega), upTo0]
    walk_at "ev"
    rw [lc_mapE (f := fun v => match v with | .d (.int x) => Val.d (.int (line.getD ((x + s.sx) % line.length).toNat 0)) | v => v) (fun v hv => ev_lit _)]
    · rw [List.map_map]
      have e5 : ((List.range f.wide.toNat).map ((fun v => match v with | .d (.int x) => Val.d (.int (line.getD ((x + s.sx) % line.length).toNat 0)) | v => v) ∘ fun k : Nat => Val.d (.int (k : Int)))) = (((List.range f.wide.toNat).map fun x : Nat => line.getD (((x : Int) + s.sx) % line.length).toNat 0).map PyData.int).map Val.d := by
        simp [Function.comp_def]
      rw [e5]
      walk_at "ev"
      rw [tuple_r (ds := ks.map (toldD s row)) rfl]
      walk_at "ev"
      rfl
    · intro v hv
      obtain ⟨x, _, rfl⟩ := List.mem_map.mp hv
      have hx0 : 0 ≤ ((x : Int) + s.sx) % (line.length : Int) := Int.emod_nonneg _ (by omega)
      have hx1 : ((x : Int) + s.sx) % (line.length : Int) < line.length := Int.emod_lt_of_pos _ (by omega)
      walk_at "ev"
      unfold tupI
      walk_at "ev"
      rw [mod_ii (by omega)]
      walk_at "ev"
      rw [idx_t (int_at line hx0 hx1)]
  obtain ⟨M', e⟩ := e
  rw [e, fin_ret]
  exact exit0 _ _
end Lw

namespace Lw
open PySem Gv
theorem isi_tt {sb : Nat → Nat → Bool} {M : Store} {xs : List PyData} : isiD sb M (.d (.tuple xs)) .tuple = some true := (rfl)
theorem ok_taken (f : Frame) (s : Stand) (row : Int) : okD 30 (takenD f s row) = true := by
  unfold takenD
  show ((okD 29 (tupI (floorL f s row))) && ((okD 29 (.tuple ((cut (lyingL s row) none (some f.most)).map (toldD s row)))) && true)) = true
  rw [okD_tupI 28, Bool.true_and, Bool.and_true]
  show ((cut (lyingL s row) none (some f.most)).map (toldD s row)).all (okD 28) = true
  rw [List.all_map, List.all_eq_true]
  intro n _
  show (true && (true && (true && (okD 27 (tupI _) && true)))) = true
  rw [okD_tupI 26]
  rfl
abbrev lb : List IS := [
      .asg (.one 5) (.call i_taken [(.var 2), (.var 3), (.var 4)]),
      .ite (.or (.not (.isi (.var 5) .tuple)) (.or (.cmp .NotEq (.bi false .len [(.var 5)]) (.lit (.int 2))) (.not (.isi (.idx (.var 5) (.lit (.int 0))) .tuple)))) [
        .ret (.lit (.bool false))] [],
      .ite (.cmp .NotEq (.var 5) (.call i_law_taken [(.var 2), (.var 3), (.var 4)])) [
        .ret (.lit (.bool false))] []]
theorem lb_ok (k : Nat) (a0 a1 a5 : Option Val) (f : Frame) (hf : f.Ok 40) (s : Stand) (hs : s.Ok 1000) (row : Int) (M : Store) :
    ∃ b5, evSs ⟨callF T sub wf (k + 3), sub⟩ wf lb [a0, a1, some (.d (frameD f)), some (.d (standD s)), some (.d (.int row)), a5] M = .next [a0, a1, some (.d (frameD f)), some (.d (standD s)), some (.d (.int row)), b5] M := by
  refine ⟨some (.d (takenD f s row)), ?_⟩
  unfold lb
  rw [ss_asg1]
  walk_at "ev"
  rw [callV_dd (allD3 _ _ _) (taken_ok k f hf s hs row)]
  walk_at "ev"
  have h2 : takenD f s row = .tuple [tupI (floorL f s row), .tuple ((cut (lyingL s row) none (some f.most)).map (toldD s row))] := rfl
  rw [ss_ite1]
  walk_at "ev"
  rw [h2, isi_tt]
  walk_at "ev"
  have h3 : (tupI (floorL f s row)) = .tuple ((floorL f s row).map .int) := rfl
  rw [h3, isi_tt, ← h3, ← h2]
  walk_at "ev"
  simp only [List.length_cons, List.length_nil]
  rw [if_neg (by decide)]
  walk_at "ev"
  rw [brS_F, ss_ite1]
  walk_at "ev"
  rw [callV_dd (allD3 _ _ _) (ltaken_ok k f hf s hs row)]
  walk_at "ev"
  rw [ne_self (ok_taken f s row)]
  walk_at "ev"
  rw [brS_F, ss0]
theorem main (ns : List Int) (hn : ns.length ≤ 63) : ∃ M', callF T sub wf lev i_law [.scr ns] [] = .ok (.d (.bool true)) M' := by
  rw [call_fn (fn := fn_law) rfl rfl]
  have e : ∃ M', evSs ⟨callF T sub wf 19, sub⟩ wf fn_law.body (enter fn_law [.scr ns]) [] = .ret (.d (.bool true)) M' := by
    show ∃ M', evSs _ wf fn_law.body [some (.scr ns), none, none, none, none, none] [] = .ret (.d (.bool true)) M'
    unfold fn_law
    rw [ss_asg1]
    walk_at "ev"
    rw [list_s (by unfold lim; omega)]
    walk_at "ev"
    rw [ss_asg1]
    walk_at "ev"
    obtain ⟨f, t1, e1, hf⟩ := frame_ok 16 (Tape.mk ns 0 0) 40 (by decide) (by decide) []
    have e1' : callF T sub wf 19 i_law_frame [Val.ref ([] : Store).length, .d (.int 40)] [.lst [.d (.list (ns.map .int)), .d (.int 0), .d (.int 0)]] = .ok (.d (frameD f)) [t1.cell] := e1
    rw [e1']
    walk_at "ev"
    rw [ss_asg1]
    walk_at "ev"
    obtain ⟨s, t2, e2, hs⟩ := stand_ok 15 t1 f hf 12 (by decide) []
    have e2' : callF T sub wf 19 i_law_stand [Val.ref ([] : Store).length, .d (frameD f), .d (.int 12)] [t1.cell] = .ok (.d (standD s)) [t2.cell] := e2
    rw [e2']
    walk_at "ev"
    have hs' : s.Ok 1000 := ⟨hs.fl, hs.x0, hs.x1, hs.y0, hs.y1, hs.bk, hs.bl, hs.mv, by have := hs.ml; omega, hs.pt, hs.pl⟩
    have hfr : frameD f = .tuple [.int f.wide, .int f.high, .int f.gap, .int f.most] := rfl
    have q1 := hf.h0
    have q2 := hf.h1
    rw [ss_for1]
    walk_at "ev"
    rw [hfr]
    walk_at "ev"
    rw [← hfr, rng1_ok (by omega) (by omega)]
    walk_at "ev"
    obtain ⟨s1, M1, g1, b4, b5, g2⟩ := for_inv (body := evSs ⟨callF T sub wf 19, sub⟩ wf lb) (tg := .one 4) (fun sl M => ∃ b4 b5, sl = [some (.scr ns), some (.ref 0), some (.d (frameD f)), some (.d (standD s)), b4, b5]) (vs := Gv.upTo 0 f.high.toNat) (s := [some (.scr ns), some (.ref 0), some (.d (frameD f)), some (.d (standD s)), none, none]) (M := [t2.cell]) (fun v hv sl M p => by
      obtain ⟨b4, b5, rfl⟩ := p
      obtain ⟨k, _, rfl⟩ := mem_upTo hv
      obtain ⟨c5, e⟩ := lb_ok 16 (some (.scr ns)) (some (.ref 0)) b5 f hf s hs' (0 + (k : Int)) M
      exact ⟨_, _, _, rfl, e, _, _, rfl⟩) ⟨_, _, rfl⟩
    subst g2
    refine ⟨M1, ?_⟩
    refine (congrArg (cont _ wf _) g1).trans ?_
    rw [cont_next, ss_ret1]
    walk_at "ev"
  obtain ⟨M', e⟩ := e
  rw [e, fin_ret]
  exact exit_any _ _ _
end Lw

namespace Lw
open PySem PySem.Spec L2 Gv
theorem c_strip_of : compSs ⟨N_strip_of, fns, cons⟩ [] 200 (defScope (top 1)) (defBody (top 1)) = some fn_strip_of.body := by kernel_rfl
theorem s_strip_of : FnScope N_strip_of ["shape", "turn", "row"] (defScope (top 1)) := ⟨rfl, rfl, rfl, by decide +kernel, rfl, by decide +kernel, by decide +kernel⟩
theorem c_lying_on : compSs ⟨N_lying_on, fns, cons⟩ ["found"] 200 (defScope (top 3)) (defBody (top 3)) = some fn_lying_on.body := by kernel_rfl
theorem s_lying_on : FnScope N_lying_on ["stand", "row"] (defScope (top 3)) := ⟨rfl, rfl, rfl, by decide +kernel, rfl, by decide +kernel, by decide +kernel⟩
theorem c_kept_on : compSs ⟨N_kept_on, fns, cons⟩ [] 200 (defScope (top 4)) (defBody (top 4)) = some fn_kept_on.body := by kernel_rfl
theorem s_kept_on : FnScope N_kept_on ["frame", "stand", "row"] (defScope (top 4)) := ⟨rfl, rfl, rfl, by decide +kernel, rfl, by decide +kernel, by decide +kernel⟩
theorem c_floor_strip : compSs ⟨N_floor_strip, fns, cons⟩ [] 200 (defScope (top 5)) (defBody (top 5)) = some fn_floor_strip.body := by kernel_rfl
theorem s_floor_strip : FnScope N_floor_strip ["frame", "stand", "row"] (defScope (top 5)) := ⟨rfl, rfl, rfl, by decide +kernel, rfl, by decide +kernel, by decide +kernel⟩
theorem c_taken : compSs ⟨N_taken, fns, cons⟩ ["strips"] 200 (defScope (top 6)) (defBody (top 6)) = some fn_taken.body := by kernel_rfl
theorem s_taken : FnScope N_taken ["frame", "stand", "row"] (defScope (top 6)) := ⟨rfl, rfl, rfl, by decide +kernel, rfl, by decide +kernel, by decide +kernel⟩
theorem c_law_draw : compSs ⟨N_law_draw, fns, cons⟩ ["tape"] 200 (defScope (top 8)) (defBody (top 8)) = some fn_law_draw.body := by kernel_rfl
theorem s_law_draw : FnScope N_law_draw ["tape", "many"] (defScope (top 8)) := ⟨rfl, rfl, rfl, by decide +kernel, rfl, by decide +kernel, by decide +kernel⟩
theorem c_law_size : compSs ⟨N_law_size, fns, cons⟩ [] 200 (defScope (top 9)) (defBody (top 9)) = some fn_law_size.body := by kernel_rfl
theorem s_law_size : FnScope N_law_size ["tape", "most"] (defScope (top 9)) := ⟨rfl, rfl, rfl, by decide +kernel, rfl, by decide +kernel, by decide +kernel⟩
theorem c_law_frame : compSs ⟨N_law_frame, fns, cons⟩ [] 200 (defScope (top 10)) (defBody (top 10)) = some fn_law_frame.body := by kernel_rfl
theorem s_law_frame : FnScope N_law_frame ["tape", "most"] (defScope (top 10)) := ⟨rfl, rfl, rfl, by decide +kernel, rfl, by decide +kernel, by decide +kernel⟩
theorem c_law_inks : compSs ⟨N_law_inks, fns, cons⟩ [] 200 (defScope (top 11)) (defBody (top 11)) = some fn_law_inks.body := by kernel_rfl
theorem s_law_inks : FnScope N_law_inks ["tape", "wide", "thin"] (defScope (top 11)) := ⟨rfl, rfl, rfl, by decide +kernel, rfl, by decide +kernel, by decide +kernel⟩
theorem c_law_inked : compSs ⟨N_law_inked, fns, cons⟩ [] 200 (defScope (top 12)) (defBody (top 12)) = some fn_law_inked.body := by kernel_rfl
theorem s_law_inked : FnScope N_law_inked ["tape", "most"] (defScope (top 12)) := ⟨rfl, rfl, rfl, by decide +kernel, rfl, by decide +kernel, by decide +kernel⟩
theorem c_law_far : compSs ⟨N_law_far, fns, cons⟩ [] 200 (defScope (top 13)) (defBody (top 13)) = some fn_law_far.body := by kernel_rfl
theorem s_law_far : FnScope N_law_far ["tape", "size"] (defScope (top 13)) := ⟨rfl, rfl, rfl, by decide +kernel, rfl, by decide +kernel, by decide +kernel⟩
theorem c_law_mover : compSs ⟨N_law_mover, fns, cons⟩ [] 200 (defScope (top 14)) (defBody (top 14)) = some fn_law_mover.body := by kernel_rfl
theorem s_law_mover : FnScope N_law_mover ["tape", "frame", "shapes"] (defScope (top 14)) := ⟨rfl, rfl, rfl, by decide +kernel, rfl, by decide +kernel, by decide +kernel⟩
theorem c_law_stand : compSs ⟨N_law_stand, fns, cons⟩ [] 200 (defScope (top 15)) (defBody (top 15)) = some fn_law_stand.body := by kernel_rfl
theorem s_law_stand : FnScope N_law_stand ["tape", "frame", "movers_most"] (defScope (top 15)) := ⟨rfl, rfl, rfl, by decide +kernel, rfl, by decide +kernel, by decide +kernel⟩
theorem c_law_strip : compSs ⟨N_law_strip, fns, cons⟩ [] 200 (defScope (top 16)) (defBody (top 16)) = some fn_law_strip.body := by kernel_rfl
theorem s_law_strip : FnScope N_law_strip ["shape", "turn", "row"] (defScope (top 16)) := ⟨rfl, rfl, rfl, by decide +kernel, rfl, by decide +kernel, by decide +kernel⟩
theorem c_law_lying : compSs ⟨N_law_lying, fns, cons⟩ ["found"] 200 (defScope (top 17)) (defBody (top 17)) = some fn_law_lying.body := by kernel_rfl
theorem s_law_lying : FnScope N_law_lying ["stand", "row"] (defScope (top 17)) := ⟨rfl, rfl, rfl, by decide +kernel, rfl, by decide +kernel, by decide +kernel⟩
theorem c_law_taken : compSs ⟨N_law_taken, fns, cons⟩ ["strips"] 200 (defScope (top 18)) (defBody (top 18)) = some fn_law_taken.body := by kernel_rfl
theorem s_law_taken : FnScope N_law_taken ["frame", "stand", "row"] (defScope (top 18)) := ⟨rfl, rfl, rfl, by decide +kernel, rfl, by decide +kernel, by decide +kernel⟩
theorem c_law : compSs ⟨N_law, fns, cons⟩ ["tape"] 200 (defScope (top 19)) (defBody (top 19)) = some fn_law.body := by kernel_rfl
theorem s_law : FnScope N_law ["script"] (defScope (top 19)) := ⟨rfl, rfl, rfl, by decide +kernel, rfl, by decide +kernel, by decide +kernel⟩
def fnl : List He.DefD := [⟨("strip_of", none), "strip_of", "strip_of", defArgs (top 1), defBody (top 1), defScope (top 1), [], []⟩, ⟨("lying_on", none), "lying_on", "lying_on", defArgs (top 3), defBody (top 3), defScope (top 3), [], []⟩, ⟨("kept_on", none), "kept_on", "kept_on", defArgs (top 4), defBody (top 4), defScope (top 4), [], []⟩, ⟨("floor_strip", none), "floor_strip", "floor_strip", defArgs (top 5), defBody (top 5), defScope (top 5), [], []⟩, ⟨("taken", none), "taken", "taken", defArgs (top 6), defBody (top 6), defScope (top 6), [], []⟩, ⟨("_law_draw", none), "_law_draw", "_law_draw", defArgs (top 8), defBody (top 8), defScope (top 8), [], []⟩, ⟨("_law_size", none), "_law_size", "_law_size", defArgs (top 9), defBody (top 9), defScope (top 9), [], []⟩, ⟨("_law_frame", none), "_law_frame", "_law_frame", defArgs (top 10), defBody (top 10), defScope (top 10), [], []⟩, ⟨("_law_inks", none), "_law_inks", "_law_inks", defArgs (top 11), defBody (top 11), defScope (top 11), [], []⟩, ⟨("_law_inked", none), "_law_inked", "_law_inked", defArgs (top 12), defBody (top 12), defScope (top 12), [], []⟩, ⟨("_law_far", none), "_law_far", "_law_far", defArgs (top 13), defBody (top 13), defScope (top 13), [], []⟩, ⟨("_law_mover", none), "_law_mover", "_law_mover", defArgs (top 14), defBody (top 14), defScope (top 14), [], []⟩, ⟨("_law_stand", none), "_law_stand", "_law_stand", defArgs (top 15), defBody (top 15), defScope (top 15), [], []⟩, ⟨("_law_strip", none), "_law_strip", "_law_strip", defArgs (top 16), defBody (top 16), defScope (top 16), [], []⟩, ⟨("_law_lying", none), "_law_lying", "_law_lying", defArgs (top 17), defBody (top 17), defScope (top 17), [], []⟩, ⟨("_law_taken", none), "_law_taken", "_law_taken", defArgs (top 18), defBody (top 18), defScope (top 18), [], []⟩, ⟨("law", none), "law", "law", defArgs (top 19), defBody (top 19), defScope (top 19), [], []⟩]
def fal : List He.Fa := [.glo "strip_of", .glo "lying_on", .glo "kept_on", .glo "floor_strip", .glo "taken", .glo "_law_draw", .glo "_law_size", .glo "_law_frame", .glo "_law_inks", .glo "_law_inked", .glo "_law_far", .glo "_law_mover", .glo "_law_stand", .glo "_law_strip", .glo "_law_lying", .glo "_law_taken", .glo "law", .free "len", .free "list", .free "tuple", .free "int", .free "min", .free "max", .free "all", .free "divmod", .free "isinstance", .free "range", .free "enumerate", .free "zip", .free "bool", .free "str", .free "sorted"]
abbrev Rr : PySem.W.OpenRow := PySem.W.OpenLaw.row PySem.Challenge.rw_glowrow_k08_rows_taken
abbrev hk : PySem.W.Hook := He.hookD 4 fal fnl
def ob (s : PySem.W.SharedT) : He.AlD := He.obsDG 4 fal fnl (HandSHeadRun.getT s)
theorem ob_eq (s : PySem.W.SharedT) : ob s = hk.obs s.abs := He.obsDG_eq (HandSHeadRun.getT_eq s)
def loose : List Str := (["strip_of", "lying_on", "kept_on", "floor_strip", "taken", "_law_draw", "_law_size", "_law_frame", "_law_inks", "_law_inked", "_law_far", "_law_mover", "_law_stand", "_law_strip", "_law_lying", "_law_taken"] : List Str)
theorem run (w : World) : HandSHeadRun.RunEq Rr (PySem.W.view Rr.prog [19]) hk ob 4000 loose w := by
  intro os
  kernel_rfl
section
variable {K : PySem.W.Frag} {h : Heap} {mg : Str → Option Value}
theorem d_strip_of (X : K.In h) (G : h.Ns mainGlobals mg) (c : He.SaysD fal fnl K) : DefOk K mg T fns cons 0 "strip_of" 3 := by
  obtain ⟨fd, F⟩ := c.def_ 0 rfl
  exact ⟨_, fd, _, _, _, _, N_strip_of, ["shape", "turn", "row"], [], 200, fn_strip_of, He.glo_ok X G (c.fact 0 (f := .glo "strip_of") rfl), F, s_strip_of, F.bindsN (fun _ _ _ _ _ _ us hl => match us, hl with | [_, _, _], _ => rfl), rfl, rfl, rfl, rfl, c_strip_of⟩
theorem d_lying_on (X : K.In h) (G : h.Ns mainGlobals mg) (c : He.SaysD fal fnl K) : DefOk K mg T fns cons 1 "lying_on" 2 := by
  obtain ⟨fd, F⟩ := c.def_ 1 rfl
  exact ⟨_, fd, _, _, _, _, N_lying_on, ["stand", "row"], ["found"], 200, fn_lying_on, He.glo_ok X G (c.fact 1 (f := .glo "lying_on") rfl), F, s_lying_on, F.bindsN (fun _ _ _ _ _ _ us hl => match us, hl with | [_, _], _ => rfl), rfl, rfl, rfl, rfl, c_lying_on⟩
theorem d_kept_on (X : K.In h) (G : h.Ns mainGlobals mg) (c : He.SaysD fal fnl K) : DefOk K mg T fns cons 2 "kept_on" 3 := by
  obtain ⟨fd, F⟩ := c.def_ 2 rfl
  exact ⟨_, fd, _, _, _, _, N_kept_on, ["frame", "stand", "row"], [], 200, fn_kept_on, He.glo_ok X G (c.fact 2 (f := .glo "kept_on") rfl), F, s_kept_on, F.bindsN (fun _ _ _ _ _ _ us hl => match us, hl with | [_, _, _], _ => rfl), rfl, rfl, rfl, rfl, c_kept_on⟩
theorem d_floor_strip (X : K.In h) (G : h.Ns mainGlobals mg) (c : He.SaysD fal fnl K) : DefOk K mg T fns cons 3 "floor_strip" 3 := by
  obtain ⟨fd, F⟩ := c.def_ 3 rfl
  exact ⟨_, fd, _, _, _, _, N_floor_strip, ["frame", "stand", "row"], [], 200, fn_floor_strip, He.glo_ok X G (c.fact 3 (f := .glo "floor_strip") rfl), F, s_floor_strip, F.bindsN (fun _ _ _ _ _ _ us hl => match us, hl with | [_, _, _], _ => rfl), rfl, rfl, rfl, rfl, c_floor_strip⟩
theorem d_taken (X : K.In h) (G : h.Ns mainGlobals mg) (c : He.SaysD fal fnl K) : DefOk K mg T fns cons 4 "taken" 3 := by
  obtain ⟨fd, F⟩ := c.def_ 4 rfl
  exact ⟨_, fd, _, _, _, _, N_taken, ["frame", "stand", "row"], ["strips"], 200, fn_taken, He.glo_ok X G (c.fact 4 (f := .glo "taken") rfl), F, s_taken, F.bindsN (fun _ _ _ _ _ _ us hl => match us, hl with | [_, _, _], _ => rfl), rfl, rfl, rfl, rfl, c_taken⟩
theorem d_law_draw (X : K.In h) (G : h.Ns mainGlobals mg) (c : He.SaysD fal fnl K) : DefOk K mg T fns cons 5 "_law_draw" 2 := by
  obtain ⟨fd, F⟩ := c.def_ 5 rfl
  exact ⟨_, fd, _, _, _, _, N_law_draw, ["tape", "many"], ["tape"], 200, fn_law_draw, He.glo_ok X G (c.fact 5 (f := .glo "_law_draw") rfl), F, s_law_draw, F.bindsN (fun _ _ _ _ _ _ us hl => match us, hl with | [_, _], _ => rfl), rfl, rfl, rfl, rfl, c_law_draw⟩
theorem d_law_size (X : K.In h) (G : h.Ns mainGlobals mg) (c : He.SaysD fal fnl K) : DefOk K mg T fns cons 6 "_law_size" 2 := by
  obtain ⟨fd, F⟩ := c.def_ 6 rfl
  exact ⟨_, fd, _, _, _, _, N_law_size, ["tape", "most"], [], 200, fn_law_size, He.glo_ok X G (c.fact 6 (f := .glo "_law_size") rfl), F, s_law_size, F.bindsN (fun _ _ _ _ _ _ us hl => match us, hl with | [_, _], _ => rfl), rfl, rfl, rfl, rfl, c_law_size⟩
theorem d_law_frame (X : K.In h) (G : h.Ns mainGlobals mg) (c : He.SaysD fal fnl K) : DefOk K mg T fns cons 7 "_law_frame" 2 := by
  obtain ⟨fd, F⟩ := c.def_ 7 rfl
  exact ⟨_, fd, _, _, _, _, N_law_frame, ["tape", "most"], [], 200, fn_law_frame, He.glo_ok X G (c.fact 7 (f := .glo "_law_frame") rfl), F, s_law_frame, F.bindsN (fun _ _ _ _ _ _ us hl => match us, hl with | [_, _], _ => rfl), rfl, rfl, rfl, rfl, c_law_frame⟩
theorem d_law_inks (X : K.In h) (G : h.Ns mainGlobals mg) (c : He.SaysD fal fnl K) : DefOk K mg T fns cons 8 "_law_inks" 3 := by
  obtain ⟨fd, F⟩ := c.def_ 8 rfl
  exact ⟨_, fd, _, _, _, _, N_law_inks, ["tape", "wide", "thin"], [], 200, fn_law_inks, He.glo_ok X G (c.fact 8 (f := .glo "_law_inks") rfl), F, s_law_inks, F.bindsN (fun _ _ _ _ _ _ us hl => match us, hl with | [_, _, _], _ => rfl), rfl, rfl, rfl, rfl, c_law_inks⟩
theorem d_law_inked (X : K.In h) (G : h.Ns mainGlobals mg) (c : He.SaysD fal fnl K) : DefOk K mg T fns cons 9 "_law_inked" 2 := by
  obtain ⟨fd, F⟩ := c.def_ 9 rfl
  exact ⟨_, fd, _, _, _, _, N_law_inked, ["tape", "most"], [], 200, fn_law_inked, He.glo_ok X G (c.fact 9 (f := .glo "_law_inked") rfl), F, s_law_inked, F.bindsN (fun _ _ _ _ _ _ us hl => match us, hl with | [_, _], _ => rfl), rfl, rfl, rfl, rfl, c_law_inked⟩
theorem d_law_far (X : K.In h) (G : h.Ns mainGlobals mg) (c : He.SaysD fal fnl K) : DefOk K mg T fns cons 10 "_law_far" 2 := by
  obtain ⟨fd, F⟩ := c.def_ 10 rfl
  exact ⟨_, fd, _, _, _, _, N_law_far, ["tape", "size"], [], 200, fn_law_far, He.glo_ok X G (c.fact 10 (f := .glo "_law_far") rfl), F, s_law_far, F.bindsN (fun _ _ _ _ _ _ us hl => match us, hl with | [_, _], _ => rfl), rfl, rfl, rfl, rfl, c_law_far⟩
theorem d_law_mover (X : K.In h) (G : h.Ns mainGlobals mg) (c : He.SaysD fal fnl K) : DefOk K mg T fns cons 11 "_law_mover" 3 := by
  obtain ⟨fd, F⟩ := c.def_ 11 rfl
  exact ⟨_, fd, _, _, _, _, N_law_mover, ["tape", "frame", "shapes"], [], 200, fn_law_mover, He.glo_ok X G (c.fact 11 (f := .glo "_law_mover") rfl), F, s_law_mover, F.bindsN (fun _ _ _ _ _ _ us hl => match us, hl with | [_, _, _], _ => rfl), rfl, rfl, rfl, rfl, c_law_mover⟩
theorem d_law_stand (X : K.In h) (G : h.Ns mainGlobals mg) (c : He.SaysD fal fnl K) : DefOk K mg T fns cons 12 "_law_stand" 3 := by
  obtain ⟨fd, F⟩ := c.def_ 12 rfl
  exact ⟨_, fd, _, _, _, _, N_law_stand, ["tape", "frame", "movers_most"], [], 200, fn_law_stand, He.glo_ok X G (c.fact 12 (f := .glo "_law_stand") rfl), F, s_law_stand, F.bindsN (fun _ _ _ _ _ _ us hl => match us, hl with | [_, _, _], _ => rfl), rfl, rfl, rfl, rfl, c_law_stand⟩
theorem d_law_strip (X : K.In h) (G : h.Ns mainGlobals mg) (c : He.SaysD fal fnl K) : DefOk K mg T fns cons 13 "_law_strip" 3 := by
  obtain ⟨fd, F⟩ := c.def_ 13 rfl
  exact ⟨_, fd, _, _, _, _, N_law_strip, ["shape", "turn", "row"], [], 200, fn_law_strip, He.glo_ok X G (c.fact 13 (f := .glo "_law_strip") rfl), F, s_law_strip, F.bindsN (fun _ _ _ _ _ _ us hl => match us, hl with | [_, _, _], _ => rfl), rfl, rfl, rfl, rfl, c_law_strip⟩
theorem d_law_lying (X : K.In h) (G : h.Ns mainGlobals mg) (c : He.SaysD fal fnl K) : DefOk K mg T fns cons 14 "_law_lying" 2 := by
  obtain ⟨fd, F⟩ := c.def_ 14 rfl
  exact ⟨_, fd, _, _, _, _, N_law_lying, ["stand", "row"], ["found"], 200, fn_law_lying, He.glo_ok X G (c.fact 14 (f := .glo "_law_lying") rfl), F, s_law_lying, F.bindsN (fun _ _ _ _ _ _ us hl => match us, hl with | [_, _], _ => rfl), rfl, rfl, rfl, rfl, c_law_lying⟩
theorem d_law_taken (X : K.In h) (G : h.Ns mainGlobals mg) (c : He.SaysD fal fnl K) : DefOk K mg T fns cons 15 "_law_taken" 3 := by
  obtain ⟨fd, F⟩ := c.def_ 15 rfl
  exact ⟨_, fd, _, _, _, _, N_law_taken, ["frame", "stand", "row"], ["strips"], 200, fn_law_taken, He.glo_ok X G (c.fact 15 (f := .glo "_law_taken") rfl), F, s_law_taken, F.bindsN (fun _ _ _ _ _ _ us hl => match us, hl with | [_, _, _], _ => rfl), rfl, rfl, rfl, rfl, c_law_taken⟩
theorem d_law (X : K.In h) (G : h.Ns mainGlobals mg) (c : He.SaysD fal fnl K) : DefOk K mg T fns cons 16 "law" 1 := by
  obtain ⟨fd, F⟩ := c.def_ 16 rfl
  exact ⟨_, fd, _, _, _, _, N_law, ["script"], ["tape"], 200, fn_law, He.glo_ok X G (c.fact 16 (f := .glo "law") rfl), F, s_law, F.bindsN (fun _ _ _ _ _ _ us hl => match us, hl with | [_], _ => rfl), rfl, rfl, rfl, rfl, c_law⟩
theorem defs_ok (X : K.In h) (G : h.Ns mainGlobals mg) (c : He.SaysD fal fnl K) : AllD K mg T fns cons 0 fns := .cons (d_strip_of X G c) (.cons (d_lying_on X G c) (.cons (d_kept_on X G c) (.cons (d_floor_strip X G c) (.cons (d_taken X G c) (.cons (d_law_draw X G c) (.cons (d_law_size X G c) (.cons (d_law_frame X G c) (.cons (d_law_inks X G c) (.cons (d_law_inked X G c) (.cons (d_law_far X G c) (.cons (d_law_mover X G c) (.cons (d_law_stand X G c) (.cons (d_law_strip X G c) (.cons (d_law_lying X G c) (.cons (d_law_taken X G c) (.cons (d_law X G c) (.nil)))))))))))))))))
theorem blt_ok (X : K.In h) (G : h.Ns mainGlobals mg) (c : He.SaysD fal fnl K) : ∀ x ∈ bNames, mg x = none := List.forall_mem_cons.mpr ⟨He.free_ok X G (c.fact 17 (f := .free "len") rfl), List.forall_mem_cons.mpr ⟨He.free_ok X G (c.fact 18 (f := .free "list") rfl), List.forall_mem_cons.mpr ⟨He.free_ok X G (c.fact 19 (f := .free "tuple") rfl), List.forall_mem_cons.mpr ⟨He.free_ok X G (c.fact 20 (f := .free "int") rfl), List.forall_mem_cons.mpr ⟨He.free_ok X G (c.fact 21 (f := .free "min") rfl), List.forall_mem_cons.mpr ⟨He.free_ok X G (c.fact 22 (f := .free "max") rfl), List.forall_mem_cons.mpr ⟨He.free_ok X G (c.fact 23 (f := .free "all") rfl), List.forall_mem_cons.mpr ⟨He.free_ok X G (c.fact 24 (f := .free "divmod") rfl), List.forall_mem_cons.mpr ⟨He.free_ok X G (c.fact 25 (f := .free "isinstance") rfl), List.forall_mem_cons.mpr ⟨He.free_ok X G (c.fact 26 (f := .free "range") rfl), List.forall_mem_cons.mpr ⟨He.free_ok X G (c.fact 27 (f := .free "enumerate") rfl), List.forall_mem_cons.mpr ⟨He.free_ok X G (c.fact 28 (f := .free "zip") rfl), List.forall_mem_cons.mpr ⟨He.free_ok X G (c.fact 29 (f := .free "bool") rfl), List.forall_mem_cons.mpr ⟨He.free_ok X G (c.fact 30 (f := .free "str") rfl), List.forall_mem_cons.mpr ⟨He.free_ok X G (c.fact 31 (f := .free "sorted") rfl), fun _ h => nomatch h⟩⟩⟩⟩⟩⟩⟩⟩⟩⟩⟩⟩⟩⟩⟩
theorem cons_ok (X : K.In h) (G : h.Ns mainGlobals mg) (c : He.SaysD fal fnl K) : ConsOk K mg cons := .nil
theorem closing {P : Program} {w : World} {fa : Addr} (X : K.In h) (G : h.Ns mainGlobals mg) (hfa : mg ("law" : Str) = some (.ref fa)) (c : He.SaysD fal fnl K) :
    ∃ (K' : PySem.W.Frag) (fd : FuncData) (sp : Sp), K'.In h ∧ (∀ (s : Shared) (u : Value), BindsTo s fd ⟨[u], []⟩ [("script", u)]) ∧
      (∀ (H : Hp) (a : Addr) (ns : List Int), ns.length ≤ 63 → Only H → SqL K' H a (ns.map V.int) → sp [.ref a] H (fun v _ => v = .bl true) fun _ _ _ => False) ∧
      ∀ base : Heap, K'.In base → base.Ns mainGlobals mg → FnOk P w K' mg base (CXa P) lev fa fd ["script"] sp := by
  obtain ⟨fd, F⟩ := c.def_ 16 rfl
  have e := hfa.symm.trans (He.glo_ok X G (c.fact 16 (f := .glo "law") rfl))
  cases e
  have b := FunD.bindsA (ps := ["script"]) F fun _ _ _ _ _ _ us hl => match us, hl with | [_], _ => rfl
  exact law_end (i := i_law) (fn := fn_law) X F (fun s v => b s [v] rfl) s_law rfl rfl rfl c_law (defs_ok X G c) (blt_ok X G c) (cons_ok X G c) (fun _ => 0) main
end
end Lw

open PySem PySem.W PySem.Calls PyProof.Rows
set_option maxHeartbeats 0 in
theorem PySem.Challenge.cw_glowrow_k08_rows_taken_holds : PySem.Challenge.rw_glowrow_k08_rows_taken.Holds := by
  w_on; o_law
  refine HandSHeadRun.head_any (r := OpenLaw.row PySem.Challenge.rw_glowrow_k08_rows_taken) (q := view (OpenLaw.row PySem.Challenge.rw_glowrow_k08_rows_taken).prog [19]) (H := Lw.hk) (ob := Lw.ob) (M := 4000) (loose := Lw.loose) (d := HandSHeadRun.topDef (OpenLaw.row PySem.Challenge.rw_glowrow_k08_rows_taken).prog 19) (kwd := []) Lw.ob_eq
    (by kernel_rfl) (fun s => by kernel_rfl) Lw.run (by kernel_rfl) (by kernel_rfl) (by kernel_rfl) (by rfl) (by first | assumption | decide +kernel) (by decide +kernel) ⟨rfl, rfl, rfl, rfl, rfl, by decide +kernel⟩ ?hw ?hc
  case hw => w_witness2
  case hc =>
    refine L2.walk_ofE (l := PySem.Challenge.rw_glowrow_k08_rows_taken) (n := 63) (k := Lw.lev) (x := "script") (CX := Gv.CXa (PySem.Challenge.rw_glowrow_k08_rows_taken).prog) rfl (by decide) (by kernel_rfl) ⟨rfl, by decide, by decide⟩ ?F (fun H s e s' z => Gv.cx_no H s e s' z)
    intro w mg fa h Y G hmg0
    obtain ⟨K, KX, c⟩ := Y
    have hmg : mg ("law" : PySem.Str) = some (.ref fa) := by
      have e : (HandSHeadRun.topDef (OpenLaw.row PySem.Challenge.rw_glowrow_k08_rows_taken).prog 19).name = ("law" : PySem.Str) := by kernel_rfl
      rw [← e]
      exact hmg0
    exact Lw.closing KX G hmg c
