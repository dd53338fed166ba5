import PyProof.Rows.All
import Wide.All
import OpenK.AllK
import Wide.FinOn
import KE.KStateDown
import Lean
import HandS.ForMost
import HandS.Exc
import HandS.ExcOwn
import HandS.TryOnly
import HandS.TryMany
import HandS.TupAny
import HandS.TupMul
import HandS.IsInst
import HandS.Walk
import HandS.Zip
import HandS.Deep
import HandS.Defaults
import HandS.DictTup
import HandS.Style
import KE.GoesEnum
import KE.GoesMore
import HandS.SetFor
import HandS.Strs
import HandS.HeadEnd
import HandS.HeadHook1
import HandS.HeadHook2
import HandS.Head0
import HandS.Head1
import HandS.Head2
import KE.OsArith
import HandS.WideBits
import PySem.Challenge.RW_twinproof_k59_whole_sets_at_places
set_option Elab.async false
set_option linter.all false
set_option maxRecDepth 100000
/-! Core1: value trees, stores, the intermediate code and its evaluator. -/
namespace TW
open PySem L2

/-- a value: immutable trees; ref: an object of the store; scr: the script -/
inductive T where
  | non | bl (b : Bool) | int (i : Int) | str (s : Str)
  | tup (ts : List T) | lst (ts : List T) | dk (kvs : List (Key × T)) | dt (kvs : List (List Key × T))
  | ref (n : Nat) | scr (ns : List Int)

/-- a mutable object's content -/
inductive O where
  | lst (ts : List T) | dk (kvs : List (Key × T)) | dt (kvs : List (List Key × T))
/-- a result: a value, or a new object that nobody else knows -/
inductive Ow where
  | val (t : T) | own (o : O)
def O.frz : O → T
  | .lst ts => .lst ts
  | .dk kvs => .dk kvs
  | .dt kvs => .dt kvs
def Ow.frz : Ow → T
  | .val t => t
  | .own o => o.frz
inductive Slot where
  | no | val (t : T) | own (o : O)
abbrev Env := List Slot
abbrev Sto := List O
/-- an exception: its class's number, the field that it was made with -/
structure Xn where
  cls : Nat
  arg : Option T
inductive R (α : Type) where
  | ok (a : α) (s : Sto) | exn (x : Xn) (s : Sto) | bad
def R.bind {α β : Type} (r : R α) (f : α → Sto → R β) : R β := match r with
  | .ok a s => f a s
  | .exn x s => .exn x s
  | .bad => .bad
def R.of {α : Type} (o : Option α) (s : Sto) : R α := match o with
  | some a => .ok a s
  | none => .bad

/-! ### code -/
inductive Bop where
  | add | sub | mul | fdiv | mod | shl | shr | band | bor | bxor | pow
  deriving DecidableEq
inductive Cop where
  | eq | ne | lt | le | gt | ge | inn | nin | isN | notN
  deriving DecidableEq
inductive Blt where
  | len | tupleOf | listOf | intOf | abs | sum | maxOf | minOf | max2 | min2 | sortedOf | sorSet | any | all | strOf
  | isInt | isBool | isStr | isTuple | isList
  deriving DecidableEq
/-- a target: a name, names -/
inductive Tg where
  | nm (i : Nat) | tp (is : List Nat)
mutual
inductive E where
  | var (i : Nat) | pk (i : Nat) | con (t : T)
  | bin (op : Bop) (a b : E) | neg (a : E)
  | cmp (op : Cop) (a b : E) | chn (o1 o2 : Cop) (a b c : E)
  | and (a b : E) | or (a b : E) | not (a : E) | ifx (c a b : E)
  | tup (es : List E) | lst (es : List E) | ix (a b : E) | sl (a : E) (lo hi : Option E) | rev (a : E)
  | dct (t : Bool) (es : List E)
  /-- a new object that has a name of its own in the store -/
  | mkr (e : E)
  | call (f : Nat) (es : List E) | blt (b : Blt) (e : E) | blt2 (b : Blt) (e e2 : E)
  | lc (own : List Nat) (elt : E) (tg : Tg) (it : It) (cond : Option E)
inductive It where
  | seq (e : E) | rng1 (e : E) | rng2 (a b : E) | rng3 (a b c : E) | enum (e : E) | zip (a b : E)
end
inductive S where
  | asg (lk : List Nat) (i : Nat) (e : E)
  | unp (lk : List Nat) (is : List Nat) (e : E)
  | par (lk : List Nat) (is : List Nat) (es : List E)
  | app (lk : List Nat) (i : Nat) (e : E)
  | popA (j i : Nat)
  | seti (lk : List Nat) (i : Nat) (k e : E)
  | ifs (lk : List Nat) (c : E) (a b : List S) | whl (c : E) (a : List S) | for_ (lk : List Nat) (tg : Tg) (it : It) (a : List S)
  | ret (lk : List Nat) (e : E) | retv (i : Nat) | retN | brk | cont | pass
  | expr (lk : List Nat) (e : E)
  | raise (c : Nat)
  /-- not told: it must not be come to -/
  | dead

/-! ### values -/
mutual
/-- as data -/
def T.toD : T → PyData
  | .non => .none
  | .bl b => .bool b
  | .int i => .int i
  | .str s => .str s
  | .tup ts => .tuple (toDs ts)
  | .lst ts => .list (toDs ts)
  | .dk _ => .dict []
  | .dt _ => .dict []
  | .ref _ => .dict []
  | .scr _ => .dict []
def toDs : List T → List PyData
  | [] => []
  | t :: ts => T.toD t :: toDs ts
end

/-- what a dict's key is made of -/
def T.key? : T → Option Key
  | .int i => some (.inl i)
  | .str s => some (.inr s)
  | _ => none
def keys? : List T → Option (List Key)
  | [] => some []
  | t :: ts => match t.key?, keys? ts with
    | some k, some ks => some (k :: ks)
    | _, _ => none
/-- kOk: the keys that no constant of the module is -/
structure Pm where
  kOk : List Key → Bool
def T.kt? (P : Pm) : T → Option (List Key)
  | .tup ts => (keys? ts).bind fun ks => if P.kOk ks then some ks else none
  | _ => none

/-- an object, as it stands -/
def T.obj? (st : Sto) : T → Option O
  | .lst ts => some (.lst ts)
  | .dk kvs => some (.dk kvs)
  | .dt kvs => some (.dt kvs)
  | .ref n => st[n]?
  | _ => none
def T.lst? (st : Sto) (t : T) : Option (List T) := match t.obj? st with
  | some (.lst ts) => some ts
  | _ => none
/-- a list or a tuple -/
def T.seq? (st : Sto) (t : T) : Option (List T) := match t with
  | .tup ts => some ts
  | t => t.lst? st
/-- what may be walked -/
def T.itr? : T → Option (List T)
  | .tup ts => some ts
  | .lst ts => some ts
  | _ => none
/-- what zip walks: two lists, two tuples -/
def zip? : T → T → Option (List T)
  | .tup xs, y => match y with
    | .tup ys => some ((xs.zip ys).map fun p => .tup [p.1, p.2])
    | _ => none
  | .lst xs, y => match y with
    | .lst ys => some ((xs.zip ys).map fun p => .tup [p.1, p.2])
    | _ => none
  | _, _ => none
/-- for ==: an object at the top is read -/
def T.top (st : Sto) : T → T
  | .ref n => match st[n]? with
    | some (.lst ts) => .lst ts
    | _ => .ref n
  | t => t

def fits (n : Nat) : Bool := decide (n ≤ 16777216)
def small64 (i : Int) : Bool := decide (-(18446744073709551616) < i) && decide (i < 18446744073709551616)
def pw64 (i : Int) : Bool := decide (i.natAbs < 18446744073709551616)

def addT (st : Sto) (x y : T) : Option Ow := match x, y with
  | .int a, .int b => some (.val (.int (a + b)))
  | .str a, .str b => if fits (a.length + b.length) then some (.val (.str (a ++ b))) else none
  | .tup a, .tup b => if fits (a.length + b.length) then some (.val (.tup (a ++ b))) else none
  | x, y => match x.lst? st, y.lst? st with
    | some a, some b => if fits (a.length + b.length) then some (.own (.lst (a ++ b))) else none
    | _, _ => none
def mulT (st : Sto) (x y : T) : Option Ow := match x, y with
  | .int a, .int b => if small64 a || small64 b then some (.val (.int (a * b))) else none
  | .tup a, .int k => if !a.isEmpty && decide (2 ≤ k) && decide (k ≤ 1000) && decide (a.length ≤ 1000) then some (.val (.tup (List.replicate k.toNat a).flatten)) else if decide (k = 1) = true then some (.val (.tup a)) else if (!a.isEmpty && decide (k = 0)) = true then some (.val (.tup [])) else none
  | x, .int k => match x.lst? st with
    | some a => if decide (0 ≤ k) && decide (k ≤ 100000) && fits (a.length * k.toNat) then some (.own (.lst (List.replicate k.toNat a).flatten)) else none
    | none => none
  | _, _ => none
/-- two ints -/
def intOp (op : Bop) (a b : Int) : Option Int := match op with
  | .sub => some (a - b)
  | .fdiv => if decide (0 < b) && decide (b < 1073741824) then some (a / b) else none
  | .mod => if decide (0 < b) then some (a % b) else none
  | .shl => if decide (0 ≤ b) && decide (b ≤ 1000000) && pw64 a then some (a * 2 ^ b.toNat) else none
  | .shr => if decide (0 ≤ b) then some (a / 2 ^ b.toNat) else none
  | .band => some (Builtin.bitAnd a b)
  | .bor => some (Builtin.bitOr a b)
  | .bxor => some (Builtin.bitXor a b)
  | .pow => if decide (0 ≤ b) && decide (b ≤ 1000000) && pw64 a then some (a ^ b.toNat) else none
  | _ => none
def opBin (st : Sto) (op : Bop) (x y : T) : Option Ow := match op with
  | .add => addT st x y
  | .mul => mulT st x y
  | op => match x, y with
    | .int a, .int b => (intOp op a b).map fun i => .val (.int i)
    | _, _ => none

/-- flat values, for in -/
def T.flat : T → Bool
  | .non | .bl _ | .int _ | .str _ => true
  | _ => false
def okD (t : T) : Bool := SeqAt.shaped t.toD
def eqT (a b : T) : Bool := PyData.eqv a.toD b.toD
def isSub (x y : Str) : Bool := !(Builtin.Str.occurrences y x 0 y.length 1).isEmpty
/-- x in y -/
def inT (P : Pm) (st : Sto) (x y : T) : Option Bool := match y with
  | .str b => match x with
    | .str a => some (isSub a b)
    | _ => none
  | .tup ts => if x.flat && ts.all T.flat then some (ts.any fun t => eqT t x) else none
  | y => match y.obj? st with
    | some (.dk kvs) => x.key?.map fun k => kvs.any fun p => decide (p.1 = k)
    | some (.dt kvs) => (x.kt? P).map fun k => kvs.any fun p => decide (p.1 = k)
    | some (.lst ts) => if okD (x.top st) && okD (.lst ts) then some (ts.any fun t => eqT t (x.top st)) else none
    | none => none
def T.isNon : T → Bool
  | .non => true
  | _ => false
def T.isBl (b : Bool) : T → Bool
  | .bl c => c == b
  | _ => false
def eqO (st : Sto) (x y : T) : Option Bool := if okD (x.top st) && okD (y.top st) then some (eqT (x.top st) (y.top st)) else none
def ordI (op : Cop) (a b : Int) : Bool := match op with
  | .lt => decide (a < b)
  | .le => decide (a ≤ b)
  | .gt => decide (b < a)
  | _ => decide (b ≤ a)
def opCmp (P : Pm) (st : Sto) (op : Cop) (x y : T) : Option Bool := match op with
  | .eq => eqO st x y
  | .ne => (eqO st x y).map (!·)
  | .inn => inT P st x y
  | .nin => (inT P st x y).map (!·)
  | .isN => match y with
    | .non => some x.isNon
    | .bl b => some (x.isBl b)
    | _ => none
  | .notN => match y with
    | .non => some (!x.isNon)
    | .bl b => some (!x.isBl b)
    | _ => none
  | op => match x, y with
    | .int a, .int b => some (ordI op a b)
    | _, _ => none

/-- d[k] -/
def dGet {κ : Type} [DecidableEq κ] (k : κ) : List (κ × T) → Option T
  | [] => none
  | (q, v) :: r => if q = k then some v else dGet k r
/-- d[k] = v -/
def dPut {κ : Type} [DecidableEq κ] (k : κ) (v : T) (kvs : List (κ × T)) : List (κ × T) :=
  if (kvs.any fun kv => decide (kv.1 = k)) = true then kvs.map (fun kv => if kv.1 = k then (kv.1, v) else kv) else kvs ++ [(k, v)]

def ixT (P : Pm) (st : Sto) (x y : T) : Option T := match x with
  | .str s => match y with
    | .int i => if fits s.length then (atI s.cps.toList i).map fun c => .str ⟨#[c]⟩ else none
    | _ => none
  | .tup ts => match y with
    | .int i => atI ts i
    | _ => none
  | x => match x.obj? st with
    | some (.dk kvs) => y.key?.bind fun k => dGet k kvs
    | some (.dt kvs) => (y.kt? P).bind fun k => dGet k kvs
    | some (.lst ts) => match y with
      | .int i => atI ts i
      | _ => none
    | none => none
def cutT (xs : List T) (lo hi : Option Int) : List T := (xs.drop (HT.sIx xs.length 0 lo)).take (HT.sIx xs.length xs.length hi - HT.sIx xs.length 0 lo)
def slT (st : Sto) (x : T) (lo hi : Option Int) : Option Ow := match x with
  | .tup ts => some (.val (.tup (cutT ts lo hi)))
  | x => (x.lst? st).map fun ts => .own (.lst (cutT ts lo hi))

/-- x[::-1] -/
def revT (st : Sto) (x : T) : Option Ow := match x with
  | .tup ts => some (.val (.tup ts.reverse))
  | x => (x.lst? st).map fun ts => .own (.lst ts.reverse)
def ints? : List T → Option (List Int)
  | [] => some []
  | t :: r => match t with
    | .int i => (ints? r).map (i :: ·)
    | _ => none
def bls? : List T → Option (List Bool)
  | [] => some []
  | t :: r => match t with
    | .bl i => (bls? r).map (i :: ·)
    | _ => none
def maxI : List Int → Int
  | [] => 0
  | i :: r => r.foldl (fun a b => if b > a then b else a) i
def minI : List Int → Int
  | [] => 0
  | i :: r => r.foldl (fun a b => if b < a then b else a) i
def insI (i : Int) : List Int → List Int
  | [] => [i]
  | j :: r => if i ≤ j then i :: j :: r else j :: insI i r
def sortI : List Int → List Int
  | [] => []
  | i :: r => insI i (sortI r)
/-- sorted(set(..)) -/
def insU (i : Int) : List Int → List Int
  | [] => [i]
  | j :: r => if i < j then i :: j :: r else if i = j then j :: r else j :: insU i r
def setI : List Int → List Int
  | [] => []
  | i :: r => insU i (setI r)
/-- the type's name -/
def T.ty : T → Option String
  | .non => some "NoneType"
  | .bl _ => some "bool"
  | .int _ => some "int"
  | .str _ => some "str"
  | .tup _ => some "tuple"
  | .lst _ => some "list"
  | _ => none
def isTy (c : String) (t : T) : Option Bool := t.ty.map fun n => n == c || (n == "bool" && c == "int")
def lenT (st : Sto) : T → Option Nat
  | .str s => if fits s.length then some s.length else none
  | x => (x.seq? st).map (·.length)

def bltT (st : Sto) (b : Blt) (x : T) : Option Ow := match b with
  | .len => (lenT st x).map fun (n : Nat) => Ow.val (T.int (n : Int))
  | .tupleOf => (x.seq? st).map fun ts => .val (.tup ts)
  | .listOf => match x with
    | .scr ns => some (.own (.lst (ns.map .int)))
    | x => (x.seq? st).map fun ts => .own (.lst ts)
  | .intOf => match x with
    | .int i => some (.val (.int i))
    | _ => none
  | .abs => match x with
    | .int i => some (.val (.int (if i < 0 then -i else i)))
    | _ => none
  | .sum => ((x.lst? st).bind ints?).map fun ns => .val (.int ns.sum)
  | .maxOf => ((x.lst? st).bind ints?).bind fun ns => if ns.isEmpty then none else some (.val (.int (maxI ns)))
  | .minOf => ((x.lst? st).bind ints?).bind fun ns => if ns.isEmpty then none else some (.val (.int (minI ns)))
  | .sortedOf => ((x.lst? st).bind ints?).bind fun ns => if decide (ns.length < 64) then some (.own (.lst ((sortI ns).map .int))) else none
  | .sorSet => ((x.lst? st).bind ints?).bind fun ns => if decide (ns.length < 4000) && decide ((setI ns).length < 64) then some (.own (.lst ((setI ns).map .int))) else none
  | .any => ((x.lst? st).bind bls?).map fun bs => .val (.bl (bs.any id))
  | .all => ((x.lst? st).bind bls?).map fun bs => .val (.bl (bs.all id))
  | .isInt => (isTy "int" x).map fun k => .val (.bl k)
  | .isBool => (isTy "bool" x).map fun k => .val (.bl k)
  | .isStr => (isTy "str" x).map fun k => .val (.bl k)
  | .isTuple => (isTy "tuple" x).map fun k => .val (.bl k)
  | .isList => (isTy "list" x).map fun k => .val (.bl k)
  | _ => none
def bltT2 (b : Blt) (x y : T) : Option Ow := match b with
  | .max2 => match x, y with
    | .int i, .int j => some (.val (.int (if j > i then j else i)))
    | _, _ => none
  | .min2 => match x, y with
    | .int i, .int j => some (.val (.int (if j < i then j else i)))
    | _, _ => none
  | _ => none

/-! ### the evaluator -/
def slotT : Option Slot → Option T
  | some (.val t) => some t
  | _ => none
/-- what a look at the slot gives -/
def slotP : Option Slot → Option T
  | some (.val t) => some t
  | some (.own o) => some o.frz
  | _ => none
def bool? : T → Option Bool
  | .bl b => some b
  | _ => none
def int? : T → Option Int
  | .int b => some b
  | _ => none
def setAll (env : Env) : List Nat → List T → Env
  | i :: is, t :: ts => setAll (env.set i (.val t)) is ts
  | _, _ => env
/-- to a target -/
def Tg.put (env : Env) : Tg → T → Option Env
  | .nm i, t => some (env.set i (.val t))
  | .tp is, t => match t with
    | .tup ts => if is.length = ts.length then some (setAll env is ts) else none
    | _ => none
def wipeE (env : Env) : List Nat → Env
  | [] => env
  | v :: vs => (wipeE env vs).set v .no
def dkAll : List T → List (Key × T) → Option (List (Key × T))
  | [], acc => some acc
  | k :: r, acc => match k.key?, r with
    | some q, v :: r' => dkAll r' (dPut q v acc)
    | _, _ => none
/-- the items that are walked -/
def enumT : Nat → List T → List T
  | _, [] => []
  | n, t :: ts => .tup [.int (n : Int), t] :: enumT (n + 1) ts
def rngT (lo hi : Int) : List T := (List.range (hi - lo).toNat).map fun (i : Nat) => .int (lo + i)
def okC (i j k : Int) : Bool := decide (k ≠ 0) && (decide (k.natAbs < 1073741824) && (Builtin.Range.small i j k && decide (0 ≤ Builtin.Range.rangeSize i j k)))
def rngC (i j k : Int) : List T := (List.range (Builtin.Range.rangeSize i j k).toNat).map fun (m : Nat) => .int (i + (m : Int) * k)
def small62 (i : Int) : Bool := decide (-(4611686018427387904) ≤ i) && decide (i < 4611686018427387904)

/-- one turn after the other; the block's names are bound anew in each -/
def lcGo (f : T → Sto → R (Option T)) : List T → List T → Sto → R (List T)
  | [], acc, s => .ok acc s
  | t :: ts, acc, s => match f t s with
    | .ok (some x) s1 => if acc.length < 16777216 then lcGo f ts (acc ++ [x]) s1 else .bad
    | .ok none s1 => lcGo f ts acc s1
    | _ => .bad
def frzR (r : R Ow) : R T := r.bind fun w s => .ok w.frz s
/-- an operand: an owned list may be looked at -/
def opd (env : Env) (e : E) (r : R Ow) (s : Sto) : R T := match e with
  | .pk i => R.of (slotP env[i]?) s
  | _ => frzR r

section
variable (P : Pm) (G : Nat → List T → Sto → R Ow)
mutual
def evE (env : Env) : E → Sto → R Ow
  | .var i, s => R.of ((slotT env[i]?).map .val) s
  | .pk _, _ => .bad
  | .con t, s => .ok (.val t) s
  | .bin op a b, s => (opd env a (evE env a s) s).bind fun x s1 => (opd env b (evE env b s1) s1).bind fun y s2 => R.of (opBin s2 op x y) s2
  | .neg a, s => (frzR (evE env a s)).bind fun x s1 => R.of ((int? x).map fun i => .val (.int (-i))) s1
  | .cmp op a b, s => (opd env a (evE env a s) s).bind fun x s1 => (opd env b (evE env b s1) s1).bind fun y s2 => R.of ((opCmp P s2 op x y).map fun k => .val (.bl k)) s2
  | .chn o1 o2 a b c, s => (opd env a (evE env a s) s).bind fun x s1 => (opd env b (evE env b s1) s1).bind fun y s2 => (R.of (opCmp P s2 o1 x y) s2).bind fun k s2 =>
      if k = true then (opd env c (evE env c s2) s2).bind fun z s3 => R.of ((opCmp P s3 o2 y z).map fun k => .val (.bl k)) s3 else .ok (.val (.bl false)) s2
  | .and a b, s => (frzR (evE env a s)).bind fun x s1 => (R.of (bool? x) s1).bind fun k s1 => if k = true then evE env b s1 else .ok (.val (.bl false)) s1
  | .or a b, s => (frzR (evE env a s)).bind fun x s1 => (R.of (bool? x) s1).bind fun k s1 => if k = true then .ok (.val (.bl true)) s1 else evE env b s1
  | .not a, s => (frzR (evE env a s)).bind fun x s1 => R.of ((bool? x).map fun k => .val (.bl (!k))) s1
  | .ifx c a b, s => (frzR (evE env c s)).bind fun x s1 => (R.of (bool? x) s1).bind fun k s1 => if k = true then evE env a s1 else evE env b s1
  | .tup es, s => (evEs env es s).bind fun xs s1 => if fits xs.length then .ok (.val (.tup xs)) s1 else .bad
  | .lst es, s => (evEs env es s).bind fun xs s1 => if fits xs.length then .ok (.own (.lst xs)) s1 else .bad
  | .ix a b, s => (opd env a (evE env a s) s).bind fun x s1 => (frzR (evE env b s1)).bind fun y s2 => R.of ((ixT P s2 x y).map .val) s2
  | .sl a lo hi, s => (opd env a (evE env a s) s).bind fun x s1 => (evO env lo s1).bind fun l s2 => (evO env hi s2).bind fun h s3 => R.of (slT s3 x l h) s3
  | .rev a, s => (opd env a (evE env a s) s).bind fun x s1 => R.of (revT s1 x) s1
  | .dct t es, s => (evEs env es s).bind fun xs s1 => if t = true then (match xs with
      | [] => .ok (.own (.dt [])) s1
      | _ => .bad) else R.of ((dkAll xs []).map fun kvs => .own (.dk kvs)) s1
  | .mkr e, s => (evE env e s).bind fun w s1 => (match w with
      | .own o => .ok (.val (.ref s1.length)) (s1 ++ [o])
      | .val t => .ok (.val t) s1)
  | .call f es, s => (evEs env es s).bind fun xs s1 => G f xs s1
  | .blt b e, s => (opd env e (evE env e s) s).bind fun x s1 => R.of (bltT s1 b x) s1
  | .blt2 b e e2, s => (frzR (evE env e s)).bind fun x s1 => (frzR (evE env e2 s1)).bind fun y s2 => R.of (bltT2 b x y) s2
  | .lc own elt tg it cond, s => (evI env it s).bind fun ts s1 => (lcGo (fun t s => match tg.put (wipeE env own) t with
      | some env' => (evC env' cond s).bind fun k s2 => if k = true then (frzR (evE env' elt s2)).bind fun y s3 => .ok (some y) s3 else .ok none s2
      | none => .bad) ts [] s1).bind fun xs s2 => .ok (.own (.lst xs)) s2
def evEs (env : Env) : List E → Sto → R (List T)
  | [], s => .ok [] s
  | e :: es, s => (frzR (evE env e s)).bind fun x s1 => (evEs env es s1).bind fun xs s2 => .ok (x :: xs) s2
def evO (env : Env) : Option E → Sto → R (Option Int)
  | none, s => .ok none s
  | some e, s => (frzR (evE env e s)).bind fun x s1 => R.of ((int? x).map some) s1
def evC (env : Env) : Option E → Sto → R Bool
  | none, s => .ok true s
  | some e, s => (frzR (evE env e s)).bind fun x s1 => R.of (bool? x) s1
def evI (env : Env) : It → Sto → R (List T)
  | .seq e, s => (opd env e (evE env e s) s).bind fun x s1 => R.of x.itr? s1
  | .rng1 e, s => (frzR (evE env e s)).bind fun x s1 => (R.of (int? x) s1).bind fun j s1 => if small62 j then .ok (rngT 0 j) s1 else .bad
  | .rng2 a b, s => (frzR (evE env a s)).bind fun x s1 => (frzR (evE env b s1)).bind fun y s2 => (R.of (int? x) s2).bind fun i s2 => (R.of (int? y) s2).bind fun j s2 =>
      if small62 i && small62 j then .ok (rngT i j) s2 else .bad
  | .rng3 a b c, s => (frzR (evE env a s)).bind fun x s1 => (frzR (evE env b s1)).bind fun y s2 => (frzR (evE env c s2)).bind fun z s3 => (R.of (int? x) s3).bind fun i s3 => (R.of (int? y) s3).bind fun j s3 => (R.of (int? z) s3).bind fun k s3 =>
      if okC i j k then .ok (rngC i j k) s3 else .bad
  | .enum e, s => (opd env e (evE env e s) s).bind fun x s1 => R.of (x.itr?.map (enumT 0)) s1
  | .zip a b, s => (opd env a (evE env a s) s).bind fun x s1 => (opd env b (evE env b s1) s1).bind fun y s2 => R.of (zip? x y) s2
end
end

/-! ### statements -/
inductive Out where
  | nx (env : Env) (s : Sto) | rt (w : Ow) (s : Sto) | bk (env : Env) (s : Sto) | ct (env : Env) (s : Sto) | exn (x : Xn) (env : Env) (s : Sto) | bad
def Out.seq (o : Out) (f : Env → Sto → Out) : Out := match o with
  | .nx env s => f env s
  | o => o
def R.out {α : Type} (r : R α) (env : Env) (f : α → Sto → Out) : Out := match r with
  | .ok a s => f a s
  | .exn x s => .exn x env s
  | .bad => .bad
/-- owned lists that are handed on are owned no more -/
def frz1 (env : Env) (i : Nat) : Env := match env[i]? with
  | some (.own o) => env.set i (.val o.frz)
  | _ => env
def frzE (env : Env) : List Nat → Env
  | [] => env
  | i :: is => frzE (frz1 env i) is
def whGo (c : Env → Sto → R Bool) (b : Env → Sto → Out) : Nat → Env → Sto → Out
  | 0, _, _ => .bad
  | n + 1, env, s => (c env s).out env fun k s1 => if k = true then (match b env s1 with
      | .nx env' s' => whGo c b n env' s'
      | .ct env' s' => whGo c b n env' s'
      | .bk env' s' => .nx env' s'
      | o => o) else .nx env s1
def forGo (b : T → Env → Sto → Out) : List T → Env → Sto → Out
  | [], env, s => .nx env s
  | t :: ts, env, s => match b t env s with
    | .nx env' s' => forGo b ts env' s'
    | .ct env' s' => forGo b ts env' s'
    | .bk env' s' => .nx env' s'
    | o => o
def Ow.slot : Ow → Slot
  | .val t => .val t
  | .own o => .own o
def setO (env : Env) : List Nat → List Ow → Env
  | i :: is, w :: ws => setO (env.set i w.slot) is ws
  | _, _ => env
/-- the object that a slot's name stands for is changed -/
def chg (env : Env) (s : Sto) (i : Nat) (f : O → Option O) : Out := match env[i]? with
  | some (.own o) => (match f o with
    | some o' => .nx (env.set i (.own o')) s
    | none => .bad)
  | some (.val (.ref n)) => (match s[n]? with
    | some o => (match f o with
      | some o' => .nx env (s.set n o')
      | none => .bad)
    | none => .bad)
  | _ => .bad
/-- the object that a slot's name stands for -/
def objAt (env : Env) (s : Sto) (i : Nat) : Option O := match env[i]? with
  | some (.own o) => some o
  | some (.val (.ref n)) => s[n]?
  | _ => none
def popO : O → Option O
  | .lst ts => some (.lst ts.dropLast)
  | _ => none
def lastT (env : Env) (s : Sto) (i : Nat) : Option T := match objAt env s i with
  | some (.lst ts) => ts[ts.length - 1]?
  | _ => none
/-- the slot's name stands for a list -/
def isL (env : Env) (s : Sto) (i : Nat) : Bool := match env[i]? with
  | some (.own (.lst _)) => true
  | some (.val (.ref n)) => (match s[n]? with
    | some (.lst _) => true
    | _ => false)
  | _ => false
/-- the slot's name stands for an object -/
def isOb (env : Env) (i : Nat) : Bool := match env[i]? with
  | some (.own _) => true
  | some (.val (.ref _)) => true
  | _ => false
def appO (t : T) : O → Option O
  | .lst ts => if ts.length < 16777216 then some (.lst (ts ++ [t])) else none
  | _ => none
def setiO (P : Pm) (k v : T) : O → Option O
  | .lst ts => match k with
    | .int i => (ixN ts.length i).map fun j => .lst (ts.set j v)
    | _ => none
  | .dk kvs => if kvs.length < 16777216 then k.key?.map fun q => .dk (dPut q v kvs) else none
  | .dt kvs => if kvs.length < 16777216 then (k.kt? P).map fun q => .dt (dPut q v kvs) else none
def evWs (P : Pm) (G : Nat → List T → Sto → R Ow) (env : Env) : List E → Sto → R (List Ow)
  | [], s => .ok [] s
  | e :: es, s => (evE P G env e s).bind fun x s1 => (evWs P G env es s1).bind fun xs s2 => .ok (x :: xs) s2

section
variable (P : Pm) (G : Nat → List T → Sto → R Ow) (lf : Nat)
mutual
def evS : S → Env → Sto → Out
  | .asg lk i e, env, s => (evE P G (frzE env lk) e s).out (frzE env lk) fun w s1 => .nx ((frzE env lk).set i w.slot) s1
  | .unp lk is e, env, s => (frzR (evE P G (frzE env lk) e s)).out (frzE env lk) fun t s1 => match t with
      | .tup ts => if is.length = ts.length then .nx (setAll (frzE env lk) is ts) s1 else .bad
      | _ => .bad
  | .par lk is es, env, s => (evWs P G (frzE env lk) es s).out (frzE env lk) fun ws s1 => if is.length = ws.length then .nx (setO (frzE env lk) is ws) s1 else .bad
  | .app lk i e, env, s => if isL (frzE env lk) s i = true then (frzR (evE P G (frzE env lk) e s)).out (frzE env lk) fun t s1 => chg (frzE env lk) s1 i (appO t) else .bad
  | .popA j i, env, s => match lastT env s i with
      | some t => (match chg env s i popO with
        | .nx env' s' => .nx (env'.set j (.val t)) s'
        | _ => .bad)
      | none => .bad
  | .seti lk i k e, env, s => if isOb (frzE env lk) i = true then (frzR (evE P G (frzE env lk) e s)).out (frzE env lk) fun t s1 => (frzR (evE P G (frzE env lk) k s1)).out (frzE env lk) fun q s2 => chg (frzE env lk) s2 i (setiO P q t) else .bad
  | .ifs lk c a b, env, s => (evC P G (frzE env lk) (some c) s).out (frzE env lk) fun k s1 => if k = true then evSs a (frzE env lk) s1 else evSs b (frzE env lk) s1
  | .whl c a, env, s => whGo (fun env s => evC P G env (some c) s) (fun env s => evSs a env s) lf env s
  | .for_ lk tg it a, env, s => (evI P G (frzE env lk) it s).out (frzE env lk) fun ts s1 => forGo (fun t env s => match tg.put env t with
      | some env' => evSs a env' s
      | none => .bad) ts (frzE env lk) s1
  | .ret lk e, env, s => (evE P G (frzE env lk) e s).out (frzE env lk) fun w s1 => .rt w s1
  | .retv i, env, s => match env[i]? with
      | some (.own o) => .rt (.own o) s
      | some (.val t) => .rt (.val t) s
      | _ => .bad
  | .retN, _, s => .rt (.val .non) s
  | .brk, env, s => .bk env s
  | .cont, env, s => .ct env s
  | .pass, env, s => .nx env s
  | .expr lk e, env, s => (evE P G (frzE env lk) e s).out (frzE env lk) fun _ s1 => .nx (frzE env lk) s1
  | .raise c, env, s => .exn ⟨c, none⟩ env s
  | .dead, _, _ => .bad
def evSs : List S → Env → Sto → Out
  | [], env, s => .nx env s
  | x :: xs, env, s => (evS x env s).seq fun env' s' => evSs xs env' s'
end
end
/-- a def: parameters, names, body -/
structure Fn where
  par : Nat
  size : Nat
  body : List S
def Out.res : Out → R Ow
  | .rt w s => .ok w s
  | .nx _ s => .ok (.val .non) s
  | .exn x _ s => .exn x s
  | _ => .bad
def startE (n : Nat) (ts : List T) : Env := ts.map .val ++ List.replicate (n - ts.length) .no
/-- a call, n levels deep at most -/
def run (P : Pm) (Γ : List Fn) (lf : Nat) : Nat → Nat → List T → Sto → R Ow
  | 0, _, _, _ => .bad
  | n + 1, f, ts, s => match Γ[f]? with
    | some d => if ts.length = d.par then (evSs P (run P Γ lf n) lf d.body (startE d.size ts) s).res else .bad
    | none => .bad
end TW

set_option Elab.async false
set_option linter.all false
set_option maxRecDepth 100000
set_option maxHeartbeats 1000000
/-! Core2: how values stand in the abstract heap; what a step keeps. -/
namespace TW
open PySem L2

/-- a thing that never changes -/
def Imm : HO → Prop
  | .tup _ => True
  | .frz _ _ => True
  | _ => False

section
variable (K : PySem.W.Frag) (P : Pm) (H : Hp) (Z : Addr → Prop) (ρ : List Addr)
mutual
inductive RT : T → V → Prop
  | non : RT .non .non
  | bl (b : Bool) : RT (.bl b) (.bl b)
  | int (i : Int) : RT (.int i) (.int i)
  | str (s : Str) : RT (.str s) (.str s)
  | tup {a : Addr} {xs : List V} {ts : List T} : H a = some (.tup xs) → RTs ts xs → RT (.tup ts) (.ref a)
  | tupK {a : Addr} {xs : List V} {ts : List T} (h : ∃ (o : Obj) (its : Array Value) (n : Nat), K.lookup a = some o ∧ o.cls = .type "tuple" ∧ o.data = .seq its n ∧ its.size ≤ sizeLine ∧ Vals xs its.toList) :
      RTs ts xs → (∀ ks, keys? ts = some ks → P.kOk ks = false) → RT (.tup ts) (.ref a)
  | lst {a : Addr} {xs : List V} {ts : List T} : H a = some (.lst xs) → Z a → RTs ts xs → RT (.lst ts) (.ref a)
  | dk {a : Addr} {xs : List (Key × V)} {ts : List (Key × T)} : H a = some (.dK xs) → Z a → RTk ts xs → RT (.dk ts) (.ref a)
  | dt {a : Addr} {xs : List (List Key × V)} {ts : List (List Key × T)} : H a = some (.dT xs) → Z a → RTt ts xs → RT (.dt ts) (.ref a)
  | ref {n : Nat} {a : Addr} : ρ[n]? = some a → RT (.ref n) (.ref a)
  | scr {a : Addr} {ns : List Int} : Rd H a (.lst (ns.map V.int)) → Z a → RT (.scr ns) (.ref a)
  | scrK {a : Addr} {ns : List Int} (h : ∃ (o : Obj) (its : Array Value) (n : Nat), K.lookup a = some o ∧ o.cls = .type "list" ∧ o.dict = none ∧ o.data = .seq its n ∧ its.size ≤ sizeLine ∧ Vals (ns.map V.int) its.toList) : RT (.scr ns) (.ref a)
inductive RTs : List T → List V → Prop
  | nil : RTs [] []
  | cons {t : T} {v : V} {ts : List T} {vs : List V} : RT t v → RTs ts vs → RTs (t :: ts) (v :: vs)
inductive RTk : List (Key × T) → List (Key × V) → Prop
  | nil : RTk [] []
  | cons {k : Key} {t : T} {v : V} {ts : List (Key × T)} {vs : List (Key × V)} : RT t v → RTk ts vs → RTk ((k, t) :: ts) ((k, v) :: vs)
inductive RTt : List (List Key × T) → List (List Key × V) → Prop
  | nil : RTt [] []
  | cons {k : List Key} {t : T} {v : V} {ts : List (List Key × T)} {vs : List (List Key × V)} : RT t v → RTt ts vs → RTt ((k, t) :: ts) ((k, v) :: vs)
end
/-- an object's content at a -/
inductive RO : O → Addr → Prop
  | lst {a : Addr} {xs : List V} {ts : List T} : H a = some (.lst xs) → RTs K P H Z ρ ts xs → RO (.lst ts) a
  | dk {a : Addr} {xs : List (Key × V)} {ts : List (Key × T)} : H a = some (.dK xs) → RTk K P H Z ρ ts xs → RO (.dk ts) a
  | dt {a : Addr} {xs : List (List Key × V)} {ts : List (List Key × T)} : H a = some (.dT xs) → RTt K P H Z ρ ts xs → RO (.dt ts) a
end

/-- what keeps values -/
structure Kp (H : Hp) (ρ : List Addr) (Z : Addr → Prop) (H' : Hp) (ρ' : List Addr) (Z' : Addr → Prop) : Prop where
  imm : ∀ a u, H a = some u → (Z a ∨ Imm u) → H' a = some u
  zin : ∀ a, Z a → Z' a
  rho : ∃ ex, ρ' = ρ ++ ex
theorem Kp.refl (H : Hp) (ρ : List Addr) (Z : Addr → Prop) : Kp H ρ Z H ρ Z := ⟨fun _ _ h _ => h, fun _ h => h, [], by simp⟩
theorem Kp.trans {H H1 H2 : Hp} {ρ ρ1 ρ2 : List Addr} {Z Z1 Z2 : Addr → Prop} (a : Kp H ρ Z H1 ρ1 Z1) (b : Kp H1 ρ1 Z1 H2 ρ2 Z2) : Kp H ρ Z H2 ρ2 Z2 := by
  refine ⟨fun x u h q => b.imm x u (a.imm x u h q) (q.imp (a.zin x) id), fun x h => b.zin x (a.zin x h), ?_⟩
  obtain ⟨e1, h1⟩ := a.rho
  obtain ⟨e2, h2⟩ := b.rho
  exact ⟨e1 ++ e2, by rw [h2, h1, List.append_assoc]⟩
section
variable {K : PySem.W.Frag} {P : Pm} {H H' : Hp} {Z Z' : Addr → Prop} {ρ ρ' : List Addr}
theorem Kp.sqT (k : Kp H ρ Z H' ρ' Z') {a : Addr} {xs : List V} (h : SqT K H a xs) : SqT K H' a xs := by
  rcases h with (h | ⟨o, h⟩) | h
  · exact .inl (.inl (k.imm _ _ h (.inr trivial)))
  · exact .inl (.inr ⟨o, k.imm _ _ h (.inr trivial)⟩)
  · exact .inr h
theorem Kp.rd (k : Kp H ρ Z H' ρ' Z') {a : Addr} {u : HO} (h : Rd H a u) (z : Z a) : Rd H' a u := by
  rcases h with h | ⟨o, h⟩
  · exact .inl (k.imm _ _ h (.inl z))
  · exact .inr ⟨o, k.imm _ _ h (.inl z)⟩
theorem Kp.ref (k : Kp H ρ Z H' ρ' Z') {n : Nat} {a : Addr} (h : ρ[n]? = some a) : ρ'[n]? = some a := by
  obtain ⟨ex, e⟩ := k.rho
  rw [e, List.getElem?_append_left (List.getElem?_eq_some_iff.mp h).1]
  exact h
mutual
theorem RT.keep (k : Kp H ρ Z H' ρ' Z') : ∀ (t : T) (v : V), RT K P H Z ρ t v → RT K P H' Z' ρ' t v
  | .non, _, h => by cases h; exact .non
  | .bl _, _, h => by cases h; exact .bl _
  | .int _, _, h => by cases h; exact .int _
  | .str _, _, h => by cases h; exact .str _
  | .tup ts, _, h => by
    cases h with
    | tup h1 h2 => exact .tup (k.imm _ _ h1 (.inr trivial)) (RTs.keep k ts _ h2)
    | tupK h1 h2 h3 => exact .tupK h1 (RTs.keep k ts _ h2) h3
  | .lst ts, _, h => by
    cases h with
    | lst h1 z h2 => exact .lst (k.imm _ _ h1 (.inl z)) (k.zin _ z) (RTs.keep k ts _ h2)
  | .dk ts, _, h => by
    cases h with
    | dk h1 z h2 => exact .dk (k.imm _ _ h1 (.inl z)) (k.zin _ z) (RTk.keep k ts _ h2)
  | .dt ts, _, h => by
    cases h with
    | dt h1 z h2 => exact .dt (k.imm _ _ h1 (.inl z)) (k.zin _ z) (RTt.keep k ts _ h2)
  | .ref n, _, h => by
    cases h with
    | ref h1 => exact .ref (k.ref h1)
  | .scr ns, _, h => by
    cases h with
    | scr h1 z => exact .scr (k.rd h1 z) (k.zin _ z)
    | scrK h1 => exact .scrK h1
theorem RTs.keep (k : Kp H ρ Z H' ρ' Z') : ∀ (ts : List T) (vs : List V), RTs K P H Z ρ ts vs → RTs K P H' Z' ρ' ts vs
  | [], _, h => by cases h; exact .nil
  | t :: ts, _, h => by
    cases h with
    | cons h1 h2 => exact .cons (RT.keep k t _ h1) (RTs.keep k ts _ h2)
theorem RTk.keep (k : Kp H ρ Z H' ρ' Z') : ∀ (ts : List (Key × T)) (vs : List (Key × V)), RTk K P H Z ρ ts vs → RTk K P H' Z' ρ' ts vs
  | [], _, h => by cases h; exact .nil
  | (q, t) :: ts, _, h => by
    cases h with
    | cons h1 h2 => exact .cons (RT.keep k t _ h1) (RTk.keep k ts _ h2)
theorem RTt.keep (k : Kp H ρ Z H' ρ' Z') : ∀ (ts : List (List Key × T)) (vs : List (List Key × V)), RTt K P H Z ρ ts vs → RTt K P H' Z' ρ' ts vs
  | [], _, h => by cases h; exact .nil
  | (q, t) :: ts, _, h => by
    cases h with
    | cons h1 h2 => exact .cons (RT.keep k t _ h1) (RTt.keep k ts _ h2)
end
/-- an object that stands as it stood -/
theorem RO.keep (k : Kp H ρ Z H' ρ' Z') {o : O} {a : Addr} (h : RO K P H Z ρ o a) (e : H' a = H a) : RO K P H' Z' ρ' o a := by
  cases h with
  | lst h1 h2 => exact .lst (e.trans h1) (RTs.keep k _ _ h2)
  | dk h1 h2 => exact .dk (e.trans h1) (RTk.keep k _ _ h2)
  | dt h1 h2 => exact .dt (e.trans h1) (RTt.keep k _ _ h2)
theorem RO.ne {o : O} {a : Addr} (h : RO K P H Z ρ o a) : H a ≠ none := by
  cases h with
  | lst h1 h2 => rw [h1]; exact fun q => nomatch q
  | dk h1 h2 => rw [h1]; exact fun q => nomatch q
  | dt h1 h2 => rw [h1]; exact fun q => nomatch q
theorem RO.nimm {o : O} {a : Addr} (h : RO K P H Z ρ o a) {u : HO} (e : H a = some u) : ¬ Imm u := by
  cases h with
  | lst h1 h2 => rw [h1] at e; cases e; exact id
  | dk h1 h2 => rw [h1] at e; cases e; exact id
  | dt h1 h2 => rw [h1] at e; cases e; exact id
theorem RO.frz {o : O} {a : Addr} (h : RO K P H Z ρ o a) (z : Z a) : RT K P H Z ρ o.frz (.ref a) := by
  cases h with
  | lst h1 h2 => exact .lst h1 z h2
  | dk h1 h2 => exact .dk h1 z h2
  | dt h1 h2 => exact .dt h1 z h2
theorem RTs.length : ∀ {ts : List T} {vs : List V}, RTs K P H Z ρ ts vs → ts.length = vs.length
  | _, _, .nil => rfl
  | _, _, .cons _ t => congrArg (· + 1) (RTs.length t)
theorem RTs.get : ∀ {ts : List T} {vs : List V} {i : Nat} {t : T}, RTs K P H Z ρ ts vs → ts[i]? = some t → ∃ v, vs[i]? = some v ∧ RT K P H Z ρ t v
  | _, _, _, _, .nil, e => by simp at e
  | _, _, 0, _, .cons r _, e => by simp at e; subst e; exact ⟨_, rfl, r⟩
  | _, _, i + 1, x, .cons _ t, e => by
    obtain ⟨u, h1, h2⟩ := RTs.get (i := i) (t := x) t (by simpa using e)
    exact ⟨u, by simpa using h1, h2⟩
theorem RTs.getV {ts : List T} {vs : List V} {i : Nat} {v : V} (h : RTs K P H Z ρ ts vs) (e : vs[i]? = some v) : ∃ t, ts[i]? = some t ∧ RT K P H Z ρ t v := by
  have hl := h.length
  have hi := (List.getElem?_eq_some_iff.mp e).1
  obtain ⟨u, h1, h2⟩ := h.get (List.getElem?_eq_getElem (show i < ts.length by omega))
  rw [e] at h1; cases h1
  exact ⟨_, List.getElem?_eq_getElem _, h2⟩
theorem RTs.append : ∀ {ts us : List T} {vs ws : List V}, RTs K P H Z ρ ts vs → RTs K P H Z ρ us ws → RTs K P H Z ρ (ts ++ us) (vs ++ ws)
  | _, _, _, _, .nil, s => s
  | _, _, _, _, .cons r t, s => .cons r (RTs.append t s)
theorem RTs.take : ∀ {ts : List T} {vs : List V} (n : Nat), RTs K P H Z ρ ts vs → RTs K P H Z ρ (ts.take n) (vs.take n)
  | _, _, 0, _ => .nil
  | _, _, _ + 1, .nil => .nil
  | _, _, n + 1, .cons r t => .cons r (RTs.take n t)
theorem RTs.drop : ∀ {ts : List T} {vs : List V} (n : Nat), RTs K P H Z ρ ts vs → RTs K P H Z ρ (ts.drop n) (vs.drop n)
  | _, _, 0, r => r
  | _, _, _ + 1, .nil => .nil
  | _, _, n + 1, .cons _ t => RTs.drop n t
theorem RTs.set {t : T} {v : V} (r : RT K P H Z ρ t v) : ∀ {ts : List T} {vs : List V} (i : Nat), RTs K P H Z ρ ts vs → RTs K P H Z ρ (ts.set i t) (vs.set i v)
  | _, _, _, .nil => .nil
  | _, _, 0, .cons _ t => .cons r t
  | _, _, i + 1, .cons q t => .cons q (RTs.set r i t)
theorem RTs.rep {ts : List T} {vs : List V} (r : RTs K P H Z ρ ts vs) : ∀ k : Nat, RTs K P H Z ρ (List.replicate k ts).flatten (List.replicate k vs).flatten
  | 0 => .nil
  | k + 1 => by
    rw [List.replicate_succ, List.replicate_succ, List.flatten_cons, List.flatten_cons]
    exact r.append (RTs.rep r k)
theorem RTs.dropLast {ts : List T} {vs : List V} (r : RTs K P H Z ρ ts vs) : RTs K P H Z ρ ts.dropLast vs.dropLast := by
  rw [List.dropLast_eq_take, List.dropLast_eq_take, r.length]
  exact r.take _
theorem RTs.ints {ns : List Int} : ∀ {ts : List T} {vs : List V}, RTs K P H Z ρ ts vs → ints? ts = some ns → vs = ns.map V.int := by
  intro ts
  induction ts generalizing ns with
  | nil => intro vs r e; cases r; cases e; rfl
  | cons t ts ih =>
    intro vs r e
    cases r with
    | cons r1 r2 =>
      cases r1 with
      | int i =>
        obtain ⟨ms, e1, e2⟩ := Option.map_eq_some_iff.mp (show (ints? ts).map (i :: ·) = some ns from e)
        subst e2
        rw [ih r2 e1] <;> rfl
      | _ => cases e
theorem RTs.bls {bs : List Bool} : ∀ {ts : List T} {vs : List V}, RTs K P H Z ρ ts vs → bls? ts = some bs → vs = bs.map V.bl := by
  intro ts
  induction ts generalizing bs with
  | nil => intro vs r e; cases r; cases e; rfl
  | cons t ts ih =>
    intro vs r e
    cases r with
    | cons r1 r2 =>
      cases r1 with
      | bl i =>
        obtain ⟨ms, e1, e2⟩ := Option.map_eq_some_iff.mp (show (bls? ts).map (i :: ·) = some bs from e)
        subst e2
        rw [ih r2 e1] <;> rfl
      | _ => cases e
theorem RTs.of_ints : ∀ ns : List Int, RTs K P H Z ρ (ns.map T.int) (ns.map V.int)
  | [] => .nil
  | i :: ns => .cons (.int i) (RTs.of_ints ns)
end

/-- the store stands in the heap -/
structure RelS (K : PySem.W.Frag) (P : Pm) (st : Sto) (H : Hp) (ρ : List Addr) (Z : Addr → Prop) : Prop where
  len : ρ.length = st.length
  nd : ρ.Nodup
  at_ : ∀ (n : Nat) (o : O), st[n]? = some o → ∃ a, ρ[n]? = some a ∧ RO K P H Z ρ o a
  nz : ∀ a ∈ ρ, ¬ Z a
  zh : ∀ a, Z a → H a ≠ none
/-- an expression's step: all is kept but the store's objects -/
structure Nx (H : Hp) (ρ : List Addr) (Z : Addr → Prop) (H' : Hp) (ρ' : List Addr) (Z' : Addr → Prop) : Prop where
  ext : ∀ a u, H a = some u → a ∉ ρ → H' a = some u
  there : ∀ a, H' a = none → H a = none
  imm : ∀ a u, H a = some u → (Z a ∨ Imm u) → H' a = some u
  zin : ∀ a, Z a → Z' a
  znew : ∀ a, Z' a → Z a ∨ H a = none
  rho : ∃ ex, ρ' = ρ ++ ex ∧ ∀ a ∈ ex, H a = none
section
variable {K : PySem.W.Frag} {P : Pm} {H H1 H2 H' : Hp} {Z Z1 Z2 Z' : Addr → Prop} {ρ ρ1 ρ2 ρ' : List Addr} {st : Sto}
theorem Nx.kp (n : Nx H ρ Z H' ρ' Z') : Kp H ρ Z H' ρ' Z' := ⟨n.imm, n.zin, let ⟨ex, e, _⟩ := n.rho; ⟨ex, e⟩⟩
theorem Nx.refl : Nx H ρ Z H ρ Z := ⟨fun _ _ h _ => h, fun _ h => h, fun _ _ h _ => h, fun _ h => h, fun _ h => .inl h, [], by simp, by simp⟩
theorem Nx.trans (a : Nx H ρ Z H1 ρ1 Z1) (b : Nx H1 ρ1 Z1 H2 ρ2 Z2) : Nx H ρ Z H2 ρ2 Z2 := by
  obtain ⟨e1, h1, f1⟩ := a.rho
  obtain ⟨e2, h2, f2⟩ := b.rho
  refine ⟨fun x u h q => b.ext x u (a.ext x u h q) ?_, fun x h => a.there x (b.there x h), fun x u h q => b.imm x u (a.imm x u h q) (q.imp (a.zin x) id), fun x h => b.zin x (a.zin x h), fun x h => ?_, e1 ++ e2, by rw [h2, h1, List.append_assoc], fun x hx => ?_⟩
  · rw [h1, List.mem_append]
    rintro (z | z)
    · exact q z
    · rw [f1 x z] at h; cases h
  · rcases b.znew x h with z | z
    · exact a.znew x z
    · exact .inr (a.there x z)
  · rcases List.mem_append.mp hx with z | z
    · exact f1 x z
    · exact a.there x (f2 x z)
/-- a new object that nobody knows -/
theorem Nx.new {p : Addr} {o : HO} (h : H p = none) : Nx H ρ Z (upd H p o) ρ Z := by
  refine ⟨fun a u e _ => ?_, fun a e => ?_, fun a u e _ => ?_, fun _ h => h, fun _ h => .inl h, [], by simp, by simp⟩
  · rw [upd_ne (ne_of_none e h)]; exact e
  · by_cases q : a = p
    · subst q; exact h
    · rw [upd_ne q] at e; exact e
  · rw [upd_ne (ne_of_none e h)]; exact e
/-- an unknown object is frozen -/
theorem Nx.fz {p : Addr} (h : H p = none) (n : Nx H ρ Z H1 ρ1 Z1) : Nx H ρ Z H1 ρ1 (fun a => Z1 a ∨ a = p) := by
  refine ⟨n.ext, n.there, n.imm, fun a z => .inl (n.zin a z), fun a z => ?_, n.rho⟩
  rcases z with z | rfl
  · exact n.znew a z
  · exact .inr h
theorem RelS.keep (s : RelS K P st H ρ Z) (k : Kp H ρ Z H' ρ Z') (e : ∀ a ∈ ρ, H' a = H a) (nz : ∀ a ∈ ρ, ¬ Z' a) (zh : ∀ a, Z' a → H' a ≠ none) : RelS K P st H' ρ Z' := by
  refine ⟨s.len, s.nd, fun n o h => ?_, nz, zh⟩
  obtain ⟨a, h1, h2⟩ := s.at_ n o h
  exact ⟨a, h1, h2.keep k (e a (List.mem_of_getElem? h1))⟩
theorem RelS.obj (s : RelS K P st H ρ Z) {a : Addr} (h : a ∈ ρ) : ∃ o, RO K P H Z ρ o a := by
  obtain ⟨n, hn, e⟩ := List.mem_iff_getElem.mp h
  have h1 : ρ[n]? = some a := by rw [List.getElem?_eq_getElem hn, e]
  obtain ⟨b, h2, h3⟩ := s.at_ n _ (List.getElem?_eq_getElem (show n < st.length by have := s.len; omega))
  rw [h1] at h2; cases h2
  exact ⟨_, h3⟩
theorem RelS.ne (s : RelS K P st H ρ Z) {a p : Addr} (h : a ∈ ρ) (hp : H p = none) : a ≠ p := by
  rintro rfl
  obtain ⟨o, r⟩ := s.obj h
  exact r.ne hp
/-- a new object that nobody knows -/
theorem RelS.new (s : RelS K P st H ρ Z) {p : Addr} {o : HO} (h : H p = none) : RelS K P st (upd H p o) ρ Z :=
  s.keep (Nx.new (o := o) h).kp (fun a ha => upd_ne (s.ne ha h)) s.nz fun a z q => s.zh a z ((Nx.new (o := o) (ρ := ρ) (Z := Z) h).there a q)
theorem RelS.fz (s : RelS K P st H ρ Z) {p : Addr} (h : p ∉ ρ) (hp : H p ≠ none) : RelS K P st H ρ (fun a => Z a ∨ a = p) :=
  s.keep ⟨fun _ _ h _ => h, fun _ h => .inl h, [], by simp⟩ (fun _ _ => rfl) (fun a ha z => z.elim (s.nz a ha) fun e => h (e ▸ ha)) fun a z => z.elim (s.zh a) fun e => e ▸ hp
end

/-- an operand: as RT, but the object at the top may be owned -/
def RQ (K : PySem.W.Frag) (P : Pm) (H : Hp) (Z : Addr → Prop) (ρ : List Addr) (t : T) (v : V) : Prop :=
  RT K P H Z ρ t v ∨ ∃ o a, t = o.frz ∧ v = .ref a ∧ RO K P H Z ρ o a ∧ a ∉ ρ
/-- a result, behind H: an owned one is new -/
def RW (K : PySem.W.Frag) (P : Pm) (H : Hp) (w : Ow) (v : V) (H' : Hp) (Z' : Addr → Prop) (ρ' : List Addr) : Prop := match w with
  | .val t => RT K P H' Z' ρ' t v
  | .own o => ∃ a, v = .ref a ∧ RO K P H' Z' ρ' o a ∧ H a = none ∧ ¬ Z' a ∧ a ∉ ρ'
section
variable {K : PySem.W.Frag} {P : Pm} {H H1 H2 H' : Hp} {Z Z1 Z2 Z' : Addr → Prop} {ρ ρ1 ρ2 ρ' : List Addr} {st : Sto}
theorem RQ.keep {t : T} {v : V} (h : RQ K P H Z ρ t v) (n : Nx H ρ Z H' ρ' Z') : RQ K P H' Z' ρ' t v := by
  rcases h with h | ⟨o, a, e1, e2, h, hn⟩
  · exact .inl (h.keep n.kp)
  · refine .inr ⟨o, a, e1, e2, h.keep n.kp ?_, ?_⟩
    · cases e : H a with
      | none => exact absurd e h.ne
      | some u => exact n.ext a u e hn
    · obtain ⟨ex, e, f⟩ := n.rho
      rw [e, List.mem_append]
      rintro (z | z)
      · exact hn z
      · exact h.ne (f a z)
/-- a result as an operand -/
theorem RW.rq {w : Ow} {v : V} (h : RW K P H w v H' Z' ρ') : RQ K P H' Z' ρ' w.frz v := by
  cases w with
  | val t => exact .inl h
  | own o =>
    obtain ⟨a, rfl, r, _, _, hn⟩ := h
    exact .inr ⟨o, a, rfl, rfl, r, hn⟩
end

/-- a frame: the slots, the store; H0 ..: at the def's entry -/
structure Rel (K : PySem.W.Frag) (P : Pm) (H0 : Hp) (ρ0 : List Addr) (Z0 : Addr → Prop) (env : Env) (st : Sto) (σ : L2.St) (H : Hp) (ρ : List Addr) (Z : Addr → Prop) : Prop where
  len : env.length = σ.length
  val : ∀ (i : Nat) (t : T), env[i]? = some (Slot.val t) → ∃ v, σ[i]? = some (some v) ∧ RT K P H Z ρ t v
  own : ∀ (i : Nat) (o : O), env[i]? = some (Slot.own o) → ∃ a, σ[i]? = some (some (.ref a)) ∧ RO K P H Z ρ o a ∧ ¬ Z a ∧ a ∉ ρ ∧ H0 a = none
  dis : ∀ (i j : Nat) (o o' : O), env[i]? = some (Slot.own o) → env[j]? = some (Slot.own o') → i ≠ j → σ[i]? ≠ σ[j]?
  sto : RelS K P st H ρ Z
  nx : Nx H0 ρ0 Z0 H ρ Z
section
variable {K : PySem.W.Frag} {P : Pm} {H0 H H1 H2 H' : Hp} {Z0 Z Z1 Z2 Z' : Addr → Prop} {ρ0 ρ ρ1 ρ2 ρ' : List Addr} {st st' : Sto} {env : Env} {σ : L2.St}
/-- behind an expression -/
theorem Rel.step (r : Rel K P H0 ρ0 Z0 env st σ H ρ Z) (n : Nx H ρ Z H' ρ' Z') (s : RelS K P st' H' ρ' Z') : Rel K P H0 ρ0 Z0 env st' σ H' ρ' Z' := by
  refine ⟨r.len, fun i t h => ?_, fun i o h => ?_, r.dis, s, r.nx.trans n⟩
  · obtain ⟨v, h1, h2⟩ := r.val i t h
    exact ⟨v, h1, h2.keep n.kp⟩
  · obtain ⟨a, h1, h2, h3, h4, h5⟩ := r.own i o h
    have e : H' a = H a := by
      cases e : H a with
      | none => exact absurd e h2.ne
      | some u => exact n.ext a u e h4
    refine ⟨a, h1, h2.keep n.kp e, fun z => ?_, ?_, h5⟩
    · rcases n.znew a z with z | z
      · exact h3 z
      · exact h2.ne z
    · obtain ⟨ex, e, f⟩ := n.rho
      rw [e, List.mem_append]
      rintro (z | z)
      · exact h4 z
      · exact h2.ne (f a z)
/-- a look at a slot -/
theorem Rel.peek (r : Rel K P H0 ρ0 Z0 env st σ H ρ Z) {i : Nat} {t : T} (h : slotP env[i]? = some t) : ∃ v, σ[i]? = some (some v) ∧ RQ K P H Z ρ t v := by
  cases e : env[i]? with
  | none => rw [e] at h; cases h
  | some x =>
    rw [e] at h
    cases x with
    | no => cases h
    | val t' => cases h; obtain ⟨v, h1, h2⟩ := r.val i t e; exact ⟨v, h1, .inl h2⟩
    | own o => cases h; obtain ⟨a, h1, h2, _, h4, _⟩ := r.own i o e; exact ⟨_, h1, .inr ⟨o, a, rfl, rfl, h2, h4⟩⟩
end

/-! ### what an outcome promises -/
/-- how an outcome of the evaluator shows itself: behind the heap H -/
structure Kd (α β : Type) where
  rel : Hp → α → β → Hp → (Addr → Prop) → List Addr → Prop
  mono : ∀ {H H1 : Hp} {a : α} {b : β} {H' : Hp} {Z' : Addr → Prop} {ρ' : List Addr}, (∀ p, H1 p = none → H p = none) → rel H1 a b H' Z' ρ' → rel H a b H' Z' ρ'
def kOw (K : PySem.W.Frag) (P : Pm) : Kd Ow V := ⟨RW K P, fun {H H1 a b H' Z' ρ'} m h => by
  cases a with
  | val t => exact h
  | own o =>
    obtain ⟨p, e, r, f, g⟩ := h
    exact ⟨p, e, r, m p f, g⟩⟩
def kQ (K : PySem.W.Frag) (P : Pm) : Kd T V := ⟨fun _ t v H' Z' ρ' => RQ K P H' Z' ρ' t v, fun _ h => h⟩
def kT (K : PySem.W.Frag) (P : Pm) : Kd T V := ⟨fun _ t v H' Z' ρ' => RT K P H' Z' ρ' t v, fun _ h => h⟩
def kTs (K : PySem.W.Frag) (P : Pm) : Kd (List T) (List V) := ⟨fun _ t v H' Z' ρ' => RTs K P H' Z' ρ' t v, fun _ h => h⟩
def kEq (α : Type) : Kd α α := ⟨fun _ a b _ _ _ => a = b, fun _ h => h⟩

/-- how an exception of the evaluator's lies in the heap -/
abbrev XR := Xn → Value → Option Addr → Hp → (Addr → Prop) → List Addr → Prop
section
variable {α β γ δ : Type} (K : PySem.W.Frag) (P : Pm) (XX : XR)
def Wp (k : Kd α β) (r : R α) (H : Hp) (ρ : List Addr) (Z : Addr → Prop) (Q : β → Hp → Prop) (E : XK) : Prop := match r with
  | .ok a s => ∀ b H' ρ' Z', k.rel H a b H' Z' ρ' → RelS K P s H' ρ' Z' → Nx H ρ Z H' ρ' Z' → Q b H'
  | .exn x s => ∀ cls d H' ρ' Z', XX x cls d H' Z' ρ' → RelS K P s H' ρ' Z' → Nx H ρ Z H' ρ' Z' → E cls d H'
  | .bad => False
end
section
variable {α β γ δ : Type} {K : PySem.W.Frag} {P : Pm} {XX : XR} {H H1 : Hp} {ρ ρ1 : List Addr} {Z Z1 : Addr → Prop} {E : XK}
theorem Wp.from_ {k : Kd α β} {r : R α} {Q : β → Hp → Prop} (h : Wp K P XX k r H ρ Z Q E) (n : Nx H ρ Z H1 ρ1 Z1) : Wp K P XX k r H1 ρ1 Z1 Q E := by
  cases r with
  | ok a s => exact fun b H' ρ' Z' h1 h2 h3 => h b H' ρ' Z' (k.mono n.there h1) h2 (n.trans h3)
  | exn x s => exact fun c d H' ρ' Z' h1 h2 h3 => h c d H' ρ' Z' h1 h2 (n.trans h3)
  | bad => exact h
theorem Wp.bind {k : Kd α β} {k2 : Kd γ δ} {r : R α} {f : α → Sto → R γ} {Q : δ → Hp → Prop} {Q' : β → Hp → Prop} (h : Wp K P XX k2 (r.bind f) H ρ Z Q E)
    (q : ∀ a s b H' ρ' Z', k.rel H a b H' Z' ρ' → RelS K P s H' ρ' Z' → Nx H ρ Z H' ρ' Z' → Wp K P XX k2 (f a s) H' ρ' Z' Q E → Q' b H') : Wp K P XX k r H ρ Z Q' E := by
  cases r with
  | ok a s => exact fun b H' ρ' Z' h1 h2 h3 => q a s b H' ρ' Z' h1 h2 h3 (Wp.from_ (show Wp K P XX k2 (f a s) H ρ Z Q E from h) h3)
  | exn x s => exact h
  | bad => exact h
theorem Wp.imp {k : Kd α β} {r : R α} {Q Q' : β → Hp → Prop} (h : Wp K P XX k r H ρ Z Q E) (q : ∀ b H', Q b H' → Q' b H') : Wp K P XX k r H ρ Z Q' E := by
  cases r with
  | ok a s => exact fun b H' ρ' Z' h1 h2 h3 => q _ _ (h b H' ρ' Z' h1 h2 h3)
  | exn x s => exact h
  | bad => exact h
theorem Wp.get {k : Kd α β} {o : Option α} {s : Sto} {Q : β → Hp → Prop} (h : Wp K P XX k (R.of o s) H ρ Z Q E) : ∃ a, o = some a ∧ Wp K P XX k (.ok a s) H ρ Z Q E := by
  cases o with
  | none => exact h.elim
  | some a => exact ⟨a, rfl, h⟩
/-- at once -/
theorem Wp.now {k : Kd α β} {a : α} {s : Sto} {Q : β → Hp → Prop} {b : β} (h : Wp K P XX k (.ok a s) H ρ Z Q E) (r : k.rel H a b H Z ρ) (S : RelS K P s H ρ Z) : Q b H := h b H ρ Z r S Nx.refl
/-- a new object at p -/
theorem Wp.newO {o : O} {s : Sto} {Q : VK} {u : HO} (h : Wp K P XX (kOw K P) (.ok (.own o) s) H ρ Z Q E) (S : RelS K P s H ρ Z) {p : Addr} (hp : H p = none) (r : RO K P (upd H p u) Z ρ o p) : Q (.ref p) (upd H p u) :=
  h (.ref p) (upd H p u) ρ Z ⟨p, rfl, r, hp, fun z => S.zh p z hp, fun z => S.ne z hp rfl⟩ (S.new hp) (Nx.new hp)
end
end TW

set_option Elab.async false
set_option linter.all false
set_option maxRecDepth 100000
set_option maxHeartbeats 4000000
/-! CoreM: tuple * 1, tuple * 0. -/
namespace TW
open PySem PySem.Spec PyProof.Rows L2
theorem tuple_mulW1 (l : Addr) (items : Array Value) (n : Nat) (dd : Option Addr) (sl : Array (Option Value)) (u : Tok) (c1 : (items.isEmpty || (1 : Int) == 1) = true) :
    Meets (Builtin.«tuple.__mul__» ⟨[.ref l, .int 1 u], []⟩) (fun _ R s => s.heap.get? l = some { cls := .type "tuple", dict := dd, data := .seq items n, slots := sl } ∧ R (.ok (.ret (Value.ref l))) s) :=
  .of_wp fun prog w A R s h => by
    obtain ⟨hp, g, d, tk, os⟩ := s
    obtain ⟨hl, h⟩ := h
    have f1 := AutoSeq1.idx_int
    wp_walk using wpAny_loadPart' hl
    repeat (first
      | (refine wpAny_ite_false (decide_eq_false (by decide)) ?_; wp_walk using wpAny_loadPart' hl)
      | (refine wpAny_ite_true (by first | exact decide_eq_true c1 | exact c1) ?_; wp_walk using wpAny_loadPart' hl))
    exact ⟨_, rfl, h⟩
theorem tuple_mulW0 (l : Addr) (items : Array Value) (n : Nat) (dd : Option Addr) (sl : Array (Option Value)) (u : Tok) (c1 : (items.isEmpty || (0 : Int) == 1) = false) :
    Meets (Builtin.«tuple.__mul__» ⟨[.ref l, .int 0 u], []⟩) (fun _ R s => s.heap.get? l = some { cls := .type "tuple", dict := dd, data := .seq items n, slots := sl } ∧
      R (.ok (.ret (Value.ref s.heap.objs.size))) { s with heap := s.heap.push { cls := Value.type "tuple", data := Data.seq #[] }, toks := s.toks }) :=
  .of_wp fun prog w A R s h => by
    obtain ⟨hp, g, d, tk, os⟩ := s
    obtain ⟨hl, h⟩ := h
    have f1 := AutoSeq1.idx_int
    wp_walk using wpAny_loadPart' hl
    repeat (first
      | (refine wpAny_ite_false (decide_eq_false (by decide)) ?_; wp_walk using wpAny_loadPart' hl)
      | (refine wpAny_ite_false (decide_eq_false (by rw [c1]; exact Bool.false_ne_true)) ?_; wp_walk using wpAny_loadPart' hl)
      | (refine wpAny_ite_true (by rfl) ?_; wp_walk using wpAny_loadPart' hl))
    exact ⟨_, rfl, h⟩
/-- tuple * 1: the same one; tuple * 0: an empty one -/
def rRepS (K : PySem.W.Frag) : R2 := fun x y H Q => ∃ l k xs, x = .ref l ∧ y = .int k ∧ SqT K H l xs ∧ ((k = 1 ∧ Q (.ref l) H) ∨ (k = 0 ∧ xs ≠ [] ∧ ∀ p, H p = none → Q (.ref p) (upd H p (.tup []))))
section
variable {X : Cx}
theorem op_repS : OpR X (binaryOp .Mult) (rRepS X.K) := by
  intro pins s σ H x y v u Q I rx ry h
  obtain ⟨l, k, xs, rfl, rfl, hT, hq⟩ := h
  cases rx
  obtain ⟨t, rfl⟩ := ry
  obtain ⟨its, r, ⟨⟨cls, dd, data, sl⟩, ho, hc, n, hd⟩, hs⟩ := I.tuple hT
  simp only at hc hd
  subst hc hd
  have hle : its.length = xs.length := r.length.symm
  refine wpAny_binaryOp_repeat_ref (T := "tuple") (U := "int") (by decide) ⟨_, ho, rfl⟩ (fun s' => typeIs_int s' k t) noFill_tuple_mul F.fills_int_mul F.slot_int_rmul repeat_tuple F.slot_int_index.lookup
    (call_meets F.slot_int_rmul (typeIs_int s k t) F.entry_int_rmul (F.args_int_rmul_2 _ _) (int_rmul_tuple k t l its.toArray n dd sl)
      ⟨ho, rfl, ⟨_, ho, rfl⟩, ?_⟩)
  rcases hq with ⟨rfl, q⟩ | ⟨rfl, hne, q⟩
  · refine call_meets F.slot_tuple_mul ⟨_, ho, rfl⟩ F.entry_tuple_mul (F.args_tuple_mul_2 _ _) (tuple_mulW1 l its.toArray n dd sl t (by simp)) ⟨ho, ?_⟩
    exact ⟨.ref l, H, I, rfl, q⟩
  · have hn : its ≠ [] := fun e => hne (by
      rw [e] at hle
      exact List.eq_nil_of_length_eq_zero hle.symm)
    have hi : its.toArray.isEmpty = false := by
      cases its with
      | nil => exact absurd rfl hn
      | cons a b => rfl
    refine call_meets F.slot_tuple_mul ⟨_, ho, rfl⟩ F.entry_tuple_mul (F.args_tuple_mul_2 _ _) (tuple_mulW0 l its.toArray n dd sl t (by rw [hi]; rfl)) ⟨ho, ?_⟩
    refine ⟨.ref s.heap.objs.size, _, I.laid (t' := s.toks) (o := .tup []) (fun b ob q => Heap.get?_push_of_some _ q) (Nat.le_refl _) ?_, rfl, q _ (I.hok.fresh (Nat.le_refl _))⟩
    exact ⟨Nat.zero_le _, [], .nil, IsTup.new _ _⟩
end
end TW

set_option Elab.async false
set_option linter.all false
set_option maxRecDepth 100000
set_option maxHeartbeats 4000000
/-! CoreR: a tuple, a list, back to front. -/
namespace TW
open PySem PySem.Spec PyProof.Rows L2
section
variable {prog : Program} {w : World} {A : Around} {E : Value → Shared → Prop} {s : Shared}
theorem back_pick (xs : Array Value) : ((List.range xs.size).filterMap fun (k : Nat) => xs[(((xs.size : Int) - 1) + (k : Int) * (-1)).toNat]?).toArray = xs.toList.reverse.toArray := by
  have := PySem.W.krv_pick xs
  unfold slicePick at this
  rw [PySem.W.krv_bounds] at this
  have h2 : ((sliceRange ((xs.size : Int) - 1) (-1) (-1)).filterMap (xs[·]?)).toArray = xs.toList.reverse.toArray := this
  rw [PySem.W.krv_sliceRange, List.filterMap_map] at h2
  rw [← h2]
  have key : ∀ l : List Nat, (∀ k ∈ l, k < xs.size) → (l.filterMap fun (k : Nat) => xs[(((xs.size : Int) - 1) + (k : Int) * (-1)).toNat]?) = l.filterMap ((fun x => xs[x]?) ∘ fun k => xs.size - 1 - k) := by
    intro l
    induction l with
    | nil => intro _; rfl
    | cons k l ih =>
      intro hl
      have hk := hl k List.mem_cons_self
      have e : (((xs.size : Int) - 1) + (k : Int) * (-1)).toNat = xs.size - 1 - k := by omega
      rw [List.filterMap_cons, List.filterMap_cons, ih fun z hz => hl z (List.mem_cons_of_mem _ hz), e]
      rfl
  rw [key _ fun k hk => List.mem_range.mp hk]
theorem getItem_tuple_rev {t sl : Addr} {items : Array Value} {vl vu vs : Value} {Q : Value → Shared → Prop} (ht : IsTup s.heap t items) (hs : s.heap.IsSliceOf sl vl vu vs) (pl : IsPart vl none) (pu : IsPart vu none) (ps : IsPart vs (some (-1)))
    (h : Q (.ref s.heap.objs.size) { s with heap := s.heap.push { cls := .type "tuple", data := .seq items.toList.reverse.toArray } })
    (hsz : items.size ≤ sizeLine) : wpAny (model prog w) A (getItem (.ref t) (.ref sl)) Q E s := by
  have htake : sizeOk (.seq items.toList.reverse.toArray) := by
    show items.toList.reverse.toArray.size ≤ sizeLine
    rw [List.size_toArray, List.length_reverse, Array.length_toList]
    exact hsz
  obtain ⟨os, hos, hcs, hds⟩ := id hs
  have hTs : s.TypeIs (.ref sl) "slice" := ⟨os, hos, hcs⟩
  unfold getItem
  try with_reducible refine wpAny_holding ?_
  first | refine wpAny_bind (wpAny_pure ?_) | skip
  refine wpAny_bind (wpAny_sequenceKey ht.typeIs (by decide) ?_)
  refine wpAny_bind (wpAny_callSpecial?_slot (name := Str.ofString "__getitem__") ht.typeIs PyProof.Rows.slot_tuple_getitem
    (wpAny_call_entry PyProof.Rows.slot_tuple_getitem ht.typeIs PyProof.Rows.entry_tuple_getitem ?_ (PyProof.Rows.args_tuple_getitem _ _)))
  show wpAny _ _ (Builtin.Tuple.tupleItemsOf (.ref t) >>= _) _ _ s
  refine wpAny_bind (PyProof.Rows.tupleItemsOf_ ht ?_)
  refine wpAny_bind (wpAny_typeOf hTs ?_)
  rw [if_pos (by decide)]
  have ap : ∀ {A' : Around} {Q : Int × Int × Nat → Shared → Prop}, Q ((items.size : Int) - 1, -1, items.size) s → wpAny (model prog w) A' (Builtin.Slice.sliceApplied (.ref sl) (pure (items.size : Int))) Q E s := by
    intro A' Q h
    unfold Builtin.Slice.sliceApplied Builtin.Slice.sliceFields
    refine wpAny_bind (wpAny_bind (wpAny_field hos hds (x := vl) rfl (wpAny_bind (wpAny_field hos hds (x := vu) rfl (wpAny_bind (wpAny_field hos hds (x := vs) rfl (wpAny_pure ?_)))))))
    refine wpAny_bind (HT.slicePart_ ps ?_)
    show wpAny _ _ (if ((-1 : Int) == 0) = true then _ else _) _ _ s
    rw [if_neg (by decide)]
    refine wpAny_bind (HT.slicePart_ pl (wpAny_bind (HT.slicePart_ pu (wpAny_bind (wpAny_pure ?_)))))
    show wpAny _ _ (match Builtin.Slice.sliceAdjust none none (-1) (items.size : Int) with | (lo, hi) => pure (lo, (-1 : Int), Builtin.Slice.slicePlaces lo hi (-1))) _ _ s
    have e1 : Builtin.Slice.sliceAdjust none none (-1) (items.size : Int) = ((items.size : Int) - 1, -1) := rfl
    have e2 : Builtin.Slice.slicePlaces ((items.size : Int) - 1) (-1) (-1) = items.size := by
      unfold Builtin.Slice.slicePlaces
      have h1 : ¬ ((-1 : Int) > 0) := by decide
      simp only [h1, if_false]
      by_cases h2 : (items.size : Int) - 1 > -1
      · rw [if_pos h2, show (-(-1 : Int)) = 1 by decide, Int.ediv_one]
        omega
      · rw [if_neg h2]
        omega
    rw [e1]
    show wpAny _ _ (pure (((items.size : Int) - 1), (-1 : Int), Builtin.Slice.slicePlaces ((items.size : Int) - 1) (-1) (-1))) _ _ s
    rw [e2]
    exact wpAny_pure h
  refine wpAny_bind (ap ?_)
  have hno : ¬ ((((items.size : Int) - 1) == 0 && (-1 : Int) == 1 && items.size == items.size) = true) := by
    rw [show ((-1 : Int) == 1) = false by decide, Bool.and_false, Bool.false_and]
    exact Bool.false_ne_true
  show wpAny _ _ (if (((items.size : Int) - 1) == 0 && (-1 : Int) == 1 && items.size == items.size) = true then _ else _) _ _ s
  rw [if_neg hno, back_pick]
  first
    | exact wpAny_bind (m := Builtin.Tuple.tupleExact _) (wpAny_newObj_type (wpAny_pure ⟨_, rfl, wpAny_pure h⟩) htake)
    | exact wpAny_bind (m := Builtin.Tuple.tupleExact _) (wpAny_newObj_type (wpAny_bind (wpAny_pure (wpAny_pure ⟨_, rfl, wpAny_pure h⟩))) htake)
    | exact wpAny_bind (wpAny_bind (m := Builtin.Tuple.tupleExact _) (wpAny_newObj_type (wpAny_pure (wpAny_pure ⟨_, rfl, wpAny_pure h⟩)) htake))
    | exact wpAny_bind (wpAny_bind (m := Builtin.Tuple.tupleExact _) (wpAny_newObj_type (wpAny_pure ⟨_, rfl, wpAny_pure h⟩) htake))
end
/-- x[::-1]: of a list, of a tuple -/
def tRev (K : PySem.W.Frag) (te : TE) : TE := fun σ H Q => te σ H fun x H1 => (∃ a xs, x = .ref a ∧ SqL K H1 a xs ∧ ∀ p, H1 p = none → Q (.ref p) (upd H1 p (.lst xs.reverse))) ∨ (∃ a xs, x = .ref a ∧ SqT K H1 a xs ∧ ∀ p, H1 p = none → Q (.ref p) (upd H1 p (.tup xs.reverse)))
section
variable {X : Cx}
theorem pe_rev {e : Expr} {te : TE} {k : Nat} {p1 p2 p3 pos : Pos} (he : PE X e te) : PE X (.Subscript e (.Slice none none (some (.UnaryOp .USub (.Constant (.int 1) k p1) p2)) p3) pos) (tRev X.K te) := by
  refine ⟨fun pins s σ H Q I h => ?_⟩
  refine Subscript_ (thn (he.run pins s σ H _ I h) fun v s1 ⟨x, H1, I1, r1, q1⟩ => ?_)
  have hst : PO X (some (.UnaryOp .USub (.Constant (.int 1) k p1) p2)) (tPart (tUn (rU fun i => .int (-i)) (tC (.int 1)))) := po_some (pe_un un_neg pe_int)
  refine wpAny_Slice (thn (po_none.run pins s1 σ H1 (fun o H2 => o = none ∧ H2 = H1) I1 ⟨rfl, rfl⟩) fun vl s2 ⟨l, H2, I2, pl, el, e2⟩ => ?_)
  subst el e2
  refine thn (po_none.run pins s2 σ H2 (fun o H3 => o = none ∧ H3 = H2) I2 ⟨rfl, rfl⟩) fun vu s3 ⟨u, H3, I3, pu, eu, e3⟩ => ?_
  subst eu e3
  refine thn (hst.run pins s3 σ H3 (fun o H4 => o = some (-1) ∧ H4 = H3) I3 ⟨1, rfl, -1, rfl, rfl, rfl⟩) fun vs s4 ⟨o, H4, I4, ps, eo, e4⟩ => ?_
  subst eo e4
  have I5 : Inv X pins σ H4 { s4 with heap := s4.heap.push { cls := .type "slice", data := .fields #[vl, vu, vs] } } := I4.kept (t' := s4.toks) fun b ob q => Heap.get?_push_of_some _ q
  rcases q1 with ⟨a, xs, ex, hx, q⟩ | ⟨a, xs, ex, hx, q⟩
  · subst ex
    cases r1
    obtain ⟨its, r, ht, hz⟩ := I5.list hx
    have hlen := r.length
    show wpAny (model X.prog X.w) X.A (subscriptTail e (.Slice none none (some (.UnaryOp .USub (.Constant (.int 1) k p1) p2)) p3) (.ref a) (.ref s4.heap.objs.size)) (EP X pins σ Q) X.xe { s4 with heap := s4.heap.push { cls := .type "slice", data := .fields #[vl, vu, vs] } }
    refine tail_any (ops := [.ref a, .ref s4.heap.objs.size]) ht.isList.typeIs (PySem.slot_list_getitem.lookup) ?_ (by with_unfolding_all rfl)
    refine wpAny_getItem_list_slice ht.isList (Heap.IsSliceOf.new _ vl vu vs) pl pu ps (by decide) ?_ (by rw [List.size_toArray]; omega)
    rw [PySem.W.krv_pick]
    refine ⟨.ref _, _, I5.laid (t' := s4.toks) (o := .lst xs.reverse) (fun b ob q => Heap.get?_push_of_some _ q) (Nat.le_refl _) ?_, rfl, q _ (I5.hok.fresh (Nat.le_refl _))⟩
    exact ⟨by rw [List.length_reverse]; exact hz, _, 0, r.reverse, Heap.get?_push_size _ rfl⟩
  · subst ex
    cases r1
    obtain ⟨its, r, ht, hz⟩ := I5.tuple hx
    have hlen := r.length
    show wpAny (model X.prog X.w) X.A (subscriptTail e (.Slice none none (some (.UnaryOp .USub (.Constant (.int 1) k p1) p2)) p3) (.ref a) (.ref s4.heap.objs.size)) (EP X pins σ Q) X.xe { s4 with heap := s4.heap.push { cls := .type "slice", data := .fields #[vl, vu, vs] } }
    refine tail_any (ops := [.ref a, .ref s4.heap.objs.size]) ht.typeIs (PyProof.Rows.slot_tuple_getitem.lookup) ?_ (by with_unfolding_all rfl)
    refine getItem_tuple_rev ht (Heap.IsSliceOf.new _ vl vu vs) pl pu ps ?_ (by rw [List.size_toArray]; omega)
    refine ⟨.ref _, _, I5.laid (t' := s4.toks) (o := .tup xs.reverse) (fun b ob q => Heap.get?_push_of_some _ q) (Nat.le_refl _) ?_, rfl, q _ (I5.hok.fresh (Nat.le_refl _))⟩
    exact ⟨by rw [List.length_reverse]; exact hz, _, r.reverse, IsTup.new _ _⟩
end
end TW

set_option Elab.async false
set_option linter.all false
set_option maxRecDepth 100000
set_option maxHeartbeats 2000000
/-! Core3: the operations, by the layer's rules. -/
namespace TW
open PySem L2

section
variable {K : PySem.W.Frag} {P : Pm} {H H' : Hp} {Z Z' : Addr → Prop} {ρ ρ' : List Addr} {st : Sto} {v u : V} {XX : XR} {E : XK}
theorem RQ.rt {t : T} (h : RQ K P H Z ρ t v) (n : ∀ o : O, t ≠ o.frz) : RT K P H Z ρ t v := by
  rcases h with h | ⟨o, _, e, _⟩
  · exact h
  · exact absurd e (n o)
theorem RQ.int {i : Int} (h : RQ K P H Z ρ (.int i) v) : v = .int i := by
  have h := h.rt (by rintro ⟨⟩ <;> exact fun q => nomatch q)
  cases h; rfl
theorem RQ.bl {i : Bool} (h : RQ K P H Z ρ (.bl i) v) : v = .bl i := by
  have h := h.rt (by rintro ⟨⟩ <;> exact fun q => nomatch q)
  cases h; rfl
theorem RQ.non (h : RQ K P H Z ρ .non v) : v = .non := by
  have h := h.rt (by rintro ⟨⟩ <;> exact fun q => nomatch q)
  cases h; rfl
theorem RQ.str {i : Str} (h : RQ K P H Z ρ (.str i) v) : v = .str i := by
  have h := h.rt (by rintro ⟨⟩ <;> exact fun q => nomatch q)
  cases h; rfl
theorem RQ.tup {ts : List T} (h : RQ K P H Z ρ (.tup ts) v) : ∃ a xs, v = .ref a ∧ SqT K H a xs ∧ RTs K P H Z ρ ts xs := by
  have h := h.rt (by rintro ⟨⟩ <;> exact fun q => nomatch q)
  cases h with
  | tup h1 h2 => exact ⟨_, _, rfl, SqT.of h1, h2⟩
  | tupK h1 h2 _ => exact ⟨_, _, rfl, .inr h1, h2⟩
theorem RQ.obj {t : T} {o : O} (S : RelS K P st H ρ Z) (h : RQ K P H Z ρ t v) (e : t.obj? st = some o) : ∃ a, v = .ref a ∧ RO K P H Z ρ o a := by
  rcases h with h | ⟨o', a, e1, e2, h, _⟩
  · cases h with
    | lst h1 z h2 => cases e; exact ⟨_, rfl, .lst h1 h2⟩
    | dk h1 z h2 => cases e; exact ⟨_, rfl, .dk h1 h2⟩
    | dt h1 z h2 => cases e; exact ⟨_, rfl, .dt h1 h2⟩
    | ref h1 =>
      obtain ⟨a, h2, h3⟩ := S.at_ _ _ e
      rw [h1] at h2; cases h2
      exact ⟨_, rfl, h3⟩
    | _ => cases e
  · subst e1
    cases o' <;> cases e <;> exact ⟨a, e2, h⟩
theorem RO.lst_inv {ts : List T} {a : Addr} (h : RO K P H Z ρ (.lst ts) a) : ∃ xs, H a = some (.lst xs) ∧ RTs K P H Z ρ ts xs := by
  cases h with
  | lst h1 h2 => exact ⟨_, h1, h2⟩
theorem RQ.lst {t : T} {ts : List T} (S : RelS K P st H ρ Z) (h : RQ K P H Z ρ t v) (e : t.lst? st = some ts) : ∃ a xs, v = .ref a ∧ H a = some (.lst xs) ∧ RTs K P H Z ρ ts xs := by
  unfold T.lst? at e
  cases eo : t.obj? st with
  | none => rw [eo] at e; cases e
  | some o =>
    rw [eo] at e
    cases o with
    | lst us =>
      cases e
      obtain ⟨a, rfl, r⟩ := h.obj S eo
      obtain ⟨xs, h1, h2⟩ := r.lst_inv
      exact ⟨a, xs, rfl, h1, h2⟩
    | _ => cases e
theorem RQ.seq {t : T} {ts : List T} (S : RelS K P st H ρ Z) (h : RQ K P H Z ρ t v) (e : t.seq? st = some ts) : ∃ a xs, v = .ref a ∧ (SqL K H a xs ∨ SqT K H a xs) ∧ RTs K P H Z ρ ts xs := by
  unfold T.seq? at e
  cases t with
  | tup us =>
    cases e
    obtain ⟨a, xs, rfl, h1, h2⟩ := h.tup
    exact ⟨a, xs, rfl, .inr h1, h2⟩
  | _ =>
    obtain ⟨a, xs, rfl, h1, h2⟩ := h.lst S e
    exact ⟨a, xs, rfl, .inl (SqL.of h1), h2⟩
theorem fits_le {n : Nat} (h : fits n = true) : n ≤ sizeLine := by
  have := of_decide_eq_true h
  exact this
theorem RTs.new {ts : List T} {xs : List V} {p : Addr} {o : HO} (h : RTs K P H Z ρ ts xs) (hp : H p = none) : RTs K P (upd H p o) Z ρ ts xs := h.keep (Nx.new hp).kp _ _
/-- a new list -/
theorem Wp.newL {ts : List T} {xs : List V} {s : Sto} {Q : VK} (h : Wp K P XX (kOw K P) (.ok (.own (.lst ts)) s) H ρ Z Q E) (S : RelS K P s H ρ Z) (r : RTs K P H Z ρ ts xs) {p : Addr} (hp : H p = none) : Q (.ref p) (upd H p (.lst xs)) :=
  h.newO S hp (.lst upd_same (r.new hp))
/-- a new tuple -/
theorem Wp.newT {ts : List T} {xs : List V} {s : Sto} {Q : VK} (h : Wp K P XX (kOw K P) (.ok (.val (.tup ts)) s) H ρ Z Q E) (S : RelS K P s H ρ Z) (r : RTs K P H Z ρ ts xs) {p : Addr} (hp : H p = none) : Q (.ref p) (upd H p (.tup xs)) :=
  h _ _ ρ Z (RT.tup upd_same (r.new hp)) (S.new hp) (Nx.new hp)
end

/-! ### two-place operators -/
def Bop.py : Bop → Operator
  | .add => .Add | .sub => .Sub | .mul => .Mult | .fdiv => .FloorDiv | .mod => .Mod | .shl => .LShift | .shr => .RShift | .band => .BitAnd | .bor => .BitOr | .bxor => .BitXor | .pow => .Pow
def Cop.py : Cop → CmpOp
  | .eq => .Eq | .ne => .NotEq | .lt => .Lt | .le => .LtE | .gt => .Gt | .ge => .GtE | .inn => .In | .nin => .NotIn | .isN => .Is | .notN => .IsNot
section
variable (K : PySem.W.Frag) (P : Pm) (XX : XR)
def rOp (f : Sto → T → T → Option Ow) : R2 := fun v u H Q => ∃ (st : Sto) (ρ : List Addr) (Z : Addr → Prop) (x y : T) (E : XK), RelS K P st H ρ Z ∧ RQ K P H Z ρ x v ∧ RQ K P H Z ρ y u ∧ Wp K P XX (kOw K P) (R.of (f st x y) st) H ρ Z Q E
end
section
variable {X : Cx} {P : Pm} {XX : XR}
theorem or_map {f : Option Int} {w : Ow} (h : (f.map fun i => Ow.val (.int i)) = some w) : ∃ i, f = some i ∧ w = .val (.int i) := by
  obtain ⟨i, h1, h2⟩ := Option.map_eq_some_iff.mp h
  exact ⟨i, h1, h2.symm⟩
theorem small64_ok {i : Int} (h : small64 i = true) : -(2 ^ 64) < i ∧ i < 2 ^ 64 := by
  obtain ⟨h1, h2⟩ := Bool.and_eq_true_iff.mp h
  have h1 := of_decide_eq_true h1
  have h2 := of_decide_eq_true h2
  omega
theorem op_addT : OpR X (binaryOp .Add) (rOp X.K P XX addT) := by
  intro pins s σ H v u vv uu Q I rv ru h
  obtain ⟨st, ρ, Z, x, y, E, S, hx, hy, h⟩ := h
  obtain ⟨w, e, h⟩ := h.get
  unfold addT at e
  split at e
  · cases e
    cases hx.int; cases hy.int
    exact op_add pins s σ H _ _ vv uu Q I rv ru ⟨_, _, rfl, rfl, h.now (.int _) S⟩
  · split at e
    · rename_i hz
      cases e
      cases hx.str; cases hy.str
      exact op_add_str pins s σ H _ _ vv uu Q I rv ru ⟨_, _, rfl, rfl, fits_le hz, h.now (.str _) S⟩
    · cases e
  · split at e
    · rename_i a b hz
      cases e
      obtain ⟨p, xs, rfl, h1, h2⟩ := hx.tup
      obtain ⟨q, ys, rfl, h3, h4⟩ := hy.tup
      have l1 := h2.length
      have l2 := h4.length
      refine op_catA pins s σ H _ _ vv uu Q I rv ru ⟨p, q, xs, ys, rfl, rfl, h1, h3, by have := fits_le hz; omega, fun e => ?_, fun ne e => ?_, fun n1 n2 r hr => ?_⟩
      · subst e
        cases h2
        exact h.now (hy.rt (by rintro ⟨⟩ <;> exact fun q => nomatch q)) S
      · subst e
        cases h4
        rw [List.append_nil] at h
        exact h.now (hx.rt (by rintro ⟨⟩ <;> exact fun q => nomatch q)) S
      · exact h.newT S (h2.append h4) hr
    · cases e
  · split at e
    · split at e
      · rename_i a b ea eb hz
        cases e
        obtain ⟨p, xs, rfl, h1, h2⟩ := hx.lst S ea
        obtain ⟨q, ys, rfl, h3, h4⟩ := hy.lst S eb
        have l1 := h2.length
        have l2 := h4.length
        exact op_cat pins s σ H _ _ vv uu Q I rv ru ⟨p, q, xs, ys, rfl, rfl, h1, h3, by have := fits_le hz; omega, fun r hr => h.newL S (h2.append h4) hr⟩
      · cases e
    · cases e
theorem op_mulT : OpR X (binaryOp .Mult) (rOp X.K P XX mulT) := by
  intro pins s σ H v u vv uu Q I rv ru h
  obtain ⟨st, ρ, Z, x, y, E, S, hx, hy, h⟩ := h
  obtain ⟨w, e, h⟩ := h.get
  unfold mulT at e
  split at e
  · split at e
    · rename_i hz
      cases e
      cases hx.int; cases hy.int
      refine op_mul pins s σ H _ _ vv uu Q I rv ru ⟨_, _, rfl, rfl, ?_, h.now (.int _) S⟩
      rcases (Bool.or_eq_true_iff).mp hz with hz | hz
      · exact .inl (small64_ok hz)
      · exact .inr (small64_ok hz)
    · cases e
  · split at e
    · rename_i a k hz
      cases e
      obtain ⟨p, xs, rfl, h1, h2⟩ := hx.tup
      cases hy.int
      simp only [Bool.and_eq_true, decide_eq_true_eq, Bool.not_eq_true', List.isEmpty_eq_false_iff] at hz
      have l1 := h2.length
      refine op_repT pins s σ H _ _ vv uu Q I rv ru ⟨p, k, xs, rfl, rfl, h1, fun q => hz.1.1.1 ?_, hz.1.1.2, hz.1.2, by omega, fun r hr => h.newT S (h2.rep _) hr⟩
      subst q
      cases h2; rfl
    · rename_i a k hz
      split at e
      · rename_i hz1
        cases e
        obtain ⟨p, xs, rfl, h1, h2⟩ := hx.tup
        cases hy.int
        have hz1 := of_decide_eq_true hz1
        exact op_repS pins s σ H _ _ vv uu Q I rv ru ⟨p, k, xs, rfl, rfl, h1, .inl ⟨hz1, h.now (hx.rt (by rintro ⟨⟩ <;> exact fun q => nomatch q)) S⟩⟩
      · split at e
        · rename_i hz2
          cases e
          obtain ⟨p, xs, rfl, h1, h2⟩ := hx.tup
          cases hy.int
          simp only [Bool.and_eq_true, decide_eq_true_eq, Bool.not_eq_true', List.isEmpty_eq_false_iff] at hz2
          refine op_repS pins s σ H _ _ vv uu Q I rv ru ⟨p, k, xs, rfl, rfl, h1, .inr ⟨hz2.2, fun q => hz2.1 ?_, fun r hr => h.newT S .nil hr⟩⟩
          subst q
          cases h2; rfl
        · cases e
  · split at e
    · split at e
      · rename_i a ea hz
        cases e
        obtain ⟨p, xs, rfl, h1, h2⟩ := hx.lst S ea
        cases hy.int
        simp only [Bool.and_eq_true, decide_eq_true_eq] at hz
        have l1 := h2.length
        refine op_rep pins s σ H _ _ vv uu Q I rv ru ⟨p, _, xs, rfl, rfl, h1, by omega, by omega, ?_, fun r hr => h.newL S (h2.rep _) hr⟩
        rw [← l1]
        exact fits_le hz.2
      · cases e
    · cases e
  · cases e
theorem pw64_ok {i : Int} (h : pw64 i = true) : i.natAbs < 2 ^ 64 := by
  have := of_decide_eq_true h
  omega
theorem op_binT (op : Bop) : OpR X (binaryOp op.py) (rOp X.K P XX fun st x y => opBin st op x y) := by
  cases op with
  | add => exact op_addT
  | mul => exact op_mulT
  | _ =>
    intro pins s σ H v u vv uu Q I rv ru h
    obtain ⟨st, ρ, Z, x, y, E, S, hx, hy, h⟩ := h
    obtain ⟨w, e, h⟩ := h.get
    simp only [opBin] at e
    split at e
    · obtain ⟨i, e, rfl⟩ := or_map e
      cases hx.int; cases hy.int
      have q : Q (.int i) H := h.now (RT.int i) S
      simp only [intOp] at e
      first
      | (cases e
         first
         | exact op_sub pins s σ H _ _ vv uu Q I rv ru ⟨_, _, rfl, rfl, q⟩
         | exact op_and pins s σ H _ _ vv uu Q I rv ru ⟨_, _, rfl, rfl, q⟩
         | exact op_or pins s σ H _ _ vv uu Q I rv ru ⟨_, _, rfl, rfl, q⟩
         | exact op_xor pins s σ H _ _ vv uu Q I rv ru ⟨_, _, rfl, rfl, q⟩)
      | (split at e
         · rename_i hz
           cases e
           simp only [Bool.and_eq_true, decide_eq_true_eq] at hz
           first
           | exact op_fdiv pins s σ H _ _ vv uu Q I rv ru ⟨_, _, rfl, rfl, hz, q⟩
           | exact op_mod pins s σ H _ _ vv uu Q I rv ru ⟨_, _, rfl, rfl, hz, q⟩
           | exact op_shr pins s σ H _ _ vv uu Q I rv ru ⟨_, _, rfl, rfl, hz, q⟩
           | exact op_shl pins s σ H _ _ vv uu Q I rv ru ⟨_, _, rfl, rfl, ⟨hz.1.1, hz.1.2, pw64_ok hz.2⟩, q⟩
           | exact op_pow pins s σ H _ _ vv uu Q I rv ru ⟨_, _, rfl, rfl, ⟨hz.1.1, hz.1.2, pw64_ok hz.2⟩, q⟩
         · cases e)
    · cases e

/-! ### comparisons -/
section
variable {K : PySem.W.Frag} {P : Pm} {H : Hp} {Z : Addr → Prop} {ρ : List Addr} {st : Sto}
mutual
theorem RT.dp : ∀ (t : T) (v : V), RT K P H Z ρ t v → t.toD.canLay0 = true → Dp K H v t.toD
  | .non, _, h, _ => by cases h; exact .non
  | .bl _, _, h, _ => by cases h; exact .bl _
  | .int _, _, h, _ => by cases h; exact .int _
  | .str _, _, h, _ => by cases h; exact .str _
  | .tup ts, _, h, c => by
    cases h with
    | tup h1 h2 => exact .tup (SqT.of h1) (RTs.dp ts _ h2 (by simpa [T.toD, PyData.canLay0] using c))
    | tupK h1 h2 _ => exact .tup (.inr h1) (RTs.dp ts _ h2 (by simpa [T.toD, PyData.canLay0] using c))
  | .lst ts, _, h, c => by
    cases h with
    | lst h1 z h2 => exact .lst (SqL.of h1) (RTs.dp ts _ h2 (by simpa [T.toD, PyData.canLay0] using c))
  | .dk _, _, _, c => by simp [T.toD, PyData.canLay0] at c
  | .dt _, _, _, c => by simp [T.toD, PyData.canLay0] at c
  | .ref _, _, _, c => by simp [T.toD, PyData.canLay0] at c
  | .scr _, _, _, c => by simp [T.toD, PyData.canLay0] at c
theorem RTs.dp : ∀ (ts : List T) (vs : List V), RTs K P H Z ρ ts vs → PyData.canLayAll0 (toDs ts) = true → DpAll K H vs (toDs ts)
  | [], _, h, _ => by cases h; exact .nil
  | t :: ts, _, h, c => by
    cases h with
    | cons h1 h2 =>
      have c2 : t.toD.canLay0 = true ∧ PyData.canLayAll0 (toDs ts) = true := by simpa [toDs, PyData.canLayAll0] using c
      exact .cons (RT.dp t _ h1 c2.1) (RTs.dp ts _ h2 c2.2)
end
theorem okD_lay {t : T} (h : okD t = true) : t.toD.canLay0 = true := SeqAt.canLay_of_shaped h
theorem RQ.dp {t : T} {v : V} (S : RelS K P st H ρ Z) (h : RQ K P H Z ρ t v) (e : okD (t.top st) = true) : Dp K H v (t.top st).toD := by
  have c := okD_lay e
  rcases h with h | ⟨o, a, rfl, rfl, h, _⟩
  · by_cases q : ∃ n, t = .ref n
    · obtain ⟨n, rfl⟩ := q
      cases eo : st[n]? with
      | none => simp [T.top, eo, T.toD, PyData.canLay0] at c
      | some o =>
        cases o with
        | lst ts =>
          have et : T.top st (.ref n) = .lst ts := by simp [T.top, eo]
          rw [et] at c ⊢
          cases h with
          | ref h1 =>
            obtain ⟨a, h2, h3⟩ := S.at_ _ _ eo
            rw [h1] at h2; cases h2
            obtain ⟨xs, h4, h5⟩ := h3.lst_inv
            exact .lst (SqL.of h4) (RTs.dp ts _ h5 (by simpa [T.toD, PyData.canLay0] using c))
        | _ => simp [T.top, eo, T.toD, PyData.canLay0] at c
    · have et : t.top st = t := by
        cases t <;> first | rfl | exact absurd ⟨_, rfl⟩ q
      rw [et] at c ⊢
      exact RT.dp t v h c
  · cases o with
    | lst ts =>
      have et : T.top st (O.frz (.lst ts)) = .lst ts := rfl
      rw [et] at c ⊢
      obtain ⟨xs, h4, h5⟩ := h.lst_inv
      exact .lst (SqL.of h4) (RTs.dp ts _ h5 (by simpa [T.toD, PyData.canLay0] using c))
    | dk _ => simp [T.top, O.frz, T.toD, PyData.canLay0] at c
    | dt _ => simp [T.top, O.frz, T.toD, PyData.canLay0] at c
theorem flat_rt {t : T} {v : V} (h : RT K P H Z ρ t v) (f : t.flat = true) : flatV v = true := by
  cases h <;> first | rfl | cases f
theorem eqV_eqT {t u : T} {v w : V} (h : RT K P H Z ρ t v) (f : t.flat = true) (h2 : RT K P H Z ρ u w) (f2 : u.flat = true) : eqV v w = eqT t u := by
  cases h <;> cases h2 <;> first | rfl | exact absurd f Bool.false_ne_true | exact absurd f2 Bool.false_ne_true | simp [eqV, eqT, T.toD, PyData.eqv]
theorem flat_all : ∀ {ts : List T} {vs : List V}, RTs K P H Z ρ ts vs → ts.all T.flat = true → vs.all flatV = true
  | _, _, .nil, _ => rfl
  | _, _, .cons h t, f => by
    rw [List.all_cons, Bool.and_eq_true] at f ⊢
    exact ⟨flat_rt h f.1, flat_all t f.2⟩
theorem inV_eq {x : T} {w : V} (hx : RT K P H Z ρ x w) (fx : x.flat = true) : ∀ {ts : List T} {vs : List V}, RTs K P H Z ρ ts vs → ts.all T.flat = true → inV w vs = ts.any fun t => eqT t x
  | _, _, .nil, _ => rfl
  | _, _, .cons h t, f => by
    rw [List.all_cons, Bool.and_eq_true] at f
    have := inV_eq hx fx t f.2
    unfold inV at this ⊢
    rw [List.any_cons, List.any_cons, this, eqV_eqT h f.1 hx fx]
theorem toDs_any (x : PyData) : ∀ ts : List T, (toDs ts).any (fun z => PyData.eqv z x) = ts.any fun t => PyData.eqv t.toD x
  | [] => rfl
  | t :: ts => by rw [toDs, List.any_cons, List.any_cons, toDs_any x ts]
theorem key_rt {t : T} {v : V} {k : Key} (h : RQ K P H Z ρ t v) (e : t.key? = some k) : v = kV k := by
  cases t with
  | int i => cases e; exact h.int
  | str s => cases e; exact h.str
  | _ => cases e
theorem keys_rt : ∀ {ts : List T} {vs : List V} {ks : List Key}, RTs K P H Z ρ ts vs → keys? ts = some ks → vs = ks.map kV
  | _, _, _, .nil, e => by cases e; rfl
  | t :: ts, _, ks, .cons h r, e => by
    unfold keys? at e
    split at e
    · rename_i k ks' e1 e2
      cases e
      rw [key_rt (.inl h) e1, keys_rt r e2] <;> rfl
    · cases e
theorem RTk.any {κ : Key} : ∀ {ts : List (Key × T)} {vs : List (Key × V)}, RTk K P H Z ρ ts vs → (vs.any fun p => decide (p.1 = κ)) = ts.any fun p => decide (p.1 = κ)
  | _, _, .nil => rfl
  | _, _, .cons _ r => by rw [List.any_cons, List.any_cons, RTk.any r]
theorem RTt.any {κ : List Key} : ∀ {ts : List (List Key × T)} {vs : List (List Key × V)}, RTt K P H Z ρ ts vs → (vs.any fun p => decide (p.1 = κ)) = ts.any fun p => decide (p.1 = κ)
  | _, _, .nil => rfl
  | _, _, .cons _ r => by rw [List.any_cons, List.any_cons, RTt.any r]
theorem RTk.get {κ : Key} {t : T} : ∀ {ts : List (Key × T)} {vs : List (Key × V)}, RTk K P H Z ρ ts vs → dGet κ ts = some t → ∃ v, valV vs κ = some v ∧ RT K P H Z ρ t v
  | _, _, .nil, e => by cases e
  | _, _, .cons (k := k) h r, e => by
    unfold dGet at e
    by_cases q : k = κ
    · rw [if_pos q] at e
      cases e
      exact ⟨_, valV_pos q, h⟩
    · rw [if_neg q] at e
      rw [valV_neg (p := (k, _)) q]
      exact RTk.get r e
theorem RTt.get {κ : List Key} {t : T} : ∀ {ts : List (List Key × T)} {vs : List (List Key × V)}, RTt K P H Z ρ ts vs → dGet κ ts = some t → ∃ v, valV vs κ = some v ∧ RT K P H Z ρ t v
  | _, _, .nil, e => by cases e
  | _, _, .cons (k := k) h r, e => by
    unfold dGet at e
    by_cases q : k = κ
    · rw [if_pos q] at e
      cases e
      exact ⟨_, valV_pos q, h⟩
    · rw [if_neg q] at e
      rw [valV_neg (p := (k, _)) q]
      exact RTt.get r e
theorem kt_rt {t : T} {v : V} {ks : List Key} (h : RQ K P H Z ρ t v) (e : t.kt? P = some ks) : ∃ b, v = .ref b ∧ H b = some (.tup (ks.map kV)) := by
  cases t with
  | tup ts =>
    obtain ⟨ks', e1, e2⟩ := Option.bind_eq_some_iff.mp (show (keys? ts).bind (fun ks => if P.kOk ks then some ks else none) = some ks from e)
    split at e2
    · rename_i hk
      cases e2
      have h := h.rt (by rintro ⟨⟩ <;> exact fun q => nomatch q)
      cases h with
      | tup h1 h2 => exact ⟨_, rfl, by rw [h1, keys_rt h2 e1]⟩
      | tupK h1 h2 h3 => rw [h3 ks e1] at hk; cases hk
    · cases e2
  | _ => cases e
theorem RO.dk_inv {ts : List (Key × T)} {a : Addr} (h : RO K P H Z ρ (.dk ts) a) : ∃ xs, H a = some (.dK xs) ∧ RTk K P H Z ρ ts xs := by
  cases h with
  | dk h1 h2 => exact ⟨_, h1, h2⟩
theorem RO.dt_inv {ts : List (List Key × T)} {a : Addr} (h : RO K P H Z ρ (.dt ts) a) : ∃ xs, H a = some (.dT xs) ∧ RTt K P H Z ρ ts xs := by
  cases h with
  | dt h1 h2 => exact ⟨_, h1, h2⟩
/-- what the dict holds at a key -/
theorem dget_of {x y : T} {v w : V} {o : O} {b : Bool} (S : RelS K P st H ρ Z) (hx : RQ K P H Z ρ x v) (hy : RQ K P H Z ρ y w) (eo : y.obj? st = some o)
    (e : (match o with
      | .dk kvs => x.key?.map fun k => kvs.any fun p => decide (p.1 = k)
      | .dt kvs => (x.kt? P).map fun k => kvs.any fun p => decide (p.1 = k)
      | .lst _ => none) = some b) : ∃ a r, w = .ref a ∧ DGet H a v r ∧ r.isSome = b := by
  obtain ⟨a, rfl, r⟩ := hy.obj S eo
  cases o with
  | lst _ => cases e
  | dk kvs =>
    obtain ⟨k, e1, e2⟩ := Option.map_eq_some_iff.mp e
    obtain ⟨xs, h1, h2⟩ := r.dk_inv
    cases key_rt hx e1
    exact ⟨a, _, rfl, DGet.k h1, by rw [← valV_any, h2.any, e2]⟩
  | dt kvs =>
    obtain ⟨k, e1, e2⟩ := Option.map_eq_some_iff.mp e
    obtain ⟨xs, h1, h2⟩ := r.dt_inv
    obtain ⟨b, rfl, hb⟩ := kt_rt hx e1
    exact ⟨a, _, rfl, DGet.t h1 hb, by rw [← valV_any, h2.any, e2]⟩
end
section
variable (K : PySem.W.Frag) (P : Pm) (XX : XR)
def rCm (f : Sto → T → T → Option Bool) : R2 := rOp K P XX fun st x y => (f st x y).map fun k => .val (.bl k)
end
theorem cm_get {f : Option Bool} {w : Ow} (h : (f.map fun k => Ow.val (.bl k)) = some w) : ∃ k, f = some k ∧ w = .val (.bl k) := by
  obtain ⟨i, h1, h2⟩ := Option.map_eq_some_iff.mp h
  exact ⟨i, h1, h2.symm⟩
theorem op_eqT (hu : X.A.units + 65 < cLine) : OpR X (compareOp .Eq) (rCm X.K P XX eqO) := by
  intro pins s σ H v u vv uu Q I rv ru h
  obtain ⟨st, ρ, Z, x, y, E, S, hx, hy, h⟩ := h
  obtain ⟨w, e0, h⟩ := h.get
  obtain ⟨k, e, ek⟩ := cm_get e0
  subst ek
  clear e0
  unfold eqO at e
  split at e
  · rename_i hz
    cases e
    obtain ⟨c1, c2⟩ := Bool.and_eq_true_iff.mp hz
    exact op_eqD (by omega) pins s σ H _ _ vv uu Q I rv ru ⟨_, _, hx.dp S c1, hy.dp S c2, c1, c2, h.now (RT.bl _) S⟩
  · cases e
theorem op_neT (hu : X.A.units + 65 < cLine) : OpR X (compareOp .NotEq) (rCm X.K P XX fun st x y => (eqO st x y).map (!·)) := by
  intro pins s σ H v u vv uu Q I rv ru h
  obtain ⟨st, ρ, Z, x, y, E, S, hx, hy, h⟩ := h
  obtain ⟨w, e0, h⟩ := h.get
  obtain ⟨k, e1, ek⟩ := cm_get e0
  subst ek
  obtain ⟨k, e, ek⟩ := Option.map_eq_some_iff.mp e1
  subst ek
  clear e0 e1
  unfold eqO at e
  split at e
  · rename_i hz
    cases e
    obtain ⟨c1, c2⟩ := Bool.and_eq_true_iff.mp hz
    exact op_neD (by omega) pins s σ H _ _ vv uu Q I rv ru ⟨_, _, hx.dp S c1, hy.dp S c2, c1, c2, h.now (RT.bl _) S⟩
  · cases e
theorem op_inT (hu : X.A.units + 65 < cLine) : OpR X (compareOp .In) (rCm X.K P XX (inT P)) := by
  intro pins s σ H v u vv uu Q I rv ru h
  obtain ⟨st, ρ, Z, x, y, E, S, hx, hy, h⟩ := h
  obtain ⟨w, e0, h⟩ := h.get
  obtain ⟨k, e, ek⟩ := cm_get e0
  subst ek
  clear e0
  have q : Q (.bl k) H := h.now (RT.bl _) S
  unfold inT at e
  split at e
  · split at e
    · cases e
      cases hx.str; cases hy.str
      exact op_in_str pins s σ H _ _ vv uu Q I rv ru ⟨_, _, rfl, rfl, q⟩
    · cases e
  · split at e
    · rename_i ts hz
      cases e
      obtain ⟨c1, c2⟩ := Bool.and_eq_true_iff.mp hz
      obtain ⟨a, xs, rfl, h1, h2⟩ := hy.tup
      have hx' := hx.rt (by rintro ⟨⟩ <;> (rintro rfl; cases c1))
      exact op_in_seq pins s σ H _ _ vv uu Q I rv ru ⟨a, xs, rfl, .inr h1, flat_rt hx' c1, flat_all h2 c2, by rw [← inV_eq hx' c1 h2 c2] at q; exact q⟩
    · cases e
  · rename_i ho hn
    split at e
    · rename_i kvs eo
      obtain ⟨a, r, rfl, g, er⟩ := dget_of S hx hy eo e
      cases ru
      exact d_in (by omega) I g rv fun s' I' => ⟨.bl k, H, I', by rw [er]; exact rfl, q⟩
    · rename_i kvs eo
      obtain ⟨a, r, rfl, g, er⟩ := dget_of S hx hy eo e
      cases ru
      exact d_in (by omega) I g rv fun s' I' => ⟨.bl k, H, I', by rw [er]; exact rfl, q⟩
    · rename_i ts eo
      split at e
      · rename_i hz
        cases e
        obtain ⟨c1, c2⟩ := Bool.and_eq_true_iff.mp hz
        obtain ⟨a, rfl, r⟩ := hy.obj S eo
        obtain ⟨xs, h1, h2⟩ := r.lst_inv
        refine op_inD (by omega) pins s σ H _ _ vv uu Q I rv ru ⟨_, toDs ts, hx.dp S c1, .lst (SqL.of h1) (RTs.dp ts _ h2 (by simpa [T.toD, PyData.canLay0] using okD_lay c2)), c1, c2, ?_⟩
        rw [toDs_any]
        exact q
      · cases e
    · cases e
theorem op_ninT (hu : X.A.units + 65 < cLine) : OpR X (compareOp .NotIn) (rCm X.K P XX fun st x y => (inT P st x y).map (!·)) := by
  intro pins s σ H v u vv uu Q I rv ru h
  obtain ⟨st, ρ, Z, x, y, E, S, hx, hy, h⟩ := h
  obtain ⟨w, e0, h⟩ := h.get
  obtain ⟨k, e1, ek⟩ := cm_get e0
  subst ek
  obtain ⟨k, e, ek⟩ := Option.map_eq_some_iff.mp e1
  subst ek
  clear e0 e1
  have q : Q (.bl (!k)) H := h.now (RT.bl _) S
  unfold inT at e
  split at e
  · split at e
    · cases e
      cases hx.str; cases hy.str
      exact op_notin_str pins s σ H _ _ vv uu Q I rv ru ⟨_, _, rfl, rfl, q⟩
    · cases e
  · split at e
    · rename_i ts hz
      cases e
      obtain ⟨c1, c2⟩ := Bool.and_eq_true_iff.mp hz
      obtain ⟨a, xs, rfl, h1, h2⟩ := hy.tup
      have hx' := hx.rt (by rintro ⟨⟩ <;> (rintro rfl; cases c1))
      exact op_notIn_seq pins s σ H _ _ vv uu Q I rv ru ⟨a, xs, rfl, .inr h1, flat_rt hx' c1, flat_all h2 c2, by rw [← inV_eq hx' c1 h2 c2] at q; exact q⟩
    · cases e
  · rename_i ho hn
    split at e
    · rename_i kvs eo
      obtain ⟨a, r, rfl, g, er⟩ := dget_of S hx hy eo e
      cases ru
      exact d_notIn (by omega) I g rv fun s' I' => ⟨.bl (!k), H, I', by rw [er]; exact rfl, q⟩
    · rename_i kvs eo
      obtain ⟨a, r, rfl, g, er⟩ := dget_of S hx hy eo e
      cases ru
      exact d_notIn (by omega) I g rv fun s' I' => ⟨.bl (!k), H, I', by rw [er]; exact rfl, q⟩
    · rename_i ts eo
      split at e
      · rename_i hz
        cases e
        obtain ⟨c1, c2⟩ := Bool.and_eq_true_iff.mp hz
        obtain ⟨a, rfl, r⟩ := hy.obj S eo
        obtain ⟨xs, h1, h2⟩ := r.lst_inv
        refine op_notInD (by omega) pins s σ H _ _ vv uu Q I rv ru ⟨_, toDs ts, hx.dp S c1, .lst (SqL.of h1) (RTs.dp ts _ h2 (by simpa [T.toD, PyData.canLay0] using okD_lay c2)), c1, c2, ?_⟩
        rw [toDs_any]
        exact q
      · cases e
    · cases e
theorem RQ.isNon {K : PySem.W.Frag} {H : Hp} {Z : Addr → Prop} {ρ : List Addr} {t : T} {v : V} (h : RQ K P H Z ρ t v) : decide (v = .non) = t.isNon := by
  rcases h with h | ⟨o, a, rfl, rfl, _, _⟩
  · cases h <;> rfl
  · cases o <;> rfl
theorem RQ.isBl {K : PySem.W.Frag} {H : Hp} {Z : Addr → Prop} {ρ : List Addr} {t : T} {v : V} {b : Bool} (h : RQ K P H Z ρ t v) : decide (v = .bl b) = t.isBl b := by
  rcases h with h | ⟨o, a, rfl, rfl, _, _⟩
  · cases h <;> first | rfl | (rename_i c; cases b <;> cases c <;> rfl)
  · cases o <;> rfl
theorem op_isB (b : Bool) : OpR X (compareOp .Is) (fun x y H Q => y = .bl b ∧ Q (.bl (decide (x = .bl b))) H) := by
  intro pins s σ H x y v u Q I rx ry h
  obtain ⟨rfl, q⟩ := h
  cases ry
  cases x with
  | bl c =>
    cases rx
    refine wpAny_is_plain rfl (fin_bl I q ?_)
    cases b <;> cases c <;> rfl
  | _ =>
    first
    | (cases rx; exact wpAny_is_plain rfl (fin_bl I q rfl))
    | (obtain ⟨t, rfl⟩ := rx; exact wpAny_is_plain rfl (fin_bl I q rfl))
theorem op_notB (b : Bool) : OpR X (compareOp .IsNot) (fun x y H Q => y = .bl b ∧ Q (.bl (!decide (x = .bl b))) H) := by
  intro pins s σ H x y v u Q I rx ry h
  obtain ⟨rfl, q⟩ := h
  cases ry
  cases x with
  | bl c =>
    cases rx
    refine wpAny_isNot_plain rfl (fin_bl I q ?_)
    cases b <;> cases c <;> rfl
  | _ =>
    first
    | (cases rx; exact wpAny_isNot_plain rfl (fin_bl I q rfl))
    | (obtain ⟨t, rfl⟩ := rx; exact wpAny_isNot_plain rfl (fin_bl I q rfl))
theorem op_cmpT (hu : X.A.units + 65 < cLine) (op : Cop) : OpR X (compareOp op.py) (rCm X.K P XX fun st x y => opCmp P st op x y) := by
  cases op with
  | eq => exact op_eqT hu
  | ne => exact op_neT hu
  | inn => exact op_inT hu
  | nin => exact op_ninT hu
  | isN =>
    intro pins s σ H v u vv uu Q I rv ru h
    obtain ⟨st, ρ, Z, x, y, E, S, hx, hy, h⟩ := h
    obtain ⟨w, e0, h⟩ := h.get
    obtain ⟨k, e, ek⟩ := cm_get e0
    subst ek
    clear e0
    simp only [opCmp] at e
    split at e
    · cases e
      cases hy.non
      have q : Q (.bl x.isNon) H := h.now (RT.bl _) S
      exact op_isN pins s σ H _ _ vv uu Q I rv ru ⟨rfl, by rw [hx.isNon]; exact q⟩
    · rename_i b
      cases e
      cases hy.bl
      have q : Q (.bl (x.isBl b)) H := h.now (RT.bl _) S
      exact op_isB b pins s σ H _ _ vv uu Q I rv ru ⟨rfl, by rw [hx.isBl]; exact q⟩
    · cases e
  | notN =>
    intro pins s σ H v u vv uu Q I rv ru h
    obtain ⟨st, ρ, Z, x, y, E, S, hx, hy, h⟩ := h
    obtain ⟨w, e0, h⟩ := h.get
    obtain ⟨k, e, ek⟩ := cm_get e0
    subst ek
    clear e0
    simp only [opCmp] at e
    split at e
    · cases e
      cases hy.non
      have q : Q (.bl (!x.isNon)) H := h.now (RT.bl _) S
      exact op_notN pins s σ H _ _ vv uu Q I rv ru ⟨rfl, by rw [hx.isNon]; exact q⟩
    · rename_i b
      cases e
      cases hy.bl
      have q : Q (.bl (!x.isBl b)) H := h.now (RT.bl _) S
      exact op_notB b pins s σ H _ _ vv uu Q I rv ru ⟨rfl, by rw [hx.isBl]; exact q⟩
    · cases e
  | _ =>
    intro pins s σ H v u vv uu Q I rv ru h
    obtain ⟨st, ρ, Z, x, y, E, S, hx, hy, h⟩ := h
    obtain ⟨w, e0, h⟩ := h.get
    obtain ⟨k, e, ek⟩ := cm_get e0
    subst ek
    clear e0
    simp only [opCmp] at e
    split at e
    · cases e
      cases hx.int; cases hy.int
      have q := h.now (b := .bl _) (show RT X.K P H Z ρ _ _ from RT.bl _) S
      first
      | exact op_lt pins s σ H _ _ vv uu Q I rv ru ⟨_, _, rfl, rfl, q⟩
      | exact op_le pins s σ H _ _ vv uu Q I rv ru ⟨_, _, rfl, rfl, q⟩
      | exact op_gt pins s σ H _ _ vv uu Q I rv ru ⟨_, _, rfl, rfl, q⟩
      | exact op_ge pins s σ H _ _ vv uu Q I rv ru ⟨_, _, rfl, rfl, q⟩
    · cases e

/-! ### subscripts, slices -/
section
variable (K : PySem.W.Frag) (P : Pm) (XX : XR)
def rIx0 : R2 := rOp K P XX fun st x y => (ixT P st x y).map .val
end
theorem atI_rt {K : PySem.W.Frag} {H : Hp} {Z : Addr → Prop} {ρ : List Addr} {ts : List T} {xs : List V} {i : Int} {t : T} (h : RTs K P H Z ρ ts xs) (e : atI ts i = some t) : ∃ v, atI xs i = some v ∧ RT K P H Z ρ t v := by
  unfold atI at e ⊢
  rw [← h.length]
  cases ej : ixN ts.length i with
  | none => rw [ej] at e; cases e
  | some j =>
    rw [ej] at e
    obtain ⟨v, h1, h2⟩ := h.get (show ts[j]? = some t from e)
    exact ⟨v, h1, h2⟩
theorem ix_T (hu : X.A.units + 65 < cLine) : IxR X (rIx0 X.K P XX) := by
  intro value slice pins s σ H v u vv uu Q I rv ru h hs
  obtain ⟨st, ρ, Z, x, y, E, S, hx, hy, h0⟩ := h
  obtain ⟨w, e0, h⟩ := h0.get
  obtain ⟨t, e, ek⟩ := Option.map_eq_some_iff.mp e0
  subst ek
  clear e0 h0
  unfold ixT at e
  split at e
  · split at e
    · split at e
      · rename_i z i hz
        obtain ⟨c, e1, rfl⟩ := Option.map_eq_some_iff.mp e
        cases hx.str; cases hy.int
        exact ix_str value slice pins s σ H _ _ vv uu Q I rv ru ⟨_, _, c, rfl, rfl, fits_le hz, e1, h.now (RT.str _) S⟩ hs
      · cases e
    · cases e
  · split at e
    · obtain ⟨a, xs, rfl, h1, h2⟩ := hx.tup
      cases hy.int
      obtain ⟨z, e1, r⟩ := atI_rt h2 e
      have q : Q z H := Wp.now (k := kOw X.K P) (a := .val t) h r S
      exact ix_tup value slice pins s σ H _ _ vv uu Q I rv ru ⟨a, xs, _, z, rfl, rfl, h1, e1, q⟩ hs
    · cases e
  · split at e
    · rename_i kvs eo
      obtain ⟨k, e1, e2⟩ := Option.bind_eq_some_iff.mp e
      obtain ⟨a, rfl, r⟩ := hx.obj S eo
      obtain ⟨xs, h1, h2⟩ := r.dk_inv
      cases key_rt hy e1
      obtain ⟨z, e3, r3⟩ := h2.get e2
      cases rv
      have g : DGet H a (kV k) (some z) := by rw [← e3]; exact DGet.k h1
      exact PyProof.Rows.tail_any (dict_typeIs I g) PySem.F.slot_dict_getitem.lookup (d_getItem (by omega) I g ru fun w' s3 I3 rw' => ⟨z, H, I3, rw', h.now r3 S⟩) hs
    · rename_i kvs eo
      obtain ⟨k, e1, e2⟩ := Option.bind_eq_some_iff.mp e
      obtain ⟨a, rfl, r⟩ := hx.obj S eo
      obtain ⟨xs, h1, h2⟩ := r.dt_inv
      obtain ⟨b, rfl, hb⟩ := kt_rt hy e1
      obtain ⟨z, e3, r3⟩ := h2.get e2
      cases rv
      have g : DGet H a (.ref b) (some z) := by rw [← e3]; exact DGet.t h1 hb
      exact PyProof.Rows.tail_any (dict_typeIs I g) PySem.F.slot_dict_getitem.lookup (d_getItem (by omega) I g ru fun w' s3 I3 rw' => ⟨z, H, I3, rw', h.now r3 S⟩) hs
    · rename_i ts eo
      split at e
      · obtain ⟨a, rfl, r⟩ := hx.obj S eo
        obtain ⟨xs, h1, h2⟩ := r.lst_inv
        cases hy.int
        obtain ⟨z, e1, r⟩ := atI_rt h2 e
        have q : Q z H := Wp.now (k := kOw X.K P) (a := .val t) h r S
        exact ix_list value slice pins s σ H _ _ vv uu Q I rv ru ⟨a, xs, _, z, rfl, rfl, SqL.of h1, e1, q⟩ hs
      · cases e
    · cases e
theorem RTs.rev {K : PySem.W.Frag} {H : Hp} {Z : Addr → Prop} {ρ : List Addr} : ∀ {ts : List T} {xs : List V}, RTs K P H Z ρ ts xs → RTs K P H Z ρ ts.reverse xs.reverse
  | [], _, .nil => .nil
  | t :: ts, _, .cons h r => by
    rw [List.reverse_cons, List.reverse_cons]
    exact (RTs.rev r).append (.cons h .nil)
theorem RTs.cut {K : PySem.W.Frag} {H : Hp} {Z : Addr → Prop} {ρ : List Addr} {ts : List T} {xs : List V} (h : RTs K P H Z ρ ts xs) (lo hi : Option Int) : RTs K P H Z ρ (cutT ts lo hi) (cutV xs lo hi) := by
  unfold cutT cutV
  rw [h.length]
  exact (h.drop _).take _
section
variable (K : PySem.W.Frag) (P : Pm) (XX : XR)
def rSl0 : V → Option Int → Option Int → Hp → VK → Prop := fun v lo hi H Q => ∃ (st : Sto) (ρ : List Addr) (Z : Addr → Prop) (x : T) (E : XK), RelS K P st H ρ Z ∧ RQ K P H Z ρ x v ∧ Wp K P XX (kOw K P) (R.of (slT st x lo hi) st) H ρ Z Q E
end
theorem sl_T : SlR X (rSl0 X.K P XX) := by
  intro pins s σ H v vv vl vu lo hi sl Q I rv hs pl pu h
  obtain ⟨st, ρ, Z, x, E, S, hx, h⟩ := h
  obtain ⟨w, e, h⟩ := h.get
  unfold slT at e
  split at e
  · cases e
    obtain ⟨a, xs, rfl, h1, h2⟩ := hx.tup
    refine sl_tupA pins s σ H _ vv vl vu lo hi sl Q I rv hs pl pu ⟨a, xs, rfl, h1, fun q => ?_, fun _ p hp => h.newT S (h2.cut lo hi) hp⟩
    have key : ∀ us : List T, us.length = xs.length → cutT us lo hi = us := fun us hl => by
      unfold cutT
      rw [hl, q.1, q.2]
      simp [← hl]
    rw [key _ h2.length] at h
    exact h.now (hx.rt (by rintro ⟨⟩ <;> exact fun q => nomatch q)) S
  · obtain ⟨ts, e2, ek⟩ := Option.map_eq_some_iff.mp e
    subst ek
    obtain ⟨a, xs, rfl, h1, h2⟩ := hx.lst S e2
    exact sl_list pins s σ H _ vv vl vu lo hi sl Q I rv hs pl pu ⟨a, xs, rfl, SqL.of h1, fun p hp => h.newL S (h2.cut lo hi) hp⟩
end
end TW

set_option Elab.async false
set_option linter.all false
set_option maxRecDepth 100000
set_option maxHeartbeats 2000000
/-! CoreE: enumerate over a tuple, over a text. -/
namespace TW
open PySem L2 PySem.Spec PyProof.Rows
theorem meets_enum1 {v : Value} {o : Obj} {H : Heap → Prop} (B : Begins v o H) :
    Meets (Builtin.«enumerate.__new__» ⟨[.type "enumerate", v], []⟩) (fun _ R s => H s.heap ∧
      R (.ok (.ret (.ref (s.heap.push o).objs.size))) { s with heap := (s.heap.push o).push { cls := .type "enumerate", data := .fields #[.none, .bool false, .ref s.heap.objs.size, rawInt 0, .none, .none] } }) :=
  .of_wp fun prog w A R s h => by
    obtain ⟨hp, g, d, tk, os⟩ := s; obtain ⟨h1, h⟩ := h
    have hsub := sub_enumerate
    have q1 : ∀ {A' : Around} {E : Value → Shared → Prop} {Q : Value → Shared → Prop}, Q (.ref hp.objs.size) ⟨hp.push o, g, d, tk, os⟩ → wpAny (model prog w) A' (pyIter v) Q E ⟨hp, g, d, tk, os⟩ :=
      fun q => B.iter prog w _ _ ⟨hp, g, d, tk, os⟩ _ h1 q
    wp_walk using q1
    refine wpAny_stack_any fun st => wpAny_pure ?_
    split
    · rename_i c _ _ _ _ _
      cases (c == Value.type "enumerate")
      · wp_walk using q1
        exact ⟨_, rfl, h⟩
      · wp_walk using q1
        exact ⟨_, rfl, h⟩
    · wp_walk using q1
      exact ⟨_, rfl, h⟩
theorem call_enum1 {prog : Program} {w : World} {A : Around} {E : Value → Shared → Prop} {s : Shared} {v : Value} {o : Obj} {H : Heap → Prop} {Q : Value → Shared → Prop} (B : Begins v o H) (h1 : H s.heap)
    (h : ∀ h', IsEnum h' (s.heap.objs.size + 1) s.heap.objs.size 0 .none → h'.get? s.heap.objs.size = some o → h'.objs.size = s.heap.objs.size + 2 →
      (∀ b o, s.heap.get? b = some o → h'.get? b = some o) → Q (.ref (s.heap.objs.size + 1)) { s with heap := h' }) :
    wpAny (model prog w) A (call (.type "enumerate") [v]) Q E s := by
  refine callType_new F.called_enumerate (by decide) (F.typeCall_enumerate_1 _) (F.newCall_enumerate_1 _) (fun obj => F.args_object_init_2 obj _) F.entry_enumerate_new
    (meets_enum1 B) ⟨h1, ?_⟩
  have hz : (s.heap.push o).objs.size = s.heap.objs.size + 1 := Heap.size_push ..
  show _ ∧ _
  rw [hz]
  have he : IsEnum ((s.heap.push o).push { cls := .type "enumerate", data := .fields #[.none, .bool false, .ref s.heap.objs.size, rawInt 0, .none, .none] }) (s.heap.objs.size + 1) s.heap.objs.size 0 .none := by
    have := Heap.get?_push_size (s.heap.push o) (o := { cls := .type "enumerate", data := .fields #[.none, .bool false, .ref s.heap.objs.size, rawInt 0, .none, .none] }) rfl
    rw [hz] at this; exact this
  refine ⟨⟨_, he, rfl⟩, h _ he (Heap.get?_push_of_some _ (Heap.get?_push_size _ B.free)) (by rw [Heap.size_push, hz]) fun b o x => Heap.get?_push_of_some _ (Heap.get?_push_of_some _ x)⟩

/-- the tuple at a, each item in a new pair with its place -/
def IteT (K : PySem.W.Frag) (a : Addr) : L2.It :=
  ⟨fun i H => ∃ (xs : List V) (x : V), SqT K H a xs ∧ xs[i]? = some x, fun i H v H' => ∃ T x, v = .ref T ∧ H T = none ∧ H' = upd H T (.tup [.int (i : Nat), x]) ∧ ∀ xs, SqT K H a xs → xs[i]? = some x, fun i H => ∃ xs : List V, SqT K H a xs ∧ xs.length ≤ i⟩
theorem turn_enumT {P : Program} {w : World} {K : PySem.W.Frag} {elts : List Expr} {kk : Nat} {tpos : Pos} (a e it : Addr) (hai : a ≠ it) (hae : a ≠ e) :
    Turn P w K (.Tuple elts kk tpos) (IteT K a) [e, it] e (fun i h => (∃ old, IsEnum h e it ((i : Nat) : Int) old) ∧ h.IsTupleIter it a i ∧ e ≠ it) where
  mem := by simp
  obj := fun i h st b hb => by
    obtain ⟨⟨old, he⟩, ⟨o, ho, hc, hd⟩, _⟩ := st
    have e' : b = e ∨ b = it := by simpa using hb
    rcases e' with z | z
    · rw [z]; exact ⟨_, he, fun v q => nomatch q⟩
    · rw [z]; exact ⟨o, ho, fun v q => by rw [hd] at q; cases q⟩
  keep := fun i h h' st k => let ⟨⟨old, he⟩, hi, hne⟩ := st; ⟨⟨old, k e (by simp) _ he⟩, hi.at fun o q => k it (by simp) o q, hne⟩
  item := by
    intro X hP hw hK hc i pins s σ H E I hf st hg
    subst hP hw hK
    obtain ⟨⟨old, he⟩, hit, hne⟩ := st
    obtain ⟨xs, x, hq, hx⟩ := hg
    obtain ⟨its, rv, p, hz⟩ := I.tuple hq
    obtain ⟨u, hu, ru⟩ := rv.get hx
    have hel : e < s.heap.objs.size := Heap.lt_size he
    have hil : it < s.heap.objs.size := by obtain ⟨_, q, _⟩ := hit; exact Heap.lt_size q
    have hti : s.heap.IsTuple a its.toArray := p
    have hlt : i < its.toArray.size := by
      have := (List.getElem?_eq_some_iff.mp hu).1
      simpa using this
    refine wpAny_pyNext_enum_itemD (Draws.tuple (A := X.A.in1) (I.ok.hd hc) it a hai its.toArray) he ⟨hit, hti⟩ hlt hne (by simp; exact ⟨hne, Ne.symm hae⟩) fun x' h' tk hP ho hit' hT hsz hk => ?_
    have hxu : x' = u := by
      have h1 : its.toArray[i]? = some u := by simpa using hu
      rw [h1] at hP; exact (Option.some.inj hP).symm
    subst hxu
    refine ⟨_, rfl, wpAny_letOwnedTupleGo_enum (s := { s with heap := h', toks := tk + 1 }) ho fun h'' he' sb => ?_⟩
    have hT2 : h''.get? s.heap.objs.size = some { cls := .type "tuple", data := .seq #[.int i tk, x'] } := (sb.2 _ (Nat.ne_of_gt hel)).trans hT
    have new : ObjOk X.prog X.w (upd H s.heap.objs.size (.tup [.int (i : Nat), x])) h'' s.heap.objs.size (.tup [.int (i : Nat), x]) :=
      ⟨by show 2 ≤ sizeLine; decide, [.int i tk, x'], .cons ⟨_, rfl⟩ (.cons ru .nil), ⟨_, hT2, rfl, _, rfl⟩⟩
    have I1 : Inv X pins σ (upd H s.heap.objs.size (.tup [.int (i : Nat), x])) { s with heap := h'', toks := tk + 1 } :=
      I.turnedNew (ch := [e, it]) (fun b ob hb q => (sb.2 b (fun z => hb (by simp [z]))).trans (hk b ob (fun z => hb (by simp [z])) (fun z => hb (by simp [z])) q)) hf (Nat.le_refl _) new
    refine ⟨.ref s.heap.objs.size, _, I1, rfl, ⟨_, x, rfl, I.hok.fresh (Nat.le_refl _), rfl, fun ys hy => by rw [I.tuple_inj hy hq]; exact hx⟩, ⟨⟨x', ?_⟩, hit'.1.at fun o q => (sb.2 it (Ne.symm hne)).trans q, hne⟩, fun b hb => ?_⟩
    · have e1 : ((i + 1 : Nat) : Int) = (i : Int) + 1 := by omega
      rw [e1]; exact he'
    · have hb' : b < s.heap.objs.size := by
        have e' : b = e ∨ b = it := by simpa using hb
        rcases e' with z | z
        · rw [z]; exact hel
        · rw [z]; exact hil
      rw [upd_ne (Nat.ne_of_lt hb')]
      exact (hf b hb).1
  done := by
    intro X hP hw hK hc i pins s σ H E I hf st hg
    subst hP hw hK
    obtain ⟨⟨old, he⟩, hit, hne⟩ := st
    obtain ⟨xs, hq, hx⟩ := hg
    obtain ⟨its, rv, p, hz⟩ := I.tuple hq
    obtain ⟨f0, f1, f2, f3, f4, f5⟩ := hf it (by simp)
    have hl := rv.length
    have hti : s.heap.IsTuple a its.toArray := p
    have hT : s.TypeIs (.ref e) "enumerate" := ⟨_, he, rfl⟩
    unfold pyNext
    refine wpAny_bind (wpAny_attempt (wpAny_callSpecial?_slot (name := Str.ofString "__next__") hT F.slot_enumerate_next
      (wpAny_call_entry F.slot_enumerate_next hT F.entry_enumerate_next ?_ (F.args_enumerate_next_1 _))))
    show wpAny _ _ (field (.ref e) 2 >>= _) _ _ _
    refine wpAny_bind (wpAny_field he rfl (x := .ref it) rfl ?_)
    refine wpAny_bind (wpAny_nextOf_tuple_end (A := X.A.in1) (I.ok.hd hc) hit hti (by simp; omega) fun h' x he' hx' => ?_)
    obtain ⟨o, ho, hc'⟩ := hx'
    refine wpAny_bind (wpAny_isInstance (T := "StopIteration") (b := true) ⟨o, ho, hc'⟩ isSubtype_stop ?_)
    exact wpAny_pure ⟨rfl, I.turned (t' := s.toks) (fun b o hb q => he' b o hb q) f0 f1 f3 f4 f5⟩
  self := fun A i s Q E st h => let ⟨⟨_, he⟩, _⟩ := st; wpAny_pyIter_enum he h
/-- enumerate of a list or of a tuple -/
def iEnumA (K : PySem.W.Frag) (ta : TA) : TI := fun σ H R => ta σ H fun vs H1 => ∃ a xs, vs = [.ref a] ∧ ((SqL K H1 a xs ∧ R (Ite K a) H1) ∨ (SqT K H1 a xs ∧ R (IteT K a) H1))
theorem pi_enumA {X : Cx} {e : Expr} {ta : TA} {p pos tpos : Pos} {elts : List Expr} {kk : Nat} (hg : Gl X "enumerate") (hm : X.mg "enumerate" = none) (ha : PA X [e] ta) (hs : starEach [e] X.env = [(false, eval e X.env)]) :
    PI X (.Tuple elts kk tpos) (.Call (.Name "enumerate" p) [e] [] pos) (iEnumA X.K ta) := by
  refine ⟨fun pins s σ H R I h => ?_⟩
  refine Call_ (ld_blt I hg hm boot_enumerate (PyProof.Rows.callWith_type1 (thn (ha.run pos pins s σ H _ I h) fun us s1 ⟨vs, H1, I1, r1, q1⟩ => ?_) hs rfl))
  obtain ⟨a, xs, ex, q⟩ := q1
  subst ex
  cases r1 with
  | cons r rr =>
    cases rr
    cases r
    rcases q with ⟨hq, q⟩ | ⟨hq, q⟩
    · obtain ⟨its, rv, p', hz⟩ := I1.list hq
      refine call_enumerate_list p'.isList fun h' he hit hsz hk => wpAny_pyIter_enum he ?_
      have I2 : Inv X pins σ H1 { s1 with heap := h' } := I1.kept (t' := s1.toks) hk
      refine ⟨s1.heap.objs.size + 1, [s1.heap.objs.size + 1, s1.heap.objs.size], _, _, H1, rfl, I2, turn_enum a (s1.heap.objs.size + 1) s1.heap.objs.size, ⟨⟨.none, he⟩, hit, Nat.succ_ne_self _⟩, fun b hb => ?_, q⟩
      have e' : b = s1.heap.objs.size + 1 ∨ b = s1.heap.objs.size := by simpa using hb
      have hle : s1.heap.objs.size ≤ b := by
        rcases e' with z | z
        · rw [z]; exact Nat.le_add_right _ _
        · rw [z]; exact Nat.le_refl _
      exact I1.fpOk hle (I1.hok.fresh hle)
    · obtain ⟨its, rv, p', hz⟩ := I1.tuple hq
      have hti : s1.heap.IsTuple a its.toArray := p'
      have hal : a < s1.heap.objs.size := by obtain ⟨_, q, _⟩ := hti; exact Heap.lt_size q
      refine call_enum1 (begins_tuple a its.toArray) hti fun h' he hit hsz hk => wpAny_pyIter_enum he ?_
      have I2 : Inv X pins σ H1 { s1 with heap := h' } := I1.kept (t' := s1.toks) hk
      refine ⟨s1.heap.objs.size + 1, [s1.heap.objs.size + 1, s1.heap.objs.size], _, _, H1, rfl, I2, turn_enumT a (s1.heap.objs.size + 1) s1.heap.objs.size (Nat.ne_of_lt hal) (Nat.ne_of_lt (Nat.lt_succ_of_lt hal)), ⟨⟨.none, he⟩, ⟨_, hit, rfl, rfl⟩, Nat.succ_ne_self _⟩, fun b hb => ?_, q⟩
      have e' : b = s1.heap.objs.size + 1 ∨ b = s1.heap.objs.size := by simpa using hb
      have hle : s1.heap.objs.size ≤ b := by
        rcases e' with z | z
        · rw [z]; exact Nat.le_add_right _ _
        · rw [z]; exact Nat.le_refl _
      exact I1.fpOk hle (I1.hok.fresh hle)
end TW

set_option Elab.async false
set_option linter.all false
set_option maxRecDepth 100000
set_option maxHeartbeats 2000000
/-! Core4: built-in functions. -/
namespace TW
open PySem L2

/-! ### small lists of ints -/
theorem insI_perm (i : Int) : ∀ l : List Int, (insI i l).Perm (i :: l)
  | [] => List.Perm.refl _
  | j :: r => by
    unfold insI
    split
    · exact List.Perm.refl _
    · exact ((insI_perm i r).cons j).trans (List.Perm.swap i j r)
theorem sortI_perm : ∀ l : List Int, (sortI l).Perm l
  | [] => List.Perm.refl _
  | i :: r => (insI_perm i (sortI r)).trans ((sortI_perm r).cons i)
theorem insI_sorted (i : Int) : ∀ l : List Int, l.Pairwise (· ≤ ·) → (insI i l).Pairwise (· ≤ ·)
  | [], _ => by simp [insI]
  | j :: r, h => by
    unfold insI
    split
    · rename_i hij
      refine List.pairwise_cons.mpr ⟨fun x hx => ?_, h⟩
      rcases List.mem_cons.mp hx with rfl | hx
      · exact hij
      · exact Int.le_trans hij ((List.pairwise_cons.mp h).1 x hx)
    · rename_i hij
      obtain ⟨h1, h2⟩ := List.pairwise_cons.mp h
      refine List.pairwise_cons.mpr ⟨fun x hx => ?_, insI_sorted i r h2⟩
      rcases List.mem_cons.mp ((insI_perm i r).mem_iff.mp hx) with rfl | hx
      · omega
      · exact h1 x hx
theorem sortI_sorted : ∀ l : List Int, (sortI l).Pairwise (· ≤ ·)
  | [] => List.Pairwise.nil
  | i :: r => insI_sorted i _ (sortI_sorted r)
theorem sorted_uniq : ∀ {l m : List Int}, l.Perm m → l.Pairwise (· ≤ ·) → m.Pairwise (· ≤ ·) → l = m
  | [], m, p, _, _ => (List.nil_perm.mp p).symm
  | x :: l, [], p, _, _ => absurd p (by intro q; exact absurd q.length_eq (by simp))
  | x :: l, y :: m, p, h1, h2 => by
    obtain ⟨a1, a2⟩ := List.pairwise_cons.mp h1
    obtain ⟨b1, b2⟩ := List.pairwise_cons.mp h2
    have e : x = y := by
      have m1 : x ∈ y :: m := p.mem_iff.mp List.mem_cons_self
      have m2 : y ∈ x :: l := p.mem_iff.mpr List.mem_cons_self
      rcases List.mem_cons.mp m1 with z | z
      · exact z
      rcases List.mem_cons.mp m2 with z2 | z2
      · exact z2.symm
      · have := b1 x z
        have := a1 y z2
        omega
    subst e
    rw [sorted_uniq ((List.perm_cons x).mp p) a2 b2]
theorem maxI_go : ∀ (r : List Int) (a : Int), (r.foldl (fun a b => if b > a then b else a) a ∈ a :: r) ∧ ∀ y ∈ a :: r, y ≤ r.foldl (fun a b => if b > a then b else a) a
  | [], a => by simp
  | b :: r, a => by
    rw [List.foldl_cons]
    obtain ⟨h1, h2⟩ := maxI_go r (if b > a then b else a)
    refine ⟨?_, fun y hy => ?_⟩
    · rcases List.mem_cons.mp h1 with z | z
      · rw [z]; split <;> simp
      · exact List.mem_cons_of_mem _ (List.mem_cons_of_mem _ z)
    · have h3 := h2 _ List.mem_cons_self
      rcases List.mem_cons.mp hy with rfl | hy
      · exact Int.le_trans (by split <;> omega) h3
      · rcases List.mem_cons.mp hy with rfl | hy
        · exact Int.le_trans (by split <;> omega) h3
        · exact h2 y (List.mem_cons_of_mem _ hy)
theorem minI_go : ∀ (r : List Int) (a : Int), (r.foldl (fun a b => if b < a then b else a) a ∈ a :: r) ∧ ∀ y ∈ a :: r, r.foldl (fun a b => if b < a then b else a) a ≤ y
  | [], a => by simp
  | b :: r, a => by
    rw [List.foldl_cons]
    obtain ⟨h1, h2⟩ := minI_go r (if b < a then b else a)
    refine ⟨?_, fun y hy => ?_⟩
    · rcases List.mem_cons.mp h1 with z | z
      · rw [z]; split <;> simp
      · exact List.mem_cons_of_mem _ (List.mem_cons_of_mem _ z)
    · have h3 := h2 _ List.mem_cons_self
      rcases List.mem_cons.mp hy with rfl | hy
      · exact Int.le_trans h3 (by split <;> omega)
      · rcases List.mem_cons.mp hy with rfl | hy
        · exact Int.le_trans h3 (by split <;> omega)
        · exact h2 y (List.mem_cons_of_mem _ hy)
theorem maxI_is {ns : List Int} {m : Int} (h : m ∈ ns) (u : ∀ y ∈ ns, y ≤ m) : m = maxI ns := by
  cases ns with
  | nil => cases h
  | cons a r =>
    obtain ⟨h1, h2⟩ := maxI_go r a
    have := h2 m h
    have := u _ h1
    show m = r.foldl _ a
    omega
theorem minI_is {ns : List Int} {m : Int} (h : m ∈ ns) (u : ∀ y ∈ ns, m ≤ y) : m = minI ns := by
  cases ns with
  | nil => cases h
  | cons a r =>
    obtain ⟨h1, h2⟩ := minI_go r a
    have := h2 m h
    have := u _ h1
    show m = r.foldl _ a
    omega

/-! ### calls of built-ins by values -/
def Blt.nm : Blt → String
  | .len => "len" | .abs => "abs" | .sum => "sum" | .maxOf => "max" | .minOf => "min" | .max2 => "max" | .min2 => "min" | .sortedOf => "sorted" | .sorSet => "sorted" | .any => "any" | .all => "all"
  | .tupleOf => "tuple" | .listOf => "list" | .intOf => "int" | .strOf => "str"
  | .isInt => "int" | .isBool => "bool" | .isStr => "str" | .isTuple => "tuple" | .isList => "list"
section
variable (K : PySem.W.Frag) (P : Pm) (XX : XR)
def rBlt (b : Blt) : List V → Hp → VK → Prop := fun vs H Q => ∃ (st : Sto) (ρ : List Addr) (Z : Addr → Prop) (x : T) (v : V) (E : XK), vs = [v] ∧ RelS K P st H ρ Z ∧ RQ K P H Z ρ x v ∧ Wp K P XX (kOw K P) (R.of (bltT st b x) st) H ρ Z Q E
def rBlt2 (b : Blt) : List V → Hp → VK → Prop := fun vs H Q => ∃ (st : Sto) (ρ : List Addr) (Z : Addr → Prop) (x y : T) (v u : V) (E : XK), vs = [v, u] ∧ RelS K P st H ρ Z ∧ RQ K P H Z ρ x v ∧ RQ K P H Z ρ y u ∧ Wp K P XX (kOw K P) (R.of (bltT2 b x y) st) H ρ Z Q E
/-- isinstance(x, a type) -/
def rIsA (b : Blt) : List V → Hp → VK → Prop := fun vs H Q => ∃ (st : Sto) (ρ : List Addr) (Z : Addr → Prop) (x : T) (v : V) (E : XK), vs = [v, .ty b.nm] ∧ RelS K P st H ρ Z ∧ RQ K P H Z ρ x v ∧ Wp K P XX (kOw K P) (R.of (bltT st b x) st) H ρ Z Q E
end
section
variable {X : Cx} {P : Pm} {XX : XR}
theorem call_lenT : CallR X (.builtin "len") (rBlt X.K P XX .len) := by
  intro pins s σ H vs us Q I rv h
  obtain ⟨st, ρ, Z, x, v, E, rfl, S, hx, h0⟩ := h
  obtain ⟨w, e0, h⟩ := h0.get
  obtain ⟨n, e, ek⟩ := Option.map_eq_some_iff.mp e0
  subst ek
  clear e0 h0
  unfold lenT at e
  split at e
  · split at e
    · rename_i hz
      cases e
      cases hx.str
      exact call_len pins s σ H _ us Q I rv ⟨_, _, rfl, ⟨fits_le hz, rfl⟩, h.now (RT.int _) S⟩
    · cases e
  · obtain ⟨ts, e1, ek⟩ := Option.map_eq_some_iff.mp e
    subst ek
    obtain ⟨a, xs, rfl, h1, h2⟩ := hx.seq S e1
    have q : Q (.int ts.length) H := h.now (RT.int _) S
    rw [h2.length] at q
    refine call_len pins s σ H _ us Q I rv ⟨_, _, rfl, ?_, q⟩
    rcases h1 with h1 | h1
    · exact .inl ⟨xs, h1, rfl⟩
    · exact .inr ⟨xs, h1, rfl⟩
theorem call_tupleOf : CallR X (.type "tuple") (rBlt X.K P XX .tupleOf) := by
  intro pins s σ H vs us Q I rv h
  obtain ⟨st, ρ, Z, x, v, E, rfl, S, hx, h0⟩ := h
  obtain ⟨w, e0, h⟩ := h0.get
  obtain ⟨ts, e, ek⟩ := Option.map_eq_some_iff.mp e0
  subst ek
  clear e0 h0
  unfold T.seq? at e
  split at e
  · cases e
    obtain ⟨a, xs, rfl, h1, h2⟩ := hx.tup
    exact call_tuple_of pins s σ H _ us Q I rv ⟨_, _, rfl, .inr ⟨h1, h.now (hx.rt (by rintro ⟨⟩ <;> exact fun q => nomatch q)) S⟩⟩
  · obtain ⟨a, xs, rfl, h1, h2⟩ := hx.lst S e
    exact call_tuple_of pins s σ H _ us Q I rv ⟨_, _, rfl, .inl ⟨SqL.of h1, fun p hp => h.newT S h2 hp⟩⟩
theorem call_listOf : CallR X (.type "list") (rBlt X.K P XX .listOf) := by
  intro pins s σ H vs us Q I rv h
  obtain ⟨st, ρ, Z, x, v, E, rfl, S, hx, h0⟩ := h
  obtain ⟨w, e, h⟩ := h0.get
  clear h0
  simp only [bltT] at e
  split at e
  · cases e
    have hx := hx.rt (by rintro ⟨⟩ <;> exact fun q => nomatch q)
    cases hx with
    | scr h1 z => exact call_list_of pins s σ H _ us Q I rv ⟨_, _, rfl, .inl (.inl h1), fun p hp => h.newL S (RTs.of_ints _) hp⟩
    | scrK h1 => exact call_list_of pins s σ H _ us Q I rv ⟨_, _, rfl, .inl (.inr h1), fun p hp => h.newL S (RTs.of_ints _) hp⟩
  · obtain ⟨ts, e1, ek⟩ := Option.map_eq_some_iff.mp e
    subst ek
    obtain ⟨a, xs, rfl, h1, h2⟩ := hx.seq S e1
    exact call_list_of pins s σ H _ us Q I rv ⟨_, _, rfl, h1, fun p hp => h.newL S h2 hp⟩
theorem call_intOf : CallR X (.type "int") (rBlt X.K P XX .intOf) := by
  intro pins s σ H vs us Q I rv h
  obtain ⟨st, ρ, Z, x, v, E, rfl, S, hx, h0⟩ := h
  obtain ⟨w, e, h⟩ := h0.get
  clear h0
  simp only [bltT] at e
  split at e
  · cases e
    cases hx.int
    exact call_int1 pins s σ H _ us Q I rv (.inl ⟨_, rfl, h.now (RT.int _) S⟩)
  · cases e
theorem call_absT : CallR X (.builtin "abs") (rBlt X.K P XX .abs) := by
  intro pins s σ H vs us Q I rv h
  obtain ⟨st, ρ, Z, x, v, E, rfl, S, hx, h0⟩ := h
  obtain ⟨w, e, h⟩ := h0.get
  clear h0
  simp only [bltT] at e
  split at e
  · cases e
    cases hx.int
    exact call_abs pins s σ H _ us Q I rv ⟨_, rfl, h.now (RT.int _) S⟩
  · cases e
theorem ints_at {K : PySem.W.Frag} {H : Hp} {Z : Addr → Prop} {ρ : List Addr} {st : Sto} {x : T} {v : V} {ns : List Int} (S : RelS K P st H ρ Z) (hx : RQ K P H Z ρ x v) (e : (x.lst? st).bind ints? = some ns) : ∃ a, v = .ref a ∧ SqL K H a (ns.map V.int) := by
  obtain ⟨ts, e1, e2⟩ := Option.bind_eq_some_iff.mp e
  obtain ⟨a, xs, rfl, h1, h2⟩ := hx.lst S e1
  exact ⟨a, rfl, by rw [← h2.ints e2]; exact SqL.of h1⟩
theorem bls_at {K : PySem.W.Frag} {H : Hp} {Z : Addr → Prop} {ρ : List Addr} {st : Sto} {x : T} {v : V} {ns : List Bool} (S : RelS K P st H ρ Z) (hx : RQ K P H Z ρ x v) (e : (x.lst? st).bind bls? = some ns) : ∃ a, v = .ref a ∧ SqL K H a (ns.map V.bl) := by
  obtain ⟨ts, e1, e2⟩ := Option.bind_eq_some_iff.mp e
  obtain ⟨a, xs, rfl, h1, h2⟩ := hx.lst S e1
  exact ⟨a, rfl, by rw [← h2.bls e2]; exact SqL.of h1⟩
theorem call_sumT (hc : X.calm = true) : CallR X (.builtin "sum") (rBlt X.K P XX .sum) := by
  intro pins s σ H vs us Q I rv h
  obtain ⟨st, ρ, Z, x, v, E, rfl, S, hx, h0⟩ := h
  obtain ⟨w, e0, h⟩ := h0.get
  obtain ⟨ns, e, ek⟩ := Option.map_eq_some_iff.mp e0
  subst ek
  obtain ⟨a, rfl, h1⟩ := ints_at S hx e
  exact cr_sum hc pins s σ H _ us Q I rv ⟨_, _, rfl, h1, h.now (RT.int _) S⟩
theorem call_anyT (hc : X.calm = true) : CallR X (.builtin "any") (rBlt X.K P XX .any) := by
  intro pins s σ H vs us Q I rv h
  obtain ⟨st, ρ, Z, x, v, E, rfl, S, hx, h0⟩ := h
  obtain ⟨w, e0, h⟩ := h0.get
  obtain ⟨ns, e, ek⟩ := Option.map_eq_some_iff.mp e0
  subst ek
  obtain ⟨a, rfl, h1⟩ := bls_at S hx e
  exact cr_any hc pins s σ H _ us Q I rv ⟨_, _, rfl, h1, h.now (RT.bl _) S⟩
theorem call_allT (hc : X.calm = true) : CallR X (.builtin "all") (rBlt X.K P XX .all) := by
  intro pins s σ H vs us Q I rv h
  obtain ⟨st, ρ, Z, x, v, E, rfl, S, hx, h0⟩ := h
  obtain ⟨w, e0, h⟩ := h0.get
  obtain ⟨ns, e, ek⟩ := Option.map_eq_some_iff.mp e0
  subst ek
  obtain ⟨a, rfl, h1⟩ := bls_at S hx e
  exact cr_all hc pins s σ H _ us Q I rv ⟨_, _, rfl, h1, h.now (RT.bl _) S⟩
theorem len_pos {ns : List Int} (h : ¬ ns.isEmpty = true) : 0 < ns.length := by
  cases ns with
  | nil => exact absurd rfl h
  | cons a r => simp
theorem call_maxT (hc : X.calm = true) : CallR X (.builtin "max") (rBlt X.K P XX .maxOf) := by
  intro pins s σ H vs us Q I rv h
  obtain ⟨st, ρ, Z, x, v, E, rfl, S, hx, h0⟩ := h
  obtain ⟨w, e0, h⟩ := h0.get
  obtain ⟨ns, e, ek⟩ := Option.bind_eq_some_iff.mp e0
  split at ek
  · cases ek
  · rename_i hz
    cases ek
    obtain ⟨a, rfl, h1⟩ := ints_at S hx e
    exact cr_max hc pins s σ H _ us Q I rv ⟨_, _, rfl, h1, len_pos hz, fun m hm hu => by rw [maxI_is hm hu]; exact h.now (RT.int _) S⟩
theorem call_minT (hc : X.calm = true) : CallR X (.builtin "min") (rBlt X.K P XX .minOf) := by
  intro pins s σ H vs us Q I rv h
  obtain ⟨st, ρ, Z, x, v, E, rfl, S, hx, h0⟩ := h
  obtain ⟨w, e0, h⟩ := h0.get
  obtain ⟨ns, e, ek⟩ := Option.bind_eq_some_iff.mp e0
  split at ek
  · cases ek
  · rename_i hz
    cases ek
    obtain ⟨a, rfl, h1⟩ := ints_at S hx e
    exact cr_min hc pins s σ H _ us Q I rv ⟨_, _, rfl, h1, len_pos hz, fun m hm hu => by rw [minI_is hm hu]; exact h.now (RT.int _) S⟩
theorem call_sortedT : CallR X (.builtin "sorted") (rBlt X.K P XX .sortedOf) := by
  intro pins s σ H vs us Q I rv h
  obtain ⟨st, ρ, Z, x, v, E, rfl, S, hx, h0⟩ := h
  obtain ⟨w, e0, h⟩ := h0.get
  obtain ⟨ns, e, ek⟩ := Option.bind_eq_some_iff.mp e0
  split at ek
  · rename_i hz
    cases ek
    obtain ⟨a, rfl, h1⟩ := ints_at S hx e
    refine cr_sorted pins s σ H _ us Q I rv ⟨_, _, rfl, h1, of_decide_eq_true hz, fun ms p hp hs hn => ?_⟩
    rw [sorted_uniq (hp.trans (sortI_perm ns).symm) hs (sortI_sorted ns)]
    exact h.newL S (RTs.of_ints _) hn
  · cases ek
theorem call_max2T (hc : X.calm = true) : CallR X (.builtin "max") (rBlt2 X.K P XX .max2) := by
  intro pins s σ H vs us Q I rv h
  obtain ⟨st, ρ, Z, x, y, v, u, E, rfl, S, hx, hy, h0⟩ := h
  obtain ⟨w, e, h⟩ := h0.get
  clear h0
  simp only [bltT2] at e
  split at e
  · cases e
    cases hx.int; cases hy.int
    exact call_max2 hc pins s σ H _ us Q I rv ⟨_, _, rfl, h.now (RT.int _) S⟩
  · cases e
theorem call_min2T (hc : X.calm = true) : CallR X (.builtin "min") (rBlt2 X.K P XX .min2) := by
  intro pins s σ H vs us Q I rv h
  obtain ⟨st, ρ, Z, x, y, v, u, E, rfl, S, hx, hy, h0⟩ := h
  obtain ⟨w, e, h⟩ := h0.get
  clear h0
  simp only [bltT2] at e
  split at e
  · cases e
    cases hx.int; cases hy.int
    exact call_min2 hc pins s σ H _ us Q I rv ⟨_, _, rfl, h.now (RT.int _) S⟩
  · cases e
theorem ty_at {K : PySem.W.Frag} {H : Hp} {Z : Addr → Prop} {ρ : List Addr} {x : T} {v : V} {n : String} (hx : RQ K P H Z ρ x v) (e : x.ty = some n) : TyX K H v (.type n) := by
  rcases hx with hx | ⟨o, a, rfl, rfl, h, _⟩
  · cases hx with
    | non => cases e; exact .base .non
    | bl _ => cases e; exact .base (.bl _)
    | int _ => cases e; exact .base (.int _)
    | str _ => cases e; exact .base (.str _)
    | tup h1 _ => cases e; exact .base (.tup h1)
    | tupK h1 _ _ =>
      cases e
      obtain ⟨o, its, n, h1, h2, _⟩ := h1
      exact .kTuple h1 h2
    | lst h1 _ _ => cases e; exact .base (.lst h1)
    | _ => cases e
  · cases o with
    | lst ts => cases e; obtain ⟨xs, h1, _⟩ := h.lst_inv; exact .base (.lst h1)
    | _ => cases e
def isBlt : Blt → Bool
  | .isInt | .isBool | .isStr | .isTuple | .isList => true
  | _ => false
theorem kit_at {K : PySem.W.Frag} {x : T} {n : String} (b : Blt) (hb : isBlt b = true) {k : Bool} (e1 : x.ty = some n) (e : isTy b.nm x = some k) : PySem.W.kitOne K (.type n) (.type b.nm) = some k := by
  unfold isTy at e
  rw [e1] at e
  cases e
  cases x <;> cases e1 <;> cases b <;> (first | exact absurd hb Bool.false_ne_true | exact kit_ty (by decide +kernel))
theorem call_isT (b : Blt) (hb : isBlt b = true) : CallR X (.builtin "isinstance") (rIsA X.K P XX b) := by
  intro pins s σ H vs us Q I rv h
  obtain ⟨st, ρ, Z, x, v, E, rfl, S, hx, h0⟩ := h
  obtain ⟨w, e0, h⟩ := h0.get
  have e1 : ∃ k, isTy b.nm x = some k ∧ w = .val (.bl k) := by
    cases b <;> first | exact absurd hb Bool.false_ne_true | (obtain ⟨k, e, ek⟩ := Option.map_eq_some_iff.mp e0; exact ⟨k, e, ek.symm⟩)
  obtain ⟨k, e, rfl⟩ := e1
  have q : Q (.bl k) H := h.now (RT.bl _) S
  cases et : x.ty with
  | none => unfold isTy at e; rw [et] at e; cases e
  | some n => exact call_isi pins s σ H _ us Q I rv ⟨_, _, _, _, k, rfl, .ty _, ty_at hx et, kit_at b hb et e, q⟩
end
end TW

set_option Elab.async false
set_option linter.all false
set_option maxRecDepth 100000
set_option maxHeartbeats 4000000
/-! CoreS: sorted(set(xs)), xs a list of ints. -/
namespace TW
open PySem PySem.Spec PyProof.Rows L2
section
variable {P : Program} {w : World} {A : Around} {E : Value → Shared → Prop} {s : Shared}
theorem set_listI {l : Addr} {items : Array Value} (ns : List Int) {Q : Value → Shared → Prop} (hh : A.handled = none) (hl : s.heap.IsList l items) (hit : IntsAre items.toList ns) (hb : ns.length + 1 < scanBound)
    (h : ∀ (h' : Heap) (tk c : Nat), SetR w h' s.heap.objs.size (fun j => decide (j ∈ ns)) c → c ≤ ns.length → (∀ b o, s.heap.get? b = some o → h'.get? b = some o) → Q (.ref s.heap.objs.size) { s with heap := h', toks := tk }) :
    wpAny (model P w) A (call (.type "set") [.ref l]) Q E s := by
  have hisz : items.size = ns.length := by
    have q := IntsAre.length hit
    rw [Array.length_toList] at q
    exact q
  obtain ⟨c, tl, hmro⟩ := F.called_set.mro
  have hmade := F.called_set.made
  have hsub := F.called_set.sub
  refine wpAny_call (codeAny_of_tree ?_)
  show wpAny _ _ (callAny (.type "set") _) _ _ _
  refine wpAny_pure ⟨Code.quiet_builtin _ (by decide +kernel), codeAny_builtin F.entry_type_call ?_⟩
  rw [Around.under_plain (weight_type_call_type "set" [.ref l] []) rfl]
  have h1 := F.called_set.notType
  have h2 := F.called_set.canCreate
  have hct := F.typeCall_set_1 (.ref l)
  repeat (any_goals (first | assumption | wp_step))

  refine codeAny_mono (code_set_led1 (.ref l) (E := E) (Q₁ := fun obj s₁ => obj = .ref s.heap.objs.size ∧ s₁ = { s with heap := s.heap.push { cls := .type "set", dict := none, data := .set #[] 0 (.fresh 0 0 (!w.params.followText "set-order")) } }) ⟨rfl, rfl⟩) fun r s₁ hr => ?_
  cases r with
  | error e => exact hr
  | ok fl =>
    cases fl with
    | ret obj =>
      obtain ⟨rfl, rfl⟩ := hr
      have hS : (s.heap.push { cls := .type "set", dict := none, data := .set #[] 0 (.fresh 0 0 (!w.params.followText "set-order")) }).get? s.heap.objs.size = some { cls := .type "set", dict := none, data := .set #[] 0 (.fresh 0 0 (!w.params.followText "set-order")) } := Heap.get?_push_size _ rfl
      have hT : Shared.TypeIs { s with heap := s.heap.push { cls := .type "set", dict := none, data := .set #[] 0 (.fresh 0 0 (!w.params.followText "set-order")) } } (.ref s.heap.objs.size) "set" := ⟨_, hS, rfl⟩
      have hli := F.called_set.init.lookup
      have hbi := F.called_set.init.bind (.ref s.heap.objs.size)
      repeat (any_goals (first | assumption | wp_step))

      refine codeAny_mono (codeAny_call_builtin (R := wants (fun r s₂ => r = .none ∧ ∃ h' tk c, s₂ = { s with heap := h', toks := tk } ∧ SetR w h' s.heap.objs.size (fun j => decide (j ∈ ns)) c ∧ c ≤ ns.length ∧
          (∀ b o, s.heap.get? b = some o → h'.get? b = some o)) E) F.called_set.init.plain F.entry_set_init (check_set_init_1 hT ?_)) fun r₂ s₂ hr₂ => ?_
      · obtain ⟨ol, hol, hcl, nl, hdl⟩ := hl
        obtain ⟨ocls, odict, odata, oslots⟩ := ol
        simp only at hcl hdl
        subst hcl; subst hdl
        have hol' : (s.heap.push { cls := .type "set", dict := none, data := .set #[] 0 (.fresh 0 0 (!w.params.followText "set-order")) }).get? l = some { cls := .type "list", dict := odict, data := .seq items nl, slots := oslots } := Heap.get?_push_of_some _ hol
        have hsls := F.sub_list_set
        have hslf := F.sub_list_frozenset
        have hne : (Value.type "list" == Value.type "dict") = false := by decide
        have hl1 : (s.heap.push { cls := .type "set", dict := none, data := .set #[] 0 (.fresh 0 0 (!w.params.followText "set-order")) }).IsList l items := ⟨_, hol', rfl, nl, rfl⟩
        unfold Builtin.«set.__init__» noKeywords Builtin.Frozenset.updateFrom
        generalize hPI : pyIter = PI
        wp_walk
        subst hPI

        refine wpAny_pyIter_list hl1 ?_
        refine wpAny_bind (wpAny_runValue ?_)
        have hlS : l < s.heap.objs.size := Heap.lt_size hol
        have hh3 : A.in1.in1.in1.handled = none := by simp [hh]
        have hz1 : (s.heap.push { cls := .type "set", dict := none, data := .set #[] 0 (.fresh 0 0 (!w.params.followText "set-order")) }).objs.size = s.heap.objs.size + 1 := Heap.size_push ..
        have hneI : l ≠ (s.heap.push { cls := .type "set", dict := none, data := .set #[] 0 (.fresh 0 0 (!w.params.followText "set-order")) }).objs.size := by
          rw [Heap.size_push]; exact Nat.ne_of_lt (Nat.lt_succ_of_lt hlS)
        have hSf : s.heap.objs.size ∉ [(s.heap.push { cls := .type "set", dict := none, data := .set #[] 0 (.fresh 0 0 (!w.params.followText "set-order")) }).objs.size, l] := by
          rw [Heap.size_push]; simp only [List.mem_cons, List.mem_singleton, List.not_mem_nil, or_false, not_or]
          exact ⟨Nat.ne_of_lt (Nat.lt_succ_self _), Nat.ne_of_gt hlS⟩
        have hval : ∀ (i : Nat) (v : Value), items[i]? = some v → ∃ k t, ns[i]? = some k ∧ v = .int k t := fun i v hv => by
          have hi : i < ns.length := by rw [← hisz]; exact (Array.getElem?_eq_some_iff.mp hv).1
          obtain ⟨t, e⟩ := PyProof.Rows.IntsAre.int_at hit i v (by rw [Array.getElem?_toList]; exact hv)
          refine ⟨ns[i], t, List.getElem?_eq_getElem hi, ?_⟩
          rw [e, List.getD_eq_getElem?_getD, List.getElem?_eq_getElem hi] <;> rfl
        refine set_update_ints ((Walks.list hh3 _ l hneI items).toS) s.heap.objs.size
          hSf ns hisz hb hval (items.size - 0) 0 _ (by omega) (Nat.zero_le _)
          ⟨⟨_, Heap.get?_push_size _ rfl, rfl, rfl⟩, (hl1.push _)⟩ ?hS0 ?hR
        case hS0 =>
          have hget : ((s.heap.push { cls := .type "set", dict := none, data := .set #[] 0 (.fresh 0 0 (!w.params.followText "set-order")) }).push { cls := .type "list_iterator", data := .fields #[.ref l, .int 0 0] }).get? s.heap.objs.size
              = some { cls := .type "set", dict := none, data := .set #[] 0 (.fresh 0 0 (!w.params.followText "set-order")) } := Heap.get?_push_of_some _ hS
          exact ⟨0, Nat.le_refl 0, setR_new_at hget⟩
        case hR =>
          intro s' c' hm hc' hS'
          obtain ⟨h', g2, d', tk', os'⟩ := s'
          have eg : g2 = s.gens := hm.gens
          have ed : d' = s.drawn := hm.drawn
          have eo : os' = s.os := hm.os
          subst eg; subst ed; subst eo
          show wpAny _ _ _ _ _ _
          refine wpAny_pure ?_
          show wpAny _ _ (ret Value.none) _ _ _
          rw [hisz] at hc'
          refine wpAny_pure ⟨rfl, h', tk', c', rfl, hS', hc', fun b o e => ?_⟩
          have hb0 : b < s.heap.objs.size := Heap.lt_size e
          have hb1 : b ≠ s.heap.objs.size := Nat.ne_of_lt hb0
          have hb2 : b ≠ (s.heap.push { cls := .type "set", dict := none, data := .set #[] 0 (.fresh 0 0 (!w.params.followText "set-order")) }).objs.size := by
            rw [Heap.size_push]; exact Nat.ne_of_lt (Nat.lt_succ_of_lt hb0)
          exact hm.heap b o (by simp only [List.mem_cons, List.mem_singleton, List.not_mem_nil, or_false, not_or]; exact ⟨hb1, hb2⟩) (Heap.get?_push_of_some _ (Heap.get?_push_of_some _ e))

      · cases r₂ with
        | error e => exact hr₂
        | ok fl₂ =>
          cases fl₂ with
          | ret r =>
            obtain ⟨rfl, h', tk, c', rfl, hS', hc', hk'⟩ := hr₂
            repeat (any_goals (first | assumption | wp_step))
            exact h _ _ _ hS' hc' hk'
          | _ => exact hr₂.elim
    | _ => exact hr.elim

end
theorem insU_mem (i k : Int) : ∀ l : List Int, k ∈ insU i l ↔ k = i ∨ k ∈ l
  | [] => by simp [insU]
  | j :: r => by
    unfold insU
    split
    · simp
    · split
      · rename_i e
        subst e
        simp
      · simp only [List.mem_cons, insU_mem i k r]
        constructor
        · rintro (h | h | h) <;> simp [h]
        · rintro (h | h | h) <;> simp [h]
theorem insU_sorted (i : Int) : ∀ l : List Int, l.Pairwise (· < ·) → (insU i l).Pairwise (· < ·)
  | [], _ => by simp [insU]
  | j :: r, h => by
    have h0 := h
    rw [List.pairwise_cons] at h
    unfold insU
    split
    · rename_i e
      rw [List.pairwise_cons]
      refine ⟨fun k hk => ?_, h0⟩
      rcases List.mem_cons.mp hk with rfl | hk
      · exact e
      · exact Int.lt_trans e (h.1 k hk)
    · split
      · exact h0
      · rename_i e1 e2
        rw [List.pairwise_cons]
        refine ⟨fun k hk => ?_, insU_sorted i r h.2⟩
        rcases (insU_mem i k r).mp hk with rfl | hk
        · omega
        · exact h.1 k hk
theorem setI_mem (k : Int) : ∀ l : List Int, k ∈ setI l ↔ k ∈ l
  | [] => by simp [setI]
  | i :: r => by
    unfold setI
    rw [insU_mem, setI_mem k r, List.mem_cons]
theorem setI_sorted : ∀ l : List Int, (setI l).Pairwise (· < ·)
  | [] => by simp [setI]
  | i :: r => insU_sorted i _ (setI_sorted r)
theorem strict_uniq {l m : List Int} (hl : l.Pairwise (· < ·)) (hm : m.Pairwise (· < ·)) (h : ∀ k, k ∈ l ↔ k ∈ m) : l = m := by
  have nd : ∀ {l : List Int}, l.Pairwise (· < ·) → l.Nodup := fun h => h.imp fun {a b} h => Int.ne_of_lt h
  have le : ∀ {l : List Int}, l.Pairwise (· < ·) → l.Pairwise (· ≤ ·) := fun h => h.imp fun {a b} h => Int.le_of_lt h
  exact sorted_uniq ((List.perm_ext_iff_of_nodup (nd hl) (nd hm)).mpr h) (le hl) (le hm)
def rSetI (K : PySem.W.Frag) (w : World) : List V → Hp → VK → Prop := fun xs H Q => ∃ (l : Addr) (ns : List Int), xs = [V.ref l] ∧ SqL K H l (ns.map V.int) ∧ ns.length + 1 < scanBound ∧
  ∀ a c, H a = none → c = (setI ns).length → Q (.ref a) (upd H a (SetO w a (fun j => decide (j ∈ ns)) c))
theorem setR_count {w : World} {h : Heap} {a : Addr} {ns : List Int} {c : Nat} (R : SetR w h a (fun j => decide (j ∈ ns)) c) : c = (setI ns).length := by
  obtain ⟨o, es, ep, t, ho, hx, hd, g, nd, hm, hb, hf, hn, _⟩ := R
  have nd2 : (setI ns).Nodup := (setI_sorted ns).imp fun {a b} h => Int.ne_of_lt h
  have p : (es.toList.map keyOf).Perm (setI ns) := (List.perm_ext_iff_of_nodup nd nd2).mpr fun k => by
    rw [← hm k, setI_mem]; simp
  have := p.length_eq
  rw [List.length_map, Array.length_toList] at this
  omega
variable {X : Cx}
theorem cr_setI (hc : X.calm = true) : CallR X (.type "set") (rSetI X.K X.w) := by
  intro pins s σ H xs us Q I r h
  obtain ⟨l, ns, rfl, hl, hf, q⟩ := h
  rw [Vals.ref1 r]
  obtain ⟨its, rv, pl, hz⟩ := I.list hl
  have hn : H s.heap.objs.size = none := I.hok.fresh (Nat.le_refl _)
  refine set_listI (P := X.prog) (w := X.w) ns (I.ok.hd hc) pl.isList (by simpa using RZ.intsAre_vals rv) hf fun h' tk c R hc k => ?_
  exact ⟨.ref s.heap.objs.size, upd H s.heap.objs.size (SetO X.w s.heap.objs.size (fun j => decide (j ∈ ns)) c), I.laid (t' := tk) k (Nat.le_refl _) (setO_new R), rfl, q _ c hn (setR_count R)⟩
end TW

set_option Elab.async false
set_option linter.all false
set_option maxRecDepth 100000
set_option maxHeartbeats 2000000
/-! Core5: the compiler of expressions, the readings, the simple rules. -/
namespace TW
open PySem L2

/-! ### the compiler -/
/-- what is known of the module: slots' names, defs (by number), constants, free built-ins -/
structure CC where
  N : List Str
  fns : List Str
  cons : List (Str × T)
  bl : List Str
  exc : List Str := []
  /-- which arguments come to the store as named objects, by def -/
  rfa : List (List Bool) := []
  /-- which slots hold named objects -/
  rfs : List Nat := []
def ixOf (x : Str) : List Str → Nat → Option Nat
  | [], _ => none
  | y :: r, i => if y = x then some i else ixOf x r (i + 1)
theorem ixOf_get {x : Str} : ∀ {l : List Str} {k i : Nat}, ixOf x l k = some i → k ≤ i ∧ l[i - k]? = some x
  | [], _, _, h => by cases h
  | y :: r, k, i, h => by
    unfold ixOf at h
    split at h
    · rename_i e
      cases h
      simp [e]
    · obtain ⟨h1, h2⟩ := ixOf_get h
      refine ⟨by omega, ?_⟩
      rw [show i - k = (i - (k + 1)) + 1 by omega]
      simpa using h2
theorem ixOf_at {x : Str} {l : List Str} {i : Nat} (h : ixOf x l 0 = some i) : l[i]? = some x := by simpa using (ixOf_get h).2
def vis (sc : Scope) (x : Str) : Bool := (match sc.names.lookup x with
  | some .local => true
  | some .cell => true
  | some .free => true
  | _ => false) && (!(x == ("__debug__" : Str)) && !(x == ("__classdict__" : Str)))
def isGl (sc : Scope) (x : Str) : Bool := decide (sc.names.lookup x = some .globalImplicit) && !(x == ("__debug__" : Str))
/-- a built-in that the module has not bound -/
def isB (C : CC) (sc : Scope) (x : Str) : Bool := isGl sc x && C.bl.contains x
def bopOf : Operator → Option Bop
  | .Add => some .add | .Sub => some .sub | .Mult => some .mul | .FloorDiv => some .fdiv | .Mod => some .mod | .LShift => some .shl | .RShift => some .shr
  | .BitAnd => some .band | .BitOr => some .bor | .BitXor => some .bxor | .Pow => some .pow
  | _ => none
def copOf : CmpOp → Option Cop
  | .Eq => some .eq | .NotEq => some .ne | .Lt => some .lt | .LtE => some .le | .Gt => some .gt | .GtE => some .ge | .In => some .inn | .NotIn => some .nin | .Is => some .isN | .IsNot => some .notN
theorem bopOf_py {o : Operator} {b : Bop} (h : bopOf o = some b) : o = b.py := by
  cases o <;> cases h <;> rfl
theorem copOf_py {o : CmpOp} {b : Cop} (h : copOf o = some b) : o = b.py := by
  cases o <;> cases h <;> rfl
/-- a built-in function of one place -/
def bltOf (x : Str) : Option Blt :=
  if x = "len" then some .len else if x = "tuple" then some .tupleOf else if x = "list" then some .listOf else if x = "int" then some .intOf else if x = "abs" then some .abs
  else if x = "sum" then some .sum else if x = "max" then some .maxOf else if x = "min" then some .minOf else if x = "sorted" then some .sortedOf else if x = "any" then some .any
  else if x = "all" then some .all else none
def isOf (x : Str) : Option Blt :=
  if x = "int" then some .isInt else if x = "bool" then some .isBool else if x = "str" then some .isStr else if x = "tuple" then some .isTuple else if x = "list" then some .isList else none
/-- the block's own names -/
def ownOf (N : List Str) (scope : Scope) : List (Str × Nat) := scope.names.filterMap fun y => match y.2 with
  | .local => (ixOf y.1 N 0).map fun i => (y.1, i)
  | .cell => (ixOf y.1 N 0).map fun i => (y.1, i)
  | _ => none
/-- names of a target -/
def tgNames (N : List Str) (ok : Str → Bool) : List Expr → Option (List Nat)
  | [] => some []
  | .Name x _ :: r => if ok x then (match ixOf x N 0, tgNames N ok r with
    | some i, some is => some (i :: is)
    | _, _ => none) else none
  | _ :: _ => none
def cTg (N : List Str) (ok : Str → Bool) : Expr → Option Tg
  | .Name x _ => if ok x then (ixOf x N 0).map .nm else none
  | .Tuple es _ _ => (tgNames N ok es).map .tp
  | _ => none
def Tg.ins (own : List Nat) : Tg → Bool
  | .nm i => own.contains i
  | .tp is => is.all own.contains
/-- several names -/
def Tg.two : Tg → Bool
  | .nm _ => false
  | .tp _ => true
def opt2 {α β γ : Type} (a : Option α) (b : Option β) (f : α → β → γ) : Option γ := match a, b with
  | some x, some y => some (f x y)
  | _, _ => none
def opt3 {α β γ δ : Type} (a : Option α) (b : Option β) (c : Option γ) (f : α → β → γ → δ) : Option δ := match a, b, c with
  | some x, some y, some z => some (f x y z)
  | _, _, _ => none
theorem opt2_some {α β γ : Type} {a : Option α} {b : Option β} {f : α → β → γ} {z : γ} (h : opt2 a b f = some z) : ∃ x y, a = some x ∧ b = some y ∧ z = f x y := by
  unfold opt2 at h
  split at h
  · cases h; exact ⟨_, _, rfl, rfl, rfl⟩
  · cases h
theorem opt3_some {α β γ δ : Type} {a : Option α} {b : Option β} {c : Option γ} {f : α → β → γ → δ} {z : δ} (h : opt3 a b c f = some z) : ∃ x y u, a = some x ∧ b = some y ∧ c = some u ∧ z = f x y u := by
  unfold opt3 at h
  split at h
  · cases h; exact ⟨_, _, _, rfl, rfl, rfl, rfl⟩
  · cases h
def isKey : Option Expr → Bool
  | some _ => true
  | none => false
/-- a display's keys and values by turns -/
def pairUp : List (Option Expr) → List Expr → Option (List Expr)
  | [], [] => some []
  | some k :: ks, v :: vs => (pairUp ks vs).map fun r => k :: v :: r
  | _, _ => none
/-- what is known of a {}: its keys are tuples -/
abbrev DTag := Pos → Bool

def okL (sc : Scope) (x : Str) : Bool := decide (sc.names.lookup x = some .local) || decide (sc.names.lookup x = some .cell)
/-- sorted(set(e)) -/
def setArg (C : CC) (sc : Scope) (x : Str) (a : Expr) : Option Expr := match a with
  | .Call f args kw _ => (match f, args, kw with
    | .Name y _, [e], [] => if x = "sorted" then (if isB C sc y = true then (if y = "set" then some e else none) else none) else none
    | _, _, _ => none)
  | _ => none
theorem setArg_some {C : CC} {sc : Scope} {x : Str} {a e : Expr} (h : setArg C sc x a = some e) : x = "sorted" ∧ ∃ p q, a = .Call (.Name "set" p) [e] [] q ∧ isB C sc "set" = true := by
  unfold setArg at h
  split at h
  · split at h
    · split at h
      · rename_i e1
        split at h
        · rename_i e2
          split at h
          · rename_i e3
            cases h
            subst e3
            exact ⟨e1, _, _, rfl, e2⟩
          · cases h
        · cases h
      · cases h
    · cases h
  · cases h
def mkW (b : Bool) (c : E) : E := if b = true then .mkr c else c
section
variable (C : CC) (dtg : DTag)
mutual
def cE : Nat → Scope → Expr → Option E
  | 0, _, _ => none
  | n + 1, sc, e => match e with
    | .Name x _ => if vis sc x then (ixOf x C.N 0).map .var else if isGl sc x then (C.cons.lookup x).map .con else none
    | .Constant c _ _ => (match c with
      | .int i => some (.con (.int i))
      | .bool b => some (.con (.bl b))
      | .none => some (.con .non)
      | .str x => some (.con (.str x))
      | _ => none)
    | .BinOp a op b _ => (match bopOf op with
      | some o => opt2 (cO n sc a) (cO n sc b) (.bin o)
      | none => none)
    | .UnaryOp op a _ => (match op with
      | .USub => (cE n sc a).map .neg
      | .Not => (cE n sc a).map .not
      | _ => none)
    | .Compare a ops bs _ => (match ops, bs with
      | [op], [b] => if behindInMarks op b then none else (match copOf op with
        | some o => opt2 (cO n sc a) (cO n sc b) (.cmp o)
        | none => none)
      | [op, op'], [b, c] => if lastMarks [op, op'] [b, c] then none else (match copOf op, copOf op' with
        | some o, some o' => opt3 (cO n sc a) (cO n sc b) (cO n sc c) (.chn o o')
        | _, _ => none)
      | _, _ => none)
    | .BoolOp op es _ => (match op with
      | .And => cAnd n sc es
      | .Or => cOr n sc es)
    | .IfExp c a b _ => opt3 (cE n sc c) (cE n sc a) (cE n sc b) .ifx
    | .Tuple es _ _ => (cEs n sc [] es).map .tup
    | .List es _ => (cEs n sc [] es).map .lst
    | .Subscript a b _ => (match b with
      | .Slice lo hi st _ => (match st with
        | none => opt3 (cO n sc a) (cP n sc lo) (cP n sc hi) .sl
        | some st => (match lo, hi, st with
          | none, none, .UnaryOp .USub (.Constant (.int i) _ _) _ => if i = 1 then (cO n sc a).map .rev else none
          | _, _, _ => none))
      | b => opt2 (cO n sc a) (cE n sc b) .ix)
    | .Dict ks vs pos => (match pairUp ks vs with
      | some es => (match es with
        | [] => some (.dct (dtg pos) [])
        | es => if decide (ks.length ≤ 15) then (cEs n sc [] es).map (.dct false) else none)
      | none => none)
    | .Call f args kw _ => (match f, kw with
      | .Name x _, [] => if isGl sc x then (match ixOf x C.fns 0 with
          | some i => (match args with
            | [] => none
            | args => (cEs n sc (C.rfa.getD i []) args).map (.call i))
          | none => if C.bl.contains x then (match args with
            | [a] => (match setArg C sc x a with
              | some e => (cO n sc e).map (.blt .sorSet)
              | none => (match bltOf x with
                | some b => (cO n sc a).map (.blt b)
                | none => none))
            | [a, b] => if x = "isinstance" then (match b with
                | .Name y _ => if isB C sc y then (match isOf y with
                  | some q => (cO n sc a).map (.blt q)
                  | none => none) else none
                | _ => none)
              else if x = "max" then opt2 (cE n sc a) (cE n sc b) (.blt2 .max2)
              else if x = "min" then opt2 (cE n sc a) (cE n sc b) (.blt2 .min2)
              else none
            | _ => none) else none) else none
      | _, _ => none)
    | .ListComp elt gens scope _ => (match gens with
      | [⟨tg, iter, ifs, 0⟩] => if blkC C.N sc scope (ownOf C.N scope) then (match cTg C.N (okL scope) tg with
          | some t => if t.ins ((ownOf C.N scope).map (·.2)) then (match cI n sc t.two iter, cE n (relS scope sc) elt, cIf n (relS scope sc) ifs with
            | some it, some el, some cd => some (.lc ((ownOf C.N scope).map (·.2)) el t it cd)
            | _, _, _ => none) else none
          | none => none) else none
      | _ => none)
    | _ => none
def cO : Nat → Scope → Expr → Option E
  | 0, _, _ => none
  | n + 1, sc, e => match e with
    | .Name x _ => if vis sc x then (ixOf x C.N 0).map .pk else if isGl sc x then (C.cons.lookup x).map .con else none
    | e => cE n sc e
def cEs : Nat → Scope → List Bool → List Expr → Option (List E)
  | 0, _, _, _ => none
  | _ + 1, _, _, [] => some []
  | n + 1, sc, fl, e :: es => opt2 ((cE n sc e).map (mkW (fl.headD false))) (cEs n sc fl.tail es) (· :: ·)
def cAnd : Nat → Scope → List Expr → Option E
  | 0, _, _ => none
  | n + 1, sc, es => match es with
    | [] => none
    | [e] => cE n sc e
    | e :: es => opt2 (cE n sc e) (cAnd n sc es) .and
def cOr : Nat → Scope → List Expr → Option E
  | 0, _, _ => none
  | n + 1, sc, es => match es with
    | [] => none
    | [e] => cE n sc e
    | e :: es => opt2 (cE n sc e) (cOr n sc es) .or
def cP : Nat → Scope → Option Expr → Option (Option E)
  | 0, _, _ => none
  | _ + 1, _, none => some none
  | n + 1, sc, some e => (cE n sc e).map some
def cIf : Nat → Scope → List Expr → Option (Option E)
  | 0, _, _ => none
  | n + 1, sc, es => match es with
    | [] => some none
    | [e] => (cE n sc e).map some
    | _ => none
def cI : Nat → Scope → Bool → Expr → Option It
  | 0, _, _, _ => none
  | n + 1, sc, two, e => match e with
    | .Call f args kw pos => (match f, kw, args with
      | .Name x _, [], [a] => if isB C sc x then (if x = "range" then (cE n sc a).map .rng1 else if x = "enumerate" then (if two then (cO n sc a).map .enum else none)
          else (cO n sc (.Call f args kw pos)).map .seq) else (cO n sc (.Call f args kw pos)).map .seq
      | .Name x _, [], [a, b] => if isB C sc x then (if x = "range" then opt2 (cE n sc a) (cE n sc b) .rng2 else if x = "zip" then (if two then opt2 (cO n sc a) (cO n sc b) .zip else none)
          else (cO n sc (.Call f args kw pos)).map .seq) else (cO n sc (.Call f args kw pos)).map .seq
      | .Name x _, [], [a, b, c] => if isB C sc x then (if x = "range" then opt3 (cE n sc a) (cE n sc b) (cE n sc c) .rng3 else (cO n sc (.Call f args kw pos)).map .seq) else (cO n sc (.Call f args kw pos)).map .seq
      | _, _, _ => (cO n sc (.Call f args kw pos)).map .seq)
    | .Set _ _ _ => none
    | e => (cO n sc e).map .seq
end
end

/-! ### readings -/
theorem peImp {X : Cx} {e : Expr} {t t' : TE} (h : PE X e t) (q : ∀ σ H Q, t' σ H Q → t σ H Q) : PE X e t' := ⟨fun pins s σ H Q I z => h.run pins s σ H Q I (q σ H Q z)⟩
theorem ptImp {X : Cx} {e : Expr} {t t' : TT} (h : PT X e t) (q : ∀ σ H Q, t' σ H Q → t σ H Q) : PT X e t' := ⟨fun pins s σ H Q I z => h.run pins s σ H Q I (q σ H Q z)⟩
theorem pwImp {X : Cx} {e : Expr} {t t' : TT} (h : PW X e t) (q : ∀ σ H Q, t' σ H Q → t σ H Q) : PW X e t' := ⟨fun whole pins s σ H Q I z => h.run whole pins s σ H Q I (q σ H Q z)⟩
theorem paImp {X : Cx} {e : List Expr} {t t' : TA} (h : PA X e t) (q : ∀ σ H Q, t' σ H Q → t σ H Q) : PA X e t' := ⟨fun pos pins s σ H Q I z => h.run pos pins s σ H Q I (q σ H Q z)⟩
theorem poImp {X : Cx} {e : Option Expr} {t t' : TO} (h : PO X e t) (q : ∀ σ H Q, t' σ H Q → t σ H Q) : PO X e t' := ⟨fun pins s σ H Q I z => h.run pins s σ H Q I (q σ H Q z)⟩
theorem piImp {X : Cx} {tg e : Expr} {t t' : TI} (h : PI X tg e t) (q : ∀ σ H Q, t' σ H Q → t σ H Q) : PI X tg e t' := ⟨fun pins s σ H Q I z => h.run pins s σ H Q I (q σ H Q z)⟩
theorem psImp {X : Cx} {e : Stmt} {t t' : TS} (h : PS X e t) (q : ∀ D σ H, t' D σ H → t D σ H) : PS X e t' := ⟨fun pins s σ H D I z => h.run pins s σ H D I (q D σ H z)⟩
theorem pssImp {X : Cx} {e : List Stmt} {t t' : TS} (h : PSs X e t) (q : ∀ D σ H, t' D σ H → t D σ H) : PSs X e t' := ⟨fun pins s σ H D I z => h.run pins s σ H D I (q D σ H z)⟩
theorem ptsImp {X : Cx} {e : List Expr} {t t' : TT} (h : PTs X e t) (q : ∀ σ H Q, t' σ H Q → t σ H Q) : PTs X e t' := ⟨fun pins s σ H Q I z => h.run pins s σ H Q I (q σ H Q z)⟩

/-- how an exception is wished for, whatever the slots -/
abbrev WX0 := XK
section
variable (K : PySem.W.Frag) (P : Pm) (XX : XR) (W : WX)
/-- the outcome r of the frame env, st, by the kind k -/
def Can {α β : Type} (k : Kd α β) (r : Env → Sto → R α) (σ : L2.St) (H : Hp) (Q : β → Hp → Prop) : Prop :=
  ∃ (H0 : Hp) (ρ0 : List Addr) (Z0 : Addr → Prop) (env : Env) (st : Sto) (ρ : List Addr) (Z : Addr → Prop), Rel K P H0 ρ0 Z0 env st σ H ρ Z ∧ Wp K P XX k (r env st) H ρ Z Q (fun cls d H' => W cls d σ H')
variable (G : Nat → List T → Sto → R Ow)
abbrev canE (c : E) : TE := Can K P XX W (kOw K P) fun env st => evE P G env c st
abbrev canF (c : E) : TE := Can K P XX W (kT K P) fun env st => frzR (evE P G env c st)
abbrev canO (c : E) : TE := Can K P XX W (kQ K P) fun env st => opd env c (evE P G env c st) st
abbrev canB (c : E) : TT := Can K P XX W (kEq Bool) fun env st => evC P G env (some c) st
abbrev canC (c : Option E) : TT := Can K P XX W (kEq Bool) fun env st => evC P G env c st
abbrev canA (c : List E) : TA := Can K P XX W (kTs K P) fun env st => evEs P G env c st
abbrev canP (c : Option E) : TO := Can K P XX W (kEq (Option Int)) fun env st => evO P G env c st
end

section
variable {K : PySem.W.Frag} {P : Pm} {XX : XR} {W : WX} {G : Nat → List T → Sto → R Ow} {X : Cx}
theorem kQ_rel {K : PySem.W.Frag} {P : Pm} {H : Hp} {t : T} {v : V} {H' : Hp} {Z' : Addr → Prop} {ρ' : List Addr} : (kQ K P).rel H t v H' Z' ρ' = RQ K P H' Z' ρ' t v := rfl
/-- an owned result, frozen -/
theorem Wp.frz {r : R Ow} {H : Hp} {ρ : List Addr} {Z : Addr → Prop} {Q : VK} {E : XK} (h : Wp K P XX (kT K P) (frzR r) H ρ Z Q E) : Wp K P XX (kOw K P) r H ρ Z Q E := by
  cases r with
  | ok w s =>
    intro v H' ρ' Z' h1 h2 h3
    cases w with
    | val t => exact h v H' ρ' Z' h1 h2 h3
    | own o =>
      obtain ⟨a, rfl, r, hn, hz, hr⟩ := h1
      refine h (.ref a) H' ρ' (fun b => Z' b ∨ b = a) ?_ (h2.fz hr r.ne) (Nx.fz hn h3)
      exact (r.keep (⟨fun _ _ q _ => q, fun _ q => .inl q, [], by simp⟩ : Kp H' ρ' Z' H' ρ' (fun b => Z' b ∨ b = a)) rfl).frz (.inr rfl)
  | exn x s => exact h
  | bad => exact h
theorem Wp.opr {r : R Ow} {H : Hp} {ρ : List Addr} {Z : Addr → Prop} {Q : VK} {E : XK} (h : Wp K P XX (kQ K P) (frzR r) H ρ Z Q E) : Wp K P XX (kOw K P) r H ρ Z Q E := by
  cases r with
  | ok w s => exact fun v H' ρ' Z' h1 h2 h3 => h v H' ρ' Z' (RW.rq h1) h2 h3
  | exn x s => exact h
  | bad => exact h
theorem canF_E {c : E} {σ : L2.St} {H : Hp} {Q : VK} (h : canF K P XX W G c σ H Q) : canE K P XX W G c σ H Q := by
  obtain ⟨H0, ρ0, Z0, env, st, ρ, Z, r, w⟩ := h
  exact ⟨H0, ρ0, Z0, env, st, ρ, Z, r, w.frz⟩
theorem peFrz {e : Expr} {c : E} (h : PE X e (canE K P XX W G c)) : PE X e (canF K P XX W G c) := peImp h fun _ _ _ => canF_E
theorem peOpr {e : Expr} {c : E} (h : PE X e (canE K P XX W G c)) (hc : ∀ i, c ≠ .pk i) : PE X e (canO K P XX W G c) := peImp h fun σ H Q z => by
  obtain ⟨H0, ρ0, Z0, env, st, ρ, Z, r, w⟩ := z
  refine ⟨H0, ρ0, Z0, env, st, ρ, Z, r, Wp.opr ?_⟩
  cases c <;> first | exact w | exact absurd rfl (hc _)
/-- one part, then the rest -/
theorem Can.bind {α β γ δ : Type} {k : Kd α β} {k2 : Kd γ δ} {r : Env → Sto → R α} {r2 : Env → Sto → R γ} {f : Env → α → Sto → R γ} {σ : L2.St} {H : Hp} {Q : δ → Hp → Prop} {Q' : β → Hp → Prop}
    (h : Can K P XX W k2 r2 σ H Q) (e : ∀ env st, r2 env st = (r env st).bind (f env))
    (q : ∀ H0 ρ0 Z0 env a s b H' ρ' Z', k.rel H a b H' Z' ρ' → Rel K P H0 ρ0 Z0 env s σ H' ρ' Z' → Wp K P XX k2 (f env a s) H' ρ' Z' Q (fun cls d H' => W cls d σ H') → Q' b H') : Can K P XX W k r σ H Q' := by
  obtain ⟨H0, ρ0, Z0, env, st, ρ, Z, R, w⟩ := h
  rw [e] at w
  exact ⟨H0, ρ0, Z0, env, st, ρ, Z, R, w.bind fun a s b H' ρ' Z' h1 h2 h3 h4 => q H0 ρ0 Z0 env a s b H' ρ' Z' h1 (R.step h3 h2) h4⟩
/-- two parts, the first one an operand (or what keeps): then the rest -/
theorem Can.bind2 {γ δ : Type} {k1 : Kd T V} {k2 : Kd T V} {k3 : Kd γ δ} {r1 r2 : Env → Sto → R T} {r3 : Env → Sto → R γ} {f : Env → T → T → Sto → R γ} {σ : L2.St} {H : Hp} {Q : δ → Hp → Prop} {Q' : V → V → Hp → Prop}
    (kk : ∀ H a b H' Z' ρ', k1.rel H a b H' Z' ρ' → RQ K P H' Z' ρ' a b) (kk2 : ∀ H a b H' Z' ρ', k2.rel H a b H' Z' ρ' → RQ K P H' Z' ρ' a b)
    (h : Can K P XX W k3 r3 σ H Q) (e : ∀ env st, r3 env st = (r1 env st).bind fun x s1 => (r2 env s1).bind fun y s2 => f env x y s2)
    (q : ∀ H0 ρ0 Z0 env x y s v u H' ρ' Z', RQ K P H' Z' ρ' x v → RQ K P H' Z' ρ' y u → Rel K P H0 ρ0 Z0 env s σ H' ρ' Z' → Wp K P XX k3 (f env x y s) H' ρ' Z' Q (fun cls d H' => W cls d σ H') → Q' v u H') :
    Can K P XX W k1 r1 σ H fun v H1 => Can K P XX W k2 r2 σ H1 fun u H2 => Q' v u H2 :=
  Can.bind h e fun H0 ρ0 Z0 env a s b H1 ρ1 Z1 h1 R1 w1 => ⟨H0, ρ0, Z0, env, s, ρ1, Z1, R1, w1.bind fun y s2 u H2 ρ2 Z2 h2 S2 n2 w2 =>
    q H0 ρ0 Z0 env a y s2 b u H2 ρ2 Z2 ((kk _ _ _ _ _ _ h1).keep n2) (kk2 _ _ _ _ _ _ h2) (R1.step n2 S2) w2⟩
end
end TW

set_option Elab.async false
set_option linter.all false
set_option maxRecDepth 100000
set_option maxHeartbeats 4000000
/-! Core6: the rules for compiled expressions. -/
namespace TW
open PySem L2

/-- a def's promise: what the evaluator says -/
def spOf (K : PySem.W.Frag) (P : Pm) (XX : XR) (g : List T → Sto → R Ow) (np : Nat) : Sp := fun vs H Q E => vs.length = np ∧ ∃ (ts : List T) (st : Sto) (ρ : List Addr) (Z : Addr → Prop),
  RTs K P H Z ρ ts vs ∧ RelS K P st H ρ Z ∧ Wp K P XX (kOw K P) (g ts st) H ρ Z Q E
/-- where code runs -/
structure Ctx (K : PySem.W.Frag) (P : Pm) (XX : XR) (C : CC) (G : Nat → List T → Sto → R Ow) (n : Nat) (X : Cx) (W : WX) : Prop where
  K : X.K = K
  N : X.N = C.N
  calm : X.calm = true
  nd : X.N.Nodup
  tk : Takes X W
  po : PassesOwn (model X.prog X.w) X.A X.env X.xe
  room : Room n X.A
  fns : ∀ i x, C.fns[i]? = some x → ∃ f fd ps np, X.mg x = some (.ref f) ∧ PySem.W.keepIn X.K (.ref f) = true ∧ Binds X.K fd ps [] ∧ FnOk X.prog X.w X.K X.mg X.base (L2.CX X.prog X.w) n f fd ps (spOf X.K P XX (G i) np) ∧ (∀ ts st, ts.length ≠ np → G i ts st = .bad)
  bl : ∀ x ∈ C.bl, X.mg x = none
  cons : ∀ x t, C.cons.lookup x = some t → ∃ u v, X.mg x = some u ∧ RelV v u ∧ ∀ H Z ρ, RT X.K P H Z ρ t v
  exc : ∀ i x, C.exc[i]? = some x → ∃ Ca, X.mg x = some (.ref Ca) ∧ PySem.W.excIn X.K Ca HandSPX.veTail "ValueError.__new__" = true ∧ PySem.W.keepIn X.K (.ref Ca) = true ∧ Raises X (.ref Ca) ∧ ∀ H Z ρ, XX ⟨i, none⟩ (.ref Ca) none H Z ρ

section
variable {K : PySem.W.Frag} {P : Pm} {XX : XR} {W : WX} {G : Nat → List T → Sto → R Ow} {X : Cx} {C : CC} {n : Nat}
theorem Ctx.hu (c : Ctx K P XX C G n X W) : X.A.units + 65 < cLine := by
  have := c.room.un
  omega
theorem vis_ok {sc : Scope} {x : Str} (h : vis sc x = true) : Vis sc x ∧ (x == ("__debug__" : Str)) = false ∧ (x == ("__classdict__" : Str)) = false := by
  unfold vis at h
  simp only [Bool.and_eq_true, Bool.not_eq_true'] at h
  refine ⟨?_, h.2.1, h.2.2⟩
  have h1 := h.1
  unfold Vis
  split at h1
  · rename_i e; exact .inl e
  · rename_i e; exact .inr (.inl e)
  · rename_i e; exact .inr (.inr e)
  · cases h1
theorem gl_ok {sc : Scope} {x : Str} (h : isGl sc x = true) (e : X.env.scope = sc) : Gl X x ∧ (x == ("__debug__" : Str)) = false := by
  unfold isGl at h
  simp only [Bool.and_eq_true, Bool.not_eq_true', decide_eq_true_eq] at h
  refine ⟨?_, h.2⟩
  show X.env.scope.names.lookup x = _
  rw [e]; exact h.1
theorem b_ok {sc : Scope} {x : Str} (c : Ctx K P XX C G n X W) (h : isB C sc x = true) (e : X.env.scope = sc) : Gl X x ∧ (x == ("__debug__" : Str)) = false ∧ X.mg x = none := by
  unfold isB at h
  obtain ⟨h1, h2⟩ := Bool.and_eq_true_iff.mp h
  obtain ⟨h3, h4⟩ := gl_ok (X := X) h1 e
  exact ⟨h3, h4, c.bl x (by simpa using h2)⟩

/-! ### leaves -/
theorem se_con {e : Expr} {t : T} {v : V} (h : PE X e (tC v)) (hK : X.K = K) (r : ∀ H Z ρ, RT K P H Z ρ t v) : PE X e (canE K P XX W G (.con t)) := peImp h fun σ H Q z => by
  obtain ⟨H0, ρ0, Z0, env, st, ρ, Z, F, w⟩ := z
  exact w v H ρ Z (r H Z ρ) F.sto Nx.refl
theorem se_var {x : Str} {pos : Pos} {i : Nat} (hN : X.N[i]? = some x) (hv : Vis X.env.scope x) (hd : (x == ("__debug__" : Str)) = false) (hc : (x == ("__classdict__" : Str)) = false) : PE X (.Name x pos) (canE K P XX W G (.var i)) :=
  peImp (pe_var hN hv hd hc) fun σ H Q z => by
  obtain ⟨H0, ρ0, Z0, env, st, ρ, Z, F, w⟩ := z
  obtain ⟨a, e, w⟩ := Wp.get (show Wp K P XX (kOw K P) (R.of ((slotT env[i]?).map .val) st) H ρ Z Q _ from w)
  obtain ⟨t, e1, e2⟩ := Option.map_eq_some_iff.mp e
  subst e2
  cases es : env[i]? with
  | none => rw [es] at e1; cases e1
  | some s =>
    rw [es] at e1
    cases s with
    | val u =>
      cases e1
      obtain ⟨v, h1, h2⟩ := F.val i _ es
      exact ⟨v, h1, w v H ρ Z h2 F.sto Nx.refl⟩
    | _ => cases e1
theorem se_pk {x : Str} {pos : Pos} {i : Nat} (hN : X.N[i]? = some x) (hv : Vis X.env.scope x) (hd : (x == ("__debug__" : Str)) = false) (hc : (x == ("__classdict__" : Str)) = false) : PE X (.Name x pos) (canO K P XX W G (.pk i)) :=
  peImp (pe_var hN hv hd hc) fun σ H Q z => by
  obtain ⟨H0, ρ0, Z0, env, st, ρ, Z, F, w⟩ := z
  obtain ⟨t, e, w⟩ := Wp.get (show Wp K P XX (kQ K P) (R.of (slotP env[i]?) st) H ρ Z Q _ from w)
  obtain ⟨v, h1, h2⟩ := F.peek e
  exact ⟨v, h1, w v H ρ Z h2 F.sto Nx.refl⟩

/-! ### two parts -/
theorem kQ_q : ∀ H a b H' Z' ρ', (kQ K P).rel H a b H' Z' ρ' → RQ K P H' Z' ρ' a b := fun _ _ _ _ _ _ h => h
theorem kT_q : ∀ H a b H' Z' ρ', (kT K P).rel H a b H' Z' ρ' → RQ K P H' Z' ρ' a b := fun _ _ _ _ _ _ h => .inl h
theorem se_bin {a b : Expr} {ca cb : E} {op : Bop} {pos : Pos} (hK : X.K = K) (ha : PE X a (canO K P XX W G ca)) (hb : PE X b (canO K P XX W G cb)) : PE X (.BinOp a op.py b pos) (canE K P XX W G (.bin op ca cb)) := by
  subst hK
  refine peImp (pe_op (op_binT (P := P) (XX := XX) op) ha hb) fun σ H Q z => ?_
  exact Can.bind2 (k1 := kQ X.K P) (k2 := kQ X.K P) (k3 := kOw X.K P) (f := fun env x y s2 => R.of (opBin s2 op x y) s2) kQ_q kQ_q z (fun env st => rfl)
    fun H0 ρ0 Z0 env x y s v u H' ρ' Z' hx hy F w => ⟨s, ρ', Z', x, y, _, F.sto, hx, hy, w⟩
theorem se_cmp {a b : Expr} {ca cb : E} {op : Cop} {pos : Pos} (hK : X.K = K) (hu : X.A.units + 65 < cLine) (ha : PE X a (canO K P XX W G ca)) (hb : PE X b (canO K P XX W G cb)) (hm : behindInMarks op.py b = false) :
    PE X (.Compare a [op.py] [b] pos) (canE K P XX W G (.cmp op ca cb)) := by
  subst hK
  refine peImp (pe_cmpR (op_cmpT (P := P) (XX := XX) hu op) ha hb hm) fun σ H Q z => ?_
  exact Can.bind2 (k1 := kQ X.K P) (k2 := kQ X.K P) (k3 := kOw X.K P) (f := fun env x y s2 => R.of ((opCmp P s2 op x y).map fun k => .val (.bl k)) s2) kQ_q kQ_q z (fun env st => rfl)
    fun H0 ρ0 Z0 env x y s v u H' ρ' Z' hx hy F w => ⟨s, ρ', Z', x, y, _, F.sto, hx, hy, w⟩
theorem se_ix {a b : Expr} {ca cb : E} {pos : Pos} (hK : X.K = K) (hu : X.A.units + 65 < cLine) (ha : PE X a (canO K P XX W G ca)) (hb : PE X b (canE K P XX W G cb)) (hs : PlainIx b) :
    PE X (.Subscript a b pos) (canE K P XX W G (.ix ca cb)) := by
  subst hK
  refine peImp (pe_ix (ix_T (P := P) (XX := XX) hu) ha (peFrz hb) hs) fun σ H Q z => ?_
  exact Can.bind2 (k1 := kQ X.K P) (k2 := kT X.K P) (k3 := kOw X.K P) (f := fun env x y s2 => R.of ((ixT P s2 x y).map .val) s2) kQ_q kT_q z (fun env st => rfl)
    fun H0 ρ0 Z0 env x y s v u H' ρ' Z' hx hy F w => ⟨s, ρ', Z', x, y, _, F.sto, hx, hy, w⟩
theorem se_neg {a : Expr} {ca : E} {pos : Pos} (ha : PE X a (canE K P XX W G ca)) : PE X (.UnaryOp .USub a pos) (canE K P XX W G (.neg ca)) := by
  refine peImp (pe_un un_neg (peFrz ha)) fun σ H Q z => ?_
  refine Can.bind (k := kT K P) (f := fun env x s1 => R.of ((int? x).map fun i => .val (.int (-i))) s1) z (fun env st => rfl) fun H0 ρ0 Z0 env x s v H' ρ' Z' hx F w => ?_
  obtain ⟨a, e, w⟩ := w.get
  obtain ⟨i, e1, e2⟩ := Option.map_eq_some_iff.mp e
  subst e2
  cases x <;> cases e1
  cases hx
  exact ⟨_, rfl, w (.int _) H' ρ' Z' (RT.int _) F.sto Nx.refl⟩
/-- a bool, as a value -/
theorem bool_rt {H : Hp} {Z : Addr → Prop} {ρ : List Addr} {x : T} {v : V} {k : Bool} (h : RT K P H Z ρ x v) (e : bool? x = some k) : v = .bl k := by
  cases x <;> cases e
  cases h; rfl
theorem se_not {a : Expr} {ca : E} {pos : Pos} (ha : PE X a (canE K P XX W G ca)) : PE X (.UnaryOp .Not a pos) (canE K P XX W G (.not ca)) := by
  refine peImp (pe_not (peFrz ha)) fun σ H Q z => ?_
  refine Can.bind (k := kT K P) (f := fun env x s1 => R.of ((bool? x).map fun k => .val (.bl (!k))) s1) z (fun env st => rfl) fun H0 ρ0 Z0 env x s v H' ρ' Z' hx F w => ?_
  obtain ⟨a, e, w⟩ := w.get
  obtain ⟨k, e1, e2⟩ := Option.map_eq_some_iff.mp e
  subst e2
  cases bool_rt hx e1
  exact ⟨_, rfl, w (.bl _) H' ρ' Z' (RT.bl _) F.sto Nx.refl⟩
theorem se_and {a b : Expr} {rest : List Expr} {ca cb : E} {pos : Pos} (ha : PE X a (canE K P XX W G ca)) (hb : PE X (.BoolOp .And (b :: rest) pos) (canE K P XX W G cb)) : PE X (.BoolOp .And (a :: b :: rest) pos) (canE K P XX W G (.and ca cb)) := by
  refine peImp (pe_and (peFrz ha) hb) fun σ H Q z => ?_
  refine Can.bind (k := kT K P) (f := fun env x s1 => (R.of (bool? x) s1).bind fun k s1 => if k = true then evE P G env cb s1 else .ok (.val (.bl false)) s1) z (fun env st => rfl) fun H0 ρ0 Z0 env x s v H' ρ' Z' hx F w => ?_
  cases e1 : bool? x with
  | none => rw [e1] at w; exact w.elim
  | some k =>
    rw [e1] at w
    cases bool_rt hx e1
    refine ⟨k, rfl, ?_⟩
    cases k with
    | true => exact ⟨H0, ρ0, Z0, env, s, ρ', Z', F, w⟩
    | false => exact w (.bl false) H' ρ' Z' (RT.bl _) F.sto Nx.refl
theorem se_or {a b : Expr} {rest : List Expr} {ca cb : E} {pos : Pos} (ha : PE X a (canE K P XX W G ca)) (hb : PE X (.BoolOp .Or (b :: rest) pos) (canE K P XX W G cb)) : PE X (.BoolOp .Or (a :: b :: rest) pos) (canE K P XX W G (.or ca cb)) := by
  refine peImp (pe_or (peFrz ha) hb) fun σ H Q z => ?_
  refine Can.bind (k := kT K P) (f := fun env x s1 => (R.of (bool? x) s1).bind fun k s1 => if k = true then .ok (.val (.bl true)) s1 else evE P G env cb s1) z (fun env st => rfl) fun H0 ρ0 Z0 env x s v H' ρ' Z' hx F w => ?_
  cases e1 : bool? x with
  | none => rw [e1] at w; exact w.elim
  | some k =>
    rw [e1] at w
    cases bool_rt hx e1
    refine ⟨k, rfl, ?_⟩
    cases k with
    | true => exact w (.bl true) H' ρ' Z' (RT.bl _) F.sto Nx.refl
    | false => exact ⟨H0, ρ0, Z0, env, s, ρ', Z', F, w⟩
theorem se_ifx {c a b : Expr} {cc ca cb : E} {pos : Pos} (hc : PT X c (canB K P XX W G cc)) (ha : PE X a (canE K P XX W G ca)) (hb : PE X b (canE K P XX W G cb)) : PE X (.IfExp c a b pos) (canE K P XX W G (.ifx cc ca cb)) := by
  refine peImp (pe_ifExp hc ha hb) fun σ H Q z => ?_
  refine Can.bind (k := kEq Bool) (r := fun env st => evC P G env (some cc) st) (f := fun env k s1 => if k = true then evE P G env ca s1 else evE P G env cb s1) z (fun env st => ?_) fun H0 ρ0 Z0 env x s v H' ρ' Z' hx F w => ?_
  · simp only [evE, evC, R.bind]
    cases frzR (evE P G env cc st) <;> rfl
  · cases hx
    cases x with
    | true => exact ⟨H0, ρ0, Z0, env, s, ρ', Z', F, w⟩
    | false => exact ⟨H0, ρ0, Z0, env, s, ρ', Z', F, w⟩
theorem se_tup {es : List Expr} {cs : List E} {k : Nat} {pos : Pos} (ha : PA X es (canA K P XX W G cs)) : PE X (.Tuple es k pos) (canE K P XX W G (.tup cs)) := by
  refine peImp (pe_tup ha) fun σ H Q z => ?_
  refine Can.bind (k := kTs K P) (f := fun env xs s1 => if fits xs.length then .ok (.val (.tup xs)) s1 else .bad) z (fun env st => rfl) fun H0 ρ0 Z0 env ts s xs H' ρ' Z' hx F w => ?_
  have hx : RTs K P H' Z' ρ' ts xs := hx
  split at w
  · rename_i hz
    exact ⟨by rw [← hx.length]; exact fits_le hz, fun p hp => Wp.newT w F.sto hx hp⟩
  · exact w.elim
theorem se_lst {es : List Expr} {cs : List E} {pos : Pos} (ha : PA X es (canA K P XX W G cs)) : PE X (.List es pos) (canE K P XX W G (.lst cs)) := by
  refine peImp (pe_lst ha) fun σ H Q z => ?_
  refine Can.bind (k := kTs K P) (f := fun env xs s1 => if fits xs.length then .ok (.own (.lst xs)) s1 else .bad) z (fun env st => rfl) fun H0 ρ0 Z0 env ts s xs H' ρ' Z' hx F w => ?_
  have hx : RTs K P H' Z' ρ' ts xs := hx
  split at w
  · rename_i hz
    exact ⟨by rw [← hx.length]; exact fits_le hz, fun p hp => Wp.newL w F.sto hx hp⟩
  · exact w.elim
theorem sa_nil : PA X [] (canA K P XX W G []) := paImp pa_nil fun σ H Q z => by
  obtain ⟨H0, ρ0, Z0, env, st, ρ, Z, F, w⟩ := z
  exact w [] H ρ Z .nil F.sto Nx.refl
theorem sa_cons {e : Expr} {es : List Expr} {c : E} {cs : List E} (he : PE X e (canE K P XX W G c)) (hs : PA X es (canA K P XX W G cs)) (hst : starEach (e :: es) X.env = (false, eval e X.env) :: starEach es X.env) : PA X (e :: es) (canA K P XX W G (c :: cs)) :=
  paImp (pa_cons (peFrz he) hs hst) fun σ H Q z => by
  refine Can.bind (k := kT K P) (f := fun env x s1 => (evEs P G env cs s1).bind fun xs s2 => .ok (x :: xs) s2) z (fun env st => rfl) fun H0 ρ0 Z0 env x s v H' ρ' Z' hx F w => ?_
  refine ⟨H0, ρ0, Z0, env, s, ρ', Z', F, w.bind fun xs s2 vs H2 ρ2 Z2 h2 S2 n2 w2 => ?_⟩
  exact w2 (v :: vs) H2 ρ2 Z2 (RTs.cons (RT.keep n2.kp _ _ hx) h2) S2 Nx.refl
theorem sp_none : PO X none (canP K P XX W G none) := poImp po_none fun σ H Q z => by
  obtain ⟨H0, ρ0, Z0, env, st, ρ, Z, F, w⟩ := z
  exact w none H ρ Z rfl F.sto Nx.refl
theorem sp_some {e : Expr} {c : E} (he : PE X e (canE K P XX W G c)) : PO X (some e) (canP K P XX W G (some c)) := poImp (po_some (peFrz he)) fun σ H Q z => by
  refine Can.bind (k := kT K P) (f := fun env x s1 => R.of ((int? x).map some) s1) z (fun env st => rfl) fun H0 ρ0 Z0 env x s v H' ρ' Z' hx F w => ?_
  obtain ⟨a, e, w⟩ := w.get
  obtain ⟨i, e1, e2⟩ := Option.map_eq_some_iff.mp e
  subst e2
  cases x <;> cases e1
  cases hx
  exact ⟨_, rfl, w _ H' ρ' Z' rfl F.sto Nx.refl⟩
theorem se_sl {a : Expr} {lo hi : Option Expr} {ca : E} {cl ch : Option E} {pos p2 : Pos} (hK : X.K = K) (ha : PE X a (canO K P XX W G ca)) (hl : PO X lo (canP K P XX W G cl)) (hh : PO X hi (canP K P XX W G ch)) :
    PE X (.Subscript a (.Slice lo hi none p2) pos) (canE K P XX W G (.sl ca cl ch)) := by
  subst hK
  refine peImp (pe_slice (sl_T (P := P) (XX := XX)) ha hl hh) fun σ H Q z => ?_
  refine Can.bind (k := kQ X.K P) (f := fun env x s1 => (evO P G env cl s1).bind fun l s2 => (evO P G env ch s2).bind fun h s3 => R.of (slT s3 x l h) s3) z (fun env st => rfl) fun H0 ρ0 Z0 env x s v H' ρ' Z' hx F w => ?_
  refine ⟨H0, ρ0, Z0, env, s, ρ', Z', F, w.bind fun l s2 l' H2 ρ2 Z2 h2 S2 n2 w2 => ?_⟩
  cases h2
  have F2 := F.step n2 S2
  refine ⟨H0, ρ0, Z0, env, s2, ρ2, Z2, F2, w2.bind fun h s3 h' H3 ρ3 Z3 h3 S3 n3 w3 => ?_⟩
  cases h3
  exact ⟨s3, ρ3, Z3, x, _, S3, (RQ.keep (RQ.keep hx n2) n3), w3⟩

theorem se_rev {a : Expr} {ca : E} {k : Nat} {p1 p2 p3 pos : Pos} (hK : X.K = K) (ha : PE X a (canO K P XX W G ca)) :
    PE X (.Subscript a (.Slice none none (some (.UnaryOp .USub (.Constant (.int 1) k p1) p2)) p3) pos) (canE K P XX W G (.rev ca)) := by
  subst hK
  refine peImp (pe_rev ha) fun σ H Q z => ?_
  refine Can.bind (k := kQ X.K P) (f := fun env x s1 => R.of (revT s1 x) s1) z (fun env st => rfl) fun H0 ρ0 Z0 env x s v H' ρ' Z' hx F w => ?_
  obtain ⟨o, e, w⟩ := w.get
  unfold revT at e
  split at e
  · cases e
    obtain ⟨a, xs, rfl, h1, h2⟩ := hx.tup
    exact .inr ⟨a, xs, rfl, h1, fun p hp => w.newT F.sto h2.rev hp⟩
  · obtain ⟨ts, e2, ek⟩ := Option.map_eq_some_iff.mp e
    subst ek
    obtain ⟨a, xs, rfl, h1, h2⟩ := hx.lst F.sto e2
    exact .inl ⟨a, xs, rfl, SqL.of h1, fun p hp => w.newL F.sto h2.rev hp⟩
/-! ### a new object with a name -/
/-- a new object comes to the store -/
theorem Wp.mkr {r : R Ow} {Q : VK} {E : XK} (h : Wp K P XX (kOw K P) (r.bind fun w s1 => (match w with
      | .own o => .ok (.val (.ref s1.length)) (s1 ++ [o])
      | .val t => .ok (.val t) s1)) H ρ Z Q E) (hr : ∀ {a : Addr}, a ∈ ρ → H a ≠ none) : Wp K P XX (kOw K P) r H ρ Z Q E := by
  cases r with
  | exn x s => exact h
  | bad => exact h
  | ok w s =>
    intro v H' ρ' Z' hw S nx
    cases w with
    | val t => exact h v H' ρ' Z' hw S nx
    | own o =>
      obtain ⟨a, rfl, h1, h2, h3, h4⟩ := hw
      have kp : Kp H' ρ' Z' H' (ρ' ++ [a]) Z' := ⟨fun _ _ q _ => q, fun _ q => q, [a], rfl⟩
      have S2 : RelS K P (s ++ [o]) H' (ρ' ++ [a]) Z' := by
        refine ⟨by simp [S.len], ?_, fun m o' e => ?_, fun b hb => ?_, S.zh⟩
        · rw [List.nodup_append]
          refine ⟨S.nd, by simp, fun b hb c hc => ?_⟩
          have : c = a := by simpa using hc
          subst this
          exact fun e => h4 (e ▸ hb)
        · by_cases hm : m < s.length
          · rw [List.getElem?_append_left hm] at e
            obtain ⟨b, q1, q2⟩ := S.at_ m o' e
            exact ⟨b, by rw [List.getElem?_append_left (by rw [S.len]; exact hm)]; exact q1, q2.keep kp rfl⟩
          · have hm2 : m = s.length := by
              have := (List.getElem?_eq_some_iff.mp e).1
              simp at this; omega
            subst hm2
            simp at e
            subst e
            exact ⟨a, by rw [← S.len]; simp, h1.keep kp rfl⟩
        · rcases List.mem_append.mp hb with hb | hb
          · exact S.nz b hb
          · have : b = a := by simpa using hb
            subst this; exact h3
      refine h (.ref a) H' (ρ' ++ [a]) Z' (RT.ref (by rw [← S.len]; simp)) S2 ?_
      obtain ⟨ex, e, f⟩ := nx.rho
      exact ⟨nx.ext, nx.there, nx.imm, nx.zin, nx.znew, ex ++ [a], by rw [e, List.append_assoc], fun b hb => by
        rcases List.mem_append.mp hb with hb | hb
        · exact f b hb
        · have : b = a := by simpa using hb
          subst this; exact h2⟩
theorem mkr_imp {c : E} {σ : L2.St} {H : Hp} {Q : VK} (z : canE K P XX W G (.mkr c) σ H Q) : canE K P XX W G c σ H Q := by
  obtain ⟨H0, ρ0, Z0, env, st, ρ, Z, F, w⟩ := z
  refine ⟨H0, ρ0, Z0, env, st, ρ, Z, F, Wp.mkr w fun ha => ?_⟩
  obtain ⟨o, r⟩ := F.sto.obj ha
  exact r.ne
/-! ### calls -/
theorem se_blt {x : Str} {a : Expr} {ca : E} {b : Blt} {p pos : Pos} (hK : X.K = K)
    (hp : ∀ {t : TA}, PA X [a] t → PE X (.Call (.Name x p) [a] [] pos) (tCB (rBlt X.K P XX b) t)) (ha : PE X a (canO K P XX W G ca)) (hst : starEach [a] X.env = (false, eval a X.env) :: starEach [] X.env) :
    PE X (.Call (.Name x p) [a] [] pos) (canE K P XX W G (.blt b ca)) := by
  subst hK
  refine peImp (hp (pa_cons ha pa_nil hst)) fun σ H Q z => ?_
  exact Can.bind (k := kQ X.K P) (f := fun env x s1 => R.of (bltT s1 b x) s1) z (fun env st => rfl) fun H0 ρ0 Z0 env x s v H' ρ' Z' hx F w => ⟨s, ρ', Z', x, v, _, rfl, F.sto, hx, w⟩
theorem se_ss {a : Expr} {ca : E} {p p2 q pos : Pos} (hK : X.K = K) (hc : X.calm = true) (g : Gl X "sorted") (m : X.mg "sorted" = none) (g2 : Gl X "set") (m2 : X.mg "set" = none) (ha : PE X a (canO K P XX W G ca)) (hst : starEach [a] X.env = (false, eval a X.env) :: starEach [] X.env) :
    PE X (.Call (.Name "sorted" p) [.Call (.Name "set" p2) [a] [] q] [] pos) (canE K P XX W G (.blt .sorSet ca)) := by
  subst hK
  refine peImp (pe_callB (cr_sortedSet hc) g m PyProof.Rows.boot_sorted (pa_cons (pe_callTy (cr_setI hc) g2 m2 PyProof.Rows.boot_set (pa_cons ha pa_nil hst) (by decide) (by decide) hst rfl) pa_nil rfl) (by decide) (by decide) rfl rfl) fun σ H Q z => ?_
  refine Can.bind (k := kQ X.K P) (f := fun env x s1 => R.of (bltT s1 .sorSet x) s1) z (fun env st => rfl) fun H0 ρ0 Z0 env x s v H' ρ' Z' hx F w => ?_
  obtain ⟨o, e0, w⟩ := w.get
  obtain ⟨ns, e, ek⟩ := Option.bind_eq_some_iff.mp (show ((x.lst? s).bind ints?).bind (fun ns => if decide (ns.length < 4000) && decide ((setI ns).length < 64) then some (Ow.own (.lst ((setI ns).map .int))) else none) = some o from e0)
  split at ek
  · rename_i hz
    cases ek
    rw [Bool.and_eq_true, decide_eq_true_eq, decide_eq_true_eq] at hz
    obtain ⟨hz1, hz2⟩ := hz
    obtain ⟨b, rfl, h1⟩ := ints_at F.sto hx e
    refine ⟨b, ns, rfl, h1, by unfold scanBound; omega, fun q c hq hc => ?_⟩
    refine ⟨q, _, c, rfl, upd_same, by omega, fun ms p hs hm hl hp => ?_⟩
    have : ms = setI ns := strict_uniq hs (setI_sorted ns) fun k => by rw [hm k, setI_mem]; simp
    subst this
    exact Wp.newL (w.from_ (Nx.new hq)) (F.sto.new hq) (RTs.of_ints _) hp
  · cases ek
theorem se_blt2 {x : Str} {a a2 : Expr} {ca ca2 : E} {b : Blt} {p pos : Pos} (hK : X.K = K)
    (hp : ∀ {t : TA}, PA X [a, a2] t → PE X (.Call (.Name x p) [a, a2] [] pos) (tCB (rBlt2 X.K P XX b) t)) (ha : PE X a (canE K P XX W G ca)) (ha2 : PE X a2 (canE K P XX W G ca2))
    (hst : starEach [a, a2] X.env = (false, eval a X.env) :: starEach [a2] X.env) (hst2 : starEach [a2] X.env = (false, eval a2 X.env) :: starEach [] X.env) :
    PE X (.Call (.Name x p) [a, a2] [] pos) (canE K P XX W G (.blt2 b ca ca2)) := by
  subst hK
  refine peImp (hp (pa_cons (peFrz ha) (pa_cons (peFrz ha2) pa_nil hst2) hst)) fun σ H Q z => ?_
  exact Can.bind2 (k1 := kT X.K P) (k2 := kT X.K P) (k3 := kOw X.K P) (f := fun env x y s2 => R.of (bltT2 b x y) s2) kT_q kT_q z (fun env st => rfl)
    fun H0 ρ0 Z0 env x y s v u H' ρ' Z' hx hy F w => ⟨s, ρ', Z', x, y, v, u, _, rfl, F.sto, hx, hy, w⟩
theorem se_is {x : Str} {a c : Expr} {ca : E} {b : Blt} {p pos : Pos} (hK : X.K = K) (hp : ∀ {t : TA}, PA X [a, c] t → PE X (.Call (.Name x p) [a, c] [] pos) (tCB (rIsA X.K P XX b) t))
    (ha : PE X a (canO K P XX W G ca)) (hc : PE X c (tC (.ty b.nm))) (hst : starEach [a, c] X.env = (false, eval a X.env) :: starEach [c] X.env) (hst2 : starEach [c] X.env = (false, eval c X.env) :: starEach [] X.env) :
    PE X (.Call (.Name x p) [a, c] [] pos) (canE K P XX W G (.blt b ca)) := by
  subst hK
  refine peImp (hp (pa_cons ha (pa_cons hc pa_nil hst2) hst)) fun σ H Q z => ?_
  exact Can.bind (k := kQ X.K P) (f := fun env x s1 => R.of (bltT s1 b x) s1) z (fun env st => rfl) fun H0 ρ0 Z0 env x s v H' ρ' Z' hx F w => ⟨s, ρ', Z', x, v, _, rfl, F.sto, hx, w⟩
theorem se_call {x : Str} {e : Expr} {es : List Expr} {cs : List E} {i : Nat} {p pos : Pos} (c : Ctx K P XX C G n X W) (hf : C.fns[i]? = some x) (hg : Gl X x) (hd : (x == ("__debug__" : Str)) = false) (ha : PA X (e :: es) (canA K P XX W G cs))
    (he : starEach (e :: es) X.env = (false, eval e X.env) :: starEach es X.env) (hpl : (backTo pos (starEach es X.env)).any (·.1) = false) : PE X (.Call (.Name x p) (e :: es) [] pos) (canE K P XX W G (.call i cs)) := by
  have hK := c.K
  obtain ⟨f, fd, ps, np, h1, h2, h3, h4, h5⟩ := c.fns i x hf
  subst hK
  refine peImp (pe_callS (E := WE W) h4 c.room hg h1 h2 h3 (passAt c.tk) ha hd he hpl) fun σ H Q z => ?_
  refine Can.bind (k := kTs X.K P) (f := fun env xs s1 => G i xs s1) z (fun env st => rfl) fun H0 ρ0 Z0 env ts s vs H' ρ' Z' hx F w => ?_
  refine ⟨?_, ts, s, ρ', Z', hx, F.sto, w⟩
  by_cases hl : ts.length = np
  · rw [← hl]; exact (RTs.length hx).symm
  · rw [h5 ts s hl] at w; exact w.elim
end
end TW

set_option Elab.async false
set_option linter.all false
set_option maxRecDepth 100000
set_option maxHeartbeats 4000000
/-! Core7: what is walked; comprehensions. -/
namespace TW
open PySem L2

/-- what stays: SA: what the store does not hold; SB: what is frozen -/
abbrev Sty := Addr → HO → Prop
def SA (ρ : List Addr) : Sty := fun a _ => a ∉ ρ
def SB (Z : Addr → Prop) : Sty := fun a u => Z a ∨ Imm u
def WalkT (K : PySem.W.Frag) (P : Pm) (S : Sty) (J : L2.It) (ts : List T) (H : Hp) (Z : Addr → Prop) (ρ : List Addr) : Prop :=
  ∃ (Gd : Hp → Prop) (Y : Nat → Hp → V → Hp → Prop), Walk J ts.length Gd Y ∧ (∀ H2, (∀ a u, H a = some u → S a u → H2 a = some u) → Gd H2) ∧
    ∀ i t H1 v H2, ts[i]? = some t → Y i H1 v H2 → ∀ ρ1 Z1, Kp H ρ Z H1 ρ1 Z1 → (H2 = H1 ∨ ∃ q xs, H1 q = none ∧ H2 = upd H1 q (.tup xs)) ∧ RT K P H2 Z1 ρ1 t v
section
variable {K : PySem.W.Frag} {P : Pm} {S : Sty} {H : Hp} {Z : Addr → Prop} {ρ : List Addr} {a b : Addr} {xs ys : List V} {ts us : List T}
/-- a tuple that stays -/
def TupS (K : PySem.W.Frag) (S : Sty) (H : Hp) (a : Addr) (xs : List V) : Prop := (H a = some (.tup xs) ∧ S a (.tup xs)) ∨
  ∃ (o : Obj) (its : Array Value) (n : Nat), K.lookup a = some o ∧ o.cls = .type "tuple" ∧ o.data = .seq its n ∧ its.size ≤ sizeLine ∧ Vals xs its.toList
theorem TupS.sq (h : TupS K S H a xs) {H2 : Hp} (k : ∀ a u, H a = some u → S a u → H2 a = some u) : SqT K H2 a xs := by
  rcases h with ⟨h1, h2⟩ | h
  · exact SqT.of (k _ _ h1 h2)
  · exact .inr h
theorem walkL (h : H a = some (.lst xs)) (s : S a (.lst xs)) (r : RTs K P H Z ρ ts xs) : WalkT K P S (Itl K a) ts H Z ρ := by
  refine ⟨fun H => SqL K H a xs, YAt xs, by rw [r.length]; exact walk_list, fun H2 k => SqL.of (k _ _ h s), fun i t H1 v H2 e y ρ1 Z1 kp => ?_⟩
  obtain ⟨rfl, y2⟩ := y
  obtain ⟨v', h1, h2⟩ := r.get e
  rw [h1] at y2; cases y2
  exact ⟨.inl rfl, h2.keep kp⟩
theorem walkT (h : TupS K S H a xs) (r : RTs K P H Z ρ ts xs) : WalkT K P S (Itt K a) ts H Z ρ := by
  refine ⟨fun H => SqT K H a xs, YAt xs, by rw [r.length]; exact walk_tup, fun H2 k => h.sq k, fun i t H1 v H2 e y ρ1 Z1 kp => ?_⟩
  obtain ⟨rfl, y2⟩ := y
  obtain ⟨v', h1, h2⟩ := r.get e
  rw [h1] at y2; cases y2
  exact ⟨.inl rfl, h2.keep kp⟩
theorem rngT_len (lo hi : Int) : (rngT lo hi).length = (hi - lo).toNat := by simp [rngT]
theorem rngT_get {lo hi : Int} {i : Nat} {t : T} (h : (rngT lo hi)[i]? = some t) : t = .int (lo + i) := by
  unfold rngT at h
  rw [List.getElem?_map] at h
  obtain ⟨j, h1, h2⟩ := Option.map_eq_some_iff.mp h
  obtain ⟨h3, h4⟩ := List.getElem?_eq_some_iff.mp h1
  simp at h4
  rw [← h2, ← h4]
theorem walkR (lo hi : Int) : WalkT K P S (Itr lo (hi - lo).toNat) (rngT lo hi) H Z ρ := by
  refine ⟨fun _ => True, YFn fun i => .int (lo + i), by rw [rngT_len]; exact walk_range, fun _ _ => trivial, fun i t H1 v H2 e y ρ1 Z1 kp => ?_⟩
  obtain ⟨rfl, rfl⟩ := y
  rw [rngT_get e]
  exact ⟨.inl rfl, .int _⟩
theorem walkRC (lo hi c : Int) (n : Nat) (hn : Builtin.Range.rangeSize lo hi c = n) : WalkT K P S (Itc lo c n) (rngC lo hi c) H Z ρ := by
  have el : (rngC lo hi c).length = n := by unfold rngC; rw [List.length_map, List.length_range, hn]; rfl
  refine ⟨fun _ => True, YFn fun i => .int (lo + (i : Nat) * c), by rw [el]; exact walk_rangeC, fun _ _ => trivial, fun i t H1 v H2 e y ρ1 Z1 kp => ?_⟩
  obtain ⟨rfl, rfl⟩ := y
  unfold rngC at e
  rw [List.getElem?_map] at e
  obtain ⟨m, h1, rfl⟩ := Option.map_eq_some_iff.mp e
  have hm := List.getElem?_eq_some_iff.mp h1
  obtain ⟨hm1, hm2⟩ := hm
  rw [List.getElem_range] at hm2
  subst hm2
  exact ⟨.inl rfl, .int _⟩
theorem enumT_len : ∀ (n : Nat) (ts : List T), (enumT n ts).length = ts.length
  | _, [] => rfl
  | n, _ :: ts => congrArg (· + 1) (enumT_len (n + 1) ts)
theorem enumT_get : ∀ {n : Nat} {ts : List T} {i : Nat} {t : T}, (enumT n ts)[i]? = some t → ∃ u, ts[i]? = some u ∧ t = .tup [.int ((n + i : Nat) : Int), u]
  | _, [], _, _, h => by simp [enumT] at h
  | n, x :: ts, 0, t, h => by simp [enumT] at h; exact ⟨x, rfl, by rw [← h]; rfl⟩
  | n, x :: ts, i + 1, t, h => by
    obtain ⟨u, h1, h2⟩ := enumT_get (n := n + 1) (ts := ts) (i := i) (t := t) (by simpa [enumT] using h)
    exact ⟨u, by simpa using h1, by rw [h2, show n + 1 + i = n + (i + 1) by omega]⟩
theorem pair_rt {H1 : Hp} {ρ1 : List Addr} {Z1 : Addr → Prop} {t u : T} {x y : V} {q : Addr} (hq : H1 q = none) (h1 : RT K P H1 Z1 ρ1 t x) (h2 : RT K P H1 Z1 ρ1 u y) : RT K P (upd H1 q (.tup [x, y])) Z1 ρ1 (.tup [t, u]) (.ref q) :=
  .tup upd_same (.cons (h1.keep (Nx.new hq).kp) (.cons (h2.keep (Nx.new hq).kp) .nil))
theorem walk_enumT : Walk (IteT K a) xs.length (fun H => SqT K H a xs) (YPair (fun i => some (.int (i : Nat))) (fun i => xs[i]?)) := by
  refine ⟨fun i _ hi q => ⟨xs, xs[i], q, by simp [hi]⟩, fun _ q => ⟨xs, q, Nat.le_refl _⟩, fun i H v H' _ q y => ?_⟩
  obtain ⟨T, x, h1, h2, h3, h4⟩ := y
  exact ⟨T, _, x, h1, h2, h3, rfl, h4 xs q⟩
theorem walkEL (h : H a = some (.lst xs)) (s : S a (.lst xs)) (r : RTs K P H Z ρ ts xs) : WalkT K P S (Ite K a) (enumT 0 ts) H Z ρ := by
  refine ⟨fun H => SqL K H a xs, YPair (fun i => some (.int (i : Nat))) (fun i => xs[i]?), by rw [enumT_len, r.length]; exact walk_enum, fun H2 k => SqL.of (k _ _ h s), fun i t H1 v H2 e y ρ1 Z1 kp => ?_⟩
  obtain ⟨T, x, y, rfl, hn, rfl, e1, e2⟩ := y
  obtain ⟨u, h1, rfl⟩ := enumT_get e
  obtain ⟨v', h2, h3⟩ := r.get h1
  have e2 : xs[i]? = some y := e2
  rw [h2] at e2; cases e2
  cases e1
  refine ⟨.inr ⟨T, _, hn, rfl⟩, ?_⟩
  rw [Nat.zero_add]
  exact pair_rt hn (.int _) (h3.keep kp)
theorem walkET (h : TupS K S H a xs) (r : RTs K P H Z ρ ts xs) : WalkT K P S (IteT K a) (enumT 0 ts) H Z ρ := by
  refine ⟨fun H => SqT K H a xs, YPair (fun i => some (.int (i : Nat))) (fun i => xs[i]?), by rw [enumT_len, r.length]; exact walk_enumT, fun H2 k => h.sq k, fun i t H1 v H2 e y ρ1 Z1 kp => ?_⟩
  obtain ⟨T, x, y, rfl, hn, rfl, e1, e2⟩ := y
  obtain ⟨u, h1, rfl⟩ := enumT_get e
  obtain ⟨v', h2, h3⟩ := r.get h1
  have e2 : xs[i]? = some y := e2
  rw [h2] at e2; cases e2
  cases e1
  refine ⟨.inr ⟨T, _, hn, rfl⟩, ?_⟩
  rw [Nat.zero_add]
  exact pair_rt hn (.int _) (h3.keep kp)
theorem zip_get {ts us : List T} {i : Nat} {t : T} (h : ((ts.zip us).map fun p => T.tup [p.1, p.2])[i]? = some t) : ∃ x y, ts[i]? = some x ∧ us[i]? = some y ∧ t = .tup [x, y] := by
  rw [List.getElem?_map] at h
  obtain ⟨p, h1, h2⟩ := Option.map_eq_some_iff.mp h
  obtain ⟨h3, h4⟩ := List.getElem?_zip_eq_some.mp h1
  exact ⟨_, _, h3, h4, h2.symm⟩
theorem walk_zipLL : Walk (Itz K a b) (min xs.length ys.length) (fun H => SqL K H a xs ∧ SqL K H b ys) (YPair (fun i => xs[i]?) (fun i => ys[i]?)) := by
  refine ⟨fun i _ hi q => ⟨xs, ys, xs[i]'(by omega), ys[i]'(by omega), q.1, q.2, by simp [show i < xs.length by omega], by simp [show i < ys.length by omega]⟩, fun _ q => ⟨xs, ys, q.1, q.2, by omega⟩, fun i H v H' _ q y => ?_⟩
  obtain ⟨T, x, y, h1, h2, h3, h4, h5⟩ := y
  exact ⟨T, x, y, h1, h2, h3, h4 xs q.1, h5 ys q.2⟩
theorem walk_zipTT : Walk (RZ.ItzT K a b) (min xs.length ys.length) (fun H => SqT K H a xs ∧ SqT K H b ys) (YPair (fun i => xs[i]?) (fun i => ys[i]?)) := by
  refine ⟨fun i _ hi q => ⟨xs, ys, xs[i]'(by omega), ys[i]'(by omega), q.1, q.2, by simp [show i < xs.length by omega], by simp [show i < ys.length by omega]⟩, fun _ q => ⟨xs, ys, q.1, q.2, by omega⟩, fun i H v H' _ q y => ?_⟩
  obtain ⟨T, x, y, h1, h2, h3, h4, h5⟩ := y
  exact ⟨T, x, y, h1, h2, h3, h4 xs q.1, h5 ys q.2⟩
theorem walkZL (h : H a = some (.lst xs)) (s : S a (.lst xs)) (r : RTs K P H Z ρ ts xs) (h' : H b = some (.lst ys)) (s' : S b (.lst ys)) (r' : RTs K P H Z ρ us ys) : WalkT K P S (Itz K a b) ((ts.zip us).map fun p => T.tup [p.1, p.2]) H Z ρ := by
  refine ⟨fun H => SqL K H a xs ∧ SqL K H b ys, YPair (fun i => xs[i]?) (fun i => ys[i]?), by rw [List.length_map, List.length_zip, r.length, r'.length]; exact walk_zipLL, fun H2 k => ⟨SqL.of (k _ _ h s), SqL.of (k _ _ h' s')⟩, fun i t H1 v H2 e y ρ1 Z1 kp => ?_⟩
  obtain ⟨T, x, y, rfl, hn, rfl, e1, e2⟩ := y
  obtain ⟨t1, t2, h1, h2, rfl⟩ := zip_get e
  obtain ⟨v1, h3, h4⟩ := r.get h1
  obtain ⟨v2, h5, h6⟩ := r'.get h2
  have e1 : xs[i]? = some x := e1
  have e2 : ys[i]? = some y := e2
  rw [h3] at e1; cases e1
  rw [h5] at e2; cases e2
  exact ⟨.inr ⟨T, _, hn, rfl⟩, pair_rt hn (h4.keep kp) (h6.keep kp)⟩
theorem walkZT (h : TupS K S H a xs) (r : RTs K P H Z ρ ts xs) (h' : TupS K S H b ys) (r' : RTs K P H Z ρ us ys) : WalkT K P S (RZ.ItzT K a b) ((ts.zip us).map fun p => T.tup [p.1, p.2]) H Z ρ := by
  refine ⟨fun H => SqT K H a xs ∧ SqT K H b ys, YPair (fun i => xs[i]?) (fun i => ys[i]?), by rw [List.length_map, List.length_zip, r.length, r'.length]; exact walk_zipTT, fun H2 k => ⟨h.sq k, h'.sq k⟩, fun i t H1 v H2 e y ρ1 Z1 kp => ?_⟩
  obtain ⟨T, x, y, rfl, hn, rfl, e1, e2⟩ := y
  obtain ⟨t1, t2, h1, h2, rfl⟩ := zip_get e
  obtain ⟨v1, h3, h4⟩ := r.get h1
  obtain ⟨v2, h5, h6⟩ := r'.get h2
  have e1 : xs[i]? = some x := e1
  have e2 : ys[i]? = some y := e2
  rw [h3] at e1; cases e1
  rw [h5] at e2; cases e2
  exact ⟨.inr ⟨T, _, hn, rfl⟩, pair_rt hn (h4.keep kp) (h6.keep kp)⟩
end

/-! ### the two flavours: within an expression (A), for a statement (B) -/
/-- flavour: what a value must be, what stays -/
structure Fl (K : PySem.W.Frag) (P : Pm) where
  k : Kd T V
  S : List Addr → (Addr → Prop) → Sty
  itr : ∀ {st : Sto} {H0 H : Hp} {ρ : List Addr} {Z : Addr → Prop} {x : T} {v : V} {ts : List T}, RelS K P st H ρ Z → k.rel H0 x v H Z ρ → x.itr? = some ts →
    ∃ a xs, v = .ref a ∧ RTs K P H Z ρ ts xs ∧ ((x = .lst ts ∧ H a = some (.lst xs) ∧ S ρ Z a (.lst xs)) ∨ (x = .tup ts ∧ TupS K (S ρ Z) H a xs))
  keep : ∀ {H0 H1 H H' : Hp} {ρ ρ' : List Addr} {Z Z' : Addr → Prop} {x : T} {v : V}, k.rel H0 x v H Z ρ → Nx H ρ Z H' ρ' Z' → k.rel H1 x v H' Z' ρ'
theorem tup_inv {K : PySem.W.Frag} {P : Pm} {H : Hp} {ρ : List Addr} {Z : Addr → Prop} {ts : List T} {v : V} {S : Sty} (hs : ∀ a xs, H a = some (.tup xs) → S a (.tup xs)) (h : RT K P H Z ρ (.tup ts) v) :
    ∃ a xs, v = .ref a ∧ RTs K P H Z ρ ts xs ∧ TupS K S H a xs := by
  cases h with
  | tup h1 h2 => exact ⟨_, _, rfl, h2, .inl ⟨h1, hs _ _ h1⟩⟩
  | tupK h1 h2 _ => exact ⟨_, _, rfl, h2, .inr h1⟩
def flA (K : PySem.W.Frag) (P : Pm) : Fl K P where
  k := kQ K P
  S := fun ρ _ => SA ρ
  itr := by
    intro st H0 H ρ Z x v ts s h e
    have ht : ∀ a xs, H a = some (.tup xs) → SA ρ a (.tup xs) := fun a xs q hm => by
      obtain ⟨o, r⟩ := s.obj hm
      exact r.nimm q trivial
    cases x with
    | tup us =>
      cases e
      obtain ⟨a, xs, h1, h2, h3⟩ := tup_inv (S := SA ρ) ht ((show RQ K P H Z ρ (.tup ts) v from h).rt (by rintro ⟨⟩ <;> exact fun q => nomatch q))
      exact ⟨a, xs, h1, h2, .inr ⟨rfl, h3⟩⟩
    | lst us =>
      cases e
      rcases (show RQ K P H Z ρ (.lst ts) v from h) with h | ⟨o, a, e1, rfl, h, hn⟩
      · cases h with
        | lst h1 z h2 => exact ⟨_, _, rfl, h2, .inl ⟨rfl, h1, fun hm => s.nz _ hm z⟩⟩
      · cases o <;> cases e1
        obtain ⟨xs, h1, h2⟩ := h.lst_inv
        exact ⟨a, xs, rfl, h2, .inl ⟨rfl, h1, hn⟩⟩
    | _ => cases e
  keep := fun h n => RQ.keep h n
def flB (K : PySem.W.Frag) (P : Pm) : Fl K P where
  k := kT K P
  S := fun _ Z => SB Z
  itr := by
    intro st H0 H ρ Z x v ts s h e
    cases x with
    | tup us =>
      cases e
      obtain ⟨a, xs, h1, h2, h3⟩ := tup_inv (S := SB Z) (fun _ _ _ => .inr trivial) (show RT K P H Z ρ (.tup ts) v from h)
      exact ⟨a, xs, h1, h2, .inr ⟨rfl, h3⟩⟩
    | lst us =>
      cases e
      cases (show RT K P H Z ρ (.lst ts) v from h) with
      | lst h1 z h2 => exact ⟨_, _, rfl, h2, .inl ⟨rfl, h1, .inl z⟩⟩
    | _ => cases e
  keep := fun h n => RT.keep n.kp _ _ h
/-- what an iterator promises -/
def kI {K : PySem.W.Frag} {P : Pm} (f : Fl K P) : Kd (List T) L2.It := ⟨fun _ ts J H' Z' ρ' => WalkT K P (f.S ρ' Z') J ts H' Z' ρ', fun _ h => h⟩

/-- over a list or a tuple -/
def iSeq (K : PySem.W.Frag) (te : TE) : TI := fun σ H R => te σ H fun v H1 => ∃ a xs, v = .ref a ∧ ((SqL K H1 a xs ∧ R (Itl K a) H1) ∨ (SqT K H1 a xs ∧ R (Itt K a) H1))
theorem pi_seq {X : Cx} {tg e : Expr} {te : TE} (he : PE X e te) : PI X tg e (iSeq X.K te) := by
  refine ⟨fun pins s σ H R I h => ?_⟩
  refine thn (he.run pins s σ H _ I h) fun v s1 ⟨x, H1, I1, r1, q1⟩ => ?_
  obtain ⟨a, xs, e, q⟩ := q1
  subst e
  cases r1
  rcases q with ⟨hq, q⟩ | ⟨hq, q⟩
  · obtain ⟨its, rv, p, hz⟩ := I1.list hq
    refine wpAny_pyIter_list p.isList ?_
    refine ⟨s1.heap.objs.size, [s1.heap.objs.size], _, _, H1, rfl, I1.kept (t' := s1.toks) fun b o e => Heap.get?_push_of_some _ e, turn_list a _, ⟨_, Heap.get?_push_size _ rfl, rfl, rfl⟩, fun b hb => ?_, q⟩
    have e : b = s1.heap.objs.size := by simpa using hb
    subst e
    exact I1.fpOk (Nat.le_refl _) (I1.hok.fresh (Nat.le_refl _))
  · obtain ⟨its, rv, p, hz⟩ := I1.tuple hq
    refine wpAny_pyIter_tuple (show s1.heap.IsTuple a its.toArray from p) ?_
    refine ⟨s1.heap.objs.size, [s1.heap.objs.size], _, _, H1, rfl, I1.kept (t' := s1.toks) fun b o e => Heap.get?_push_of_some _ e, turn_tuple a _, ⟨_, Heap.get?_push_size _ rfl, rfl, rfl⟩, fun b hb => ?_, q⟩
    have e : b = s1.heap.objs.size := by simpa using hb
    subst e
    exact I1.fpOk (Nat.le_refl _) (I1.hok.fresh (Nat.le_refl _))
theorem TupS.now {K : PySem.W.Frag} {S : Sty} {H : Hp} {a : Addr} {xs : List V} (h : TupS K S H a xs) : SqT K H a xs := h.sq fun _ _ h _ => h

section
variable {K : PySem.W.Frag} {P : Pm} {XX : XR} {W : WX} {G : Nat → List T → Sto → R Ow} {X : Cx} {C : CC} {n : Nat} {tg : Expr}
/-- the operand by the flavour -/
def flO (f : Bool) (c : E) (env : Env) (st : Sto) : R T := if f then opd env c (evE P G env c st) st else frzR (evE P G env c st)
variable (K P XX W G)
abbrev canI (f : Fl K P) (it : It) : TI := Can K P XX W (kI f) fun env st => evI P G env it st
/-- the operand of a walk -/
abbrev canW (f : Fl K P) (c : E) : TE := Can K P XX W f.k fun env st => opd env c (evE P G env c st) st
variable {K P XX W G}
theorem si_seq {f : Fl K P} {e : Expr} {c : E} (hK : X.K = K) (he : PE X e (canW K P XX W G f c)) : PI X tg e (canI K P XX W G f (.seq c)) := by
  subst hK
  refine piImp (pi_seq he) fun σ H Rk z => ?_
  refine Can.bind (k := f.k) (f := fun env x s1 => R.of x.itr? s1) z (fun env st => rfl) fun H0 ρ0 Z0 env x s v H' ρ' Z' hx F w => ?_
  obtain ⟨ts, e, w⟩ := w.get
  obtain ⟨a, xs, rfl, h1, h2⟩ := f.itr F.sto hx e
  refine ⟨a, xs, rfl, ?_⟩
  rcases h2 with ⟨_, h2, h3⟩ | ⟨_, h2⟩
  · exact .inl ⟨SqL.of h2, w _ H' ρ' Z' (walkL h2 h3 h1) F.sto Nx.refl⟩
  · exact .inr ⟨h2.now, w _ H' ρ' Z' (walkT h2 h1) F.sto Nx.refl⟩
theorem si_enum {f : Fl K P} {e : Expr} {c : E} {p pos tpos : Pos} {elts : List Expr} {kk : Nat} (hK : X.K = K) (hg : Gl X "enumerate") (hm : X.mg "enumerate" = none) (he : PE X e (canW K P XX W G f c))
    (hst : starEach [e] X.env = (false, eval e X.env) :: starEach [] X.env) : PI X (.Tuple elts kk tpos) (.Call (.Name "enumerate" p) [e] [] pos) (canI K P XX W G f (.enum c)) := by
  subst hK
  refine piImp (pi_enumA hg hm (pa_cons he pa_nil hst) hst) fun σ H Rk z => ?_
  refine Can.bind (k := f.k) (f := fun env x s1 => R.of (x.itr?.map (enumT 0)) s1) z (fun env st => rfl) fun H0 ρ0 Z0 env x s v H' ρ' Z' hx F w => ?_
  obtain ⟨ts, e, w⟩ := w.get
  obtain ⟨us, e2, ek⟩ := Option.map_eq_some_iff.mp e
  subst ek
  obtain ⟨a, xs, rfl, h1, h2⟩ := f.itr F.sto hx e2
  refine ⟨a, xs, rfl, ?_⟩
  rcases h2 with ⟨_, h2, h3⟩ | ⟨_, h2⟩
  · exact .inl ⟨SqL.of h2, w _ H' ρ' Z' (walkEL h2 h3 h1) F.sto Nx.refl⟩
  · exact .inr ⟨h2.now, w _ H' ρ' Z' (walkET h2 h1) F.sto Nx.refl⟩
theorem si_zip {f : Fl K P} {e e2 : Expr} {c c2 : E} {p pos tpos : Pos} {elts : List Expr} {kk : Nat} (hK : X.K = K) (hg : Gl X "zip") (hm : X.mg "zip" = none) (he : PE X e (canW K P XX W G f c)) (he2 : PE X e2 (canW K P XX W G f c2))
    (hst : starEach [e, e2] X.env = (false, eval e X.env) :: starEach [e2] X.env) (hst2 : starEach [e2] X.env = (false, eval e2 X.env) :: starEach [] X.env) (hpl : (backTo pos (starEach [e2] X.env)).any (·.1) = false) :
    PI X (.Tuple elts kk tpos) (.Call (.Name "zip" p) [e, e2] [] pos) (canI K P XX W G f (.zip c c2)) := by
  subst hK
  refine piImp (RZ.pi_zipA hg hm (pa_cons he (pa_cons he2 pa_nil hst2) hst) hst hpl) fun σ H Rk z => ?_
  refine Can.bind (k := f.k) (f := fun env x s1 => (opd env c2 (evE P G env c2 s1) s1).bind fun y s2 => R.of (zip? x y) s2) z (fun env st => rfl) fun H0 ρ0 Z0 env x s v H1 ρ1 Z1 hx F w => ?_
  refine ⟨H0, ρ0, Z0, env, s, ρ1, Z1, F, w.bind fun y s2 u H' ρ' Z' hy S2 n2 w2 => ?_⟩
  obtain ⟨ts, e, w⟩ := w2.get
  have hx := f.keep (H1 := H) hx n2
  cases x with
  | tup xs =>
    cases y with
    | tup ys =>
      cases e
      obtain ⟨a, xs, rfl, h1, h2⟩ := f.itr S2 hx rfl
      obtain ⟨b, ys, rfl, h3, h4⟩ := f.itr S2 hy rfl
      rcases h2 with ⟨q, _⟩ | ⟨_, h2⟩
      · cases q
      rcases h4 with ⟨q, _⟩ | ⟨_, h4⟩
      · cases q
      exact ⟨a, b, xs, ys, rfl, .inr ⟨h2.now, h4.now, w _ H' ρ' Z' (walkZT h2 h1 h4 h3) S2 Nx.refl⟩⟩
    | _ => cases e
  | lst xs =>
    cases y with
    | lst ys =>
      cases e
      obtain ⟨a, xs, rfl, h1, h2⟩ := f.itr S2 hx rfl
      obtain ⟨b, ys, rfl, h3, h4⟩ := f.itr S2 hy rfl
      rcases h2 with ⟨_, h2, h5⟩ | ⟨q, _⟩
      · rcases h4 with ⟨_, h4, h6⟩ | ⟨q, _⟩
        · exact ⟨a, b, xs, ys, rfl, .inl ⟨SqL.of h2, SqL.of h4, w _ H' ρ' Z' (walkZL h2 h5 h1 h4 h6 h3) S2 Nx.refl⟩⟩
        · cases q
      · cases q
    | _ => cases e
  | _ => cases e
theorem small62_ok {i : Int} (h : small62 i = true) : -(2 ^ 62) ≤ i ∧ i < 2 ^ 62 := by
  obtain ⟨h1, h2⟩ := Bool.and_eq_true_iff.mp h
  have h1 := of_decide_eq_true h1
  have h2 := of_decide_eq_true h2
  omega
theorem int_rt {H : Hp} {Z : Addr → Prop} {ρ : List Addr} {x : T} {v : V} {k : Int} (h : RT K P H Z ρ x v) (e : int? x = some k) : v = .int k := by
  cases x <;> cases e
  cases h; rfl
theorem si_rng1 {f : Fl K P} {a : Expr} {c : E} {p pos : Pos} (hg : Gl X "range") (hm : X.mg "range" = none) (ha : PE X a (canE K P XX W G c)) (hst : starEach [a] X.env = (false, eval a X.env) :: starEach [] X.env) :
    PI X tg (.Call (.Name "range" p) [a] [] pos) (canI K P XX W G f (.rng1 c)) := by
  refine piImp (pi_range1 hg hm (pa_cons (peFrz ha) pa_nil hst) hst) fun σ H Rk z => ?_
  refine Can.bind (k := kT K P) (f := fun env x s1 => (R.of (int? x) s1).bind fun j s1 => if small62 j then .ok (rngT 0 j) s1 else .bad) z (fun env st => rfl) fun H0 ρ0 Z0 env x s v H' ρ' Z' hx F w => ?_
  cases e1 : int? x with
  | none => rw [e1] at w; exact w.elim
  | some j =>
    rw [e1] at w
    cases int_rt hx e1
    have w : Wp K P XX (kI f) (if small62 j then .ok (rngT 0 j) s else .bad) H' ρ' Z' Rk _ := w
    split at w
    · rename_i hz
      obtain ⟨h1, h2⟩ := small62_ok hz
      refine ⟨j, rfl, h1, h2, w _ H' ρ' Z' ?_ F.sto Nx.refl⟩
      have := walkR (K := K) (P := P) (S := f.S ρ' Z') (H := H') (Z := Z') (ρ := ρ') 0 j
      rw [Int.sub_zero] at this
      exact this
    · exact w.elim
theorem si_rng2 {f : Fl K P} {a b : Expr} {c c2 : E} {p pos : Pos} (hg : Gl X "range") (hm : X.mg "range" = none) (ha : PE X a (canE K P XX W G c)) (hb : PE X b (canE K P XX W G c2))
    (hst : starEach [a, b] X.env = [(false, eval a X.env), (false, eval b X.env)]) (hst2 : starEach [b] X.env = [(false, eval b X.env)]) :
    PI X tg (.Call (.Name "range" p) [a, b] [] pos) (canI K P XX W G f (.rng2 c c2)) := by
  refine piImp (pi_range2 hg hm (pa_cons (peFrz ha) (pa_cons (peFrz hb) pa_nil (by rw [hst2]; rfl)) (by rw [hst, hst2])) hst hst2) fun σ H Rk z => ?_
  refine Can.bind (k := kT K P) (f := fun env x s1 => (frzR (evE P G env c2 s1)).bind fun y s2 => (R.of (int? x) s2).bind fun i s2 => (R.of (int? y) s2).bind fun j s2 => if small62 i && small62 j then .ok (rngT i j) s2 else .bad) z (fun env st => rfl) fun H0 ρ0 Z0 env x s v H1 ρ1 Z1 hx F w => ?_
  refine ⟨H0, ρ0, Z0, env, s, ρ1, Z1, F, w.bind fun y s2 u H' ρ' Z' hy S2 n2 w => ?_⟩
  have hx := hx.keep n2.kp
  cases e1 : int? x with
  | none => rw [e1] at w; exact w.elim
  | some i =>
    rw [e1] at w
    cases int_rt hx e1
    cases e2 : int? y with
    | none => rw [e2] at w; exact w.elim
    | some j =>
      rw [e2] at w
      cases int_rt hy e2
      have w : Wp K P XX (kI f) (if small62 i && small62 j then .ok (rngT i j) s2 else .bad) H' ρ' Z' Rk _ := w
      split at w
      · rename_i hz
        obtain ⟨hi, hj⟩ := Bool.and_eq_true_iff.mp hz
        obtain ⟨h1, h2⟩ := small62_ok hi
        obtain ⟨h3, h4⟩ := small62_ok hj
        exact ⟨i, j, rfl, ⟨h1, h2, h3, h4⟩, w _ H' ρ' Z' (walkR i j) S2 Nx.refl⟩
      · exact w.elim
theorem si_rng3 {f : Fl K P} {a b d : Expr} {c c2 c3 : E} {p pos : Pos} (hg : Gl X "range") (hm : X.mg "range" = none) (ha : PE X a (canE K P XX W G c)) (hb : PE X b (canE K P XX W G c2)) (hd : PE X d (canE K P XX W G c3))
    (hst : starEach [a, b, d] X.env = [(false, eval a X.env), (false, eval b X.env), (false, eval d X.env)]) (hst2 : starEach [b, d] X.env = [(false, eval b X.env), (false, eval d X.env)]) (hst3 : starEach [d] X.env = [(false, eval d X.env)]) :
    PI X tg (.Call (.Name "range" p) [a, b, d] [] pos) (canI K P XX W G f (.rng3 c c2 c3)) := by
  refine piImp (pi_range3 hg hm (pa_cons (peFrz ha) (pa_cons (peFrz hb) (pa_cons (peFrz hd) pa_nil (by rw [hst3]; rfl)) (by rw [hst2, hst3])) (by rw [hst, hst2])) (by rw [hst, hst2]) (by rw [hst2]; rfl)) fun σ H Rk z => ?_
  refine Can.bind (k := kT K P) (f := fun env x s1 => (frzR (evE P G env c2 s1)).bind fun y s2 => (frzR (evE P G env c3 s2)).bind fun z s3 => (R.of (int? x) s3).bind fun i s3 => (R.of (int? y) s3).bind fun j s3 => (R.of (int? z) s3).bind fun k s3 => if okC i j k then .ok (rngC i j k) s3 else .bad) z (fun env st => rfl) fun H0 ρ0 Z0 env x s v H1 ρ1 Z1 hx F w => ?_
  refine ⟨H0, ρ0, Z0, env, s, ρ1, Z1, F, w.bind fun y s2 u H2 ρ2 Z2 hy S2 n2 w => ?_⟩
  have F2 := F.step n2 S2
  refine ⟨H0, ρ0, Z0, env, s2, ρ2, Z2, F2, w.bind fun q s3 u3 H' ρ' Z' hq S3 n3 w => ?_⟩
  have hx := (hx.keep n2.kp).keep n3.kp
  have hy := hy.keep n3.kp
  cases e1 : int? x with
  | none => rw [e1] at w; exact w.elim
  | some i =>
    rw [e1] at w
    cases int_rt hx e1
    cases e2 : int? y with
    | none => rw [e2] at w; exact w.elim
    | some j =>
      rw [e2] at w
      cases int_rt hy e2
      cases e3 : int? q with
      | none => rw [e3] at w; exact w.elim
      | some k =>
        rw [e3] at w
        cases int_rt hq e3
        have w : Wp K P XX (kI f) (if okC i j k then .ok (rngC i j k) s3 else .bad) H' ρ' Z' Rk _ := w
        split at w
        · rename_i hz
          unfold okC at hz
          simp only [Bool.and_eq_true, decide_eq_true_eq] at hz
          obtain ⟨z1, z2, z3, z4⟩ := hz
          have hn : Builtin.Range.rangeSize i j k = ((Builtin.Range.rangeSize i j k).toNat : Int) := (Int.toNat_of_nonneg z4).symm
          exact ⟨i, j, k, (Builtin.Range.rangeSize i j k).toNat, rfl, ⟨z1, z2, z3, hn⟩, w _ H' ρ' Z' (walkRC i j k _ hn) S3 Nx.refl⟩
        · exact w.elim
end
end TW

set_option Elab.async false
set_option linter.all false
set_option maxRecDepth 100000
set_option maxHeartbeats 4000000
/-! Core8: targets, comprehensions, displays of dicts, tests. -/
namespace TW
open PySem L2

/-! ### targets -/
def gNames : List Nat → TGs
  | [] => gNil
  | i :: is => gCons (gName i) (gNames is)
def gT (K : PySem.W.Frag) : Tg → TG
  | .nm i => gName i
  | .tp is => gTup K is.length (gNames is)
section
variable {K : PySem.W.Frag} {P : Pm} {H0 H : Hp} {Z0 Z : Addr → Prop} {ρ0 ρ : List Addr} {st : Sto} {env : Env} {σ : L2.St}
theorem set_get {α : Type} {l : List α} {i j : Nat} {a b : α} (h : (l.set i a)[j]? = some b) : (i = j ∧ b = a) ∨ (i ≠ j ∧ l[j]? = some b) := by
  rw [List.getElem?_set] at h
  split at h
  · rename_i e
    split at h
    · cases h; exact .inl ⟨e, rfl⟩
    · cases h
  · rename_i e; exact .inr ⟨e, h⟩
theorem Rel.set (r : Rel K P H0 ρ0 Z0 env st σ H ρ Z) {t : T} {v : V} (h : RT K P H Z ρ t v) (i : Nat) : Rel K P H0 ρ0 Z0 (env.set i (.val t)) st (σ.set i (some v)) H ρ Z := by
  refine ⟨by simp [r.len], fun j u e => ?_, fun j o e => ?_, fun j k o o' e1 e2 ne => ?_, r.sto, r.nx⟩
  · rcases set_get e with ⟨rfl, e9⟩ | ⟨ne, e9⟩
    · cases e9
      have hj : i < σ.length := by
        have := (List.getElem?_eq_some_iff.mp ‹_›).1
        rw [List.length_set, r.len] at this; exact this
      exact ⟨v, by rw [List.getElem?_set_self hj], h⟩
    · obtain ⟨u, h1, h2⟩ := r.val j _ e9
      exact ⟨u, by rw [List.getElem?_set_ne ne]; exact h1, h2⟩
  · rcases set_get e with ⟨rfl, e9⟩ | ⟨ne, e9⟩
    · cases e9
    · obtain ⟨a, h1, h2⟩ := r.own j _ e9
      exact ⟨a, by rw [List.getElem?_set_ne ne]; exact h1, h2⟩
  · rcases set_get e1 with ⟨rfl, e9⟩ | ⟨ne1, e1⟩
    · cases e9
    · rcases set_get e2 with ⟨rfl, e9⟩ | ⟨ne2, e2⟩
      · cases e9
      · rw [List.getElem?_set_ne ne1, List.getElem?_set_ne ne2]
        exact r.dis j k o o' e1 e2 ne
theorem Rel.drop (r : Rel K P H0 ρ0 Z0 env st σ H ρ Z) (i : Nat) (v : Option V) : Rel K P H0 ρ0 Z0 (env.set i .no) st (σ.set i v) H ρ Z := by
  refine ⟨by simp [r.len], fun j u e => ?_, fun j o e => ?_, fun j k o o' e1 e2 ne => ?_, r.sto, r.nx⟩
  · rcases set_get e with ⟨rfl, e9⟩ | ⟨ne, e9⟩
    · cases e9
    · obtain ⟨u, h1, h2⟩ := r.val j _ e9
      exact ⟨u, by rw [List.getElem?_set_ne ne]; exact h1, h2⟩
  · rcases set_get e with ⟨rfl, e9⟩ | ⟨ne, e9⟩
    · cases e9
    · obtain ⟨a, h1, h2⟩ := r.own j _ e9
      exact ⟨a, by rw [List.getElem?_set_ne ne]; exact h1, h2⟩
  · rcases set_get e1 with ⟨rfl, e9⟩ | ⟨ne1, e1⟩
    · cases e9
    · rcases set_get e2 with ⟨rfl, e9⟩ | ⟨ne2, e2⟩
      · cases e9
      · rw [List.getElem?_set_ne ne1, List.getElem?_set_ne ne2]
        exact r.dis j k o o' e1 e2 ne
theorem Rel.wipe (r : Rel K P H0 ρ0 Z0 env st σ H ρ Z) : ∀ vs : List Nat, Rel K P H0 ρ0 Z0 (wipeE env vs) st (L2.wipe σ vs) H ρ Z
  | [] => r
  | v :: vs => (Rel.wipe r vs).drop v none
theorem wipe_at {σ : L2.St} {k : Nat} : ∀ vs : List Nat, (L2.wipe σ vs)[k]? = if k ∈ vs ∧ k < σ.length then some none else σ[k]?
  | [] => by simp [L2.wipe]
  | v :: vs => by
    show ((L2.wipe σ vs).set v none)[k]? = _
    rw [List.getElem?_set, wipe_length, wipe_at vs]
    by_cases e : v = k
    · subst e
      by_cases hl : v < σ.length
      · simp [hl]
      · simp [hl]
    · rw [if_neg e]
      have : (k ∈ v :: vs) ↔ k ∈ vs := by simp [Ne.symm e]
      simp only [this]
theorem wipe_set {σ : L2.St} {i : Nat} {v : Option V} {own : List Nat} (h : i ∈ own) : L2.wipe (σ.set i v) own = L2.wipe σ own := by
  apply List.ext_getElem?
  intro k
  rw [wipe_at, wipe_at, List.length_set]
  by_cases hk : k ∈ own ∧ k < σ.length
  · rw [if_pos hk, if_pos hk]
  · rw [if_neg hk, if_neg hk, List.getElem?_set]
    split
    · rename_i e
      subst e
      rw [if_neg (fun q => hk ⟨h, q⟩), List.getElem?_eq_none (by
        have : ¬ i < σ.length := fun q => hk ⟨h, q⟩
        omega)]
    · rfl
theorem wipe_wipe {σ : L2.St} (own : List Nat) : L2.wipe (L2.wipe σ own) own = L2.wipe σ own := by
  apply List.ext_getElem?
  intro k
  rw [wipe_at, wipe_length, wipe_at]
  split <;> rfl
theorem Rel.setAll : ∀ {is : List Nat} {ts : List T} {vs : List V} {env : Env} {σ : L2.St}, Rel K P H0 ρ0 Z0 env st σ H ρ Z → RTs K P H Z ρ ts vs → is.length = ts.length →
    ∀ {Q : L2.St → Hp → Prop}, (∀ σ', Rel K P H0 ρ0 Z0 (setAll env is ts) st σ' H ρ Z → (∀ own : List Nat, (∀ i ∈ is, i ∈ own) → L2.wipe σ' own = L2.wipe σ own) → Q σ' H) → gNames is vs σ H Q
  | [], _, _, _, _, r, .nil, _, Q, q => ⟨rfl, q _ r fun _ _ => rfl⟩
  | [], _, _, _, _, r, .cons _ _, e, Q, q => by cases e
  | i :: is, _, _, _, _, r, .nil, e, Q, q => by cases e
  | i :: is, _, _, env, σ, r, .cons (t := t) (v := v) h hs, e, Q, q => by
    refine ⟨v, _, rfl, ?_⟩
    refine Rel.setAll (r.set h i) hs (by simpa using e) fun σ' r' w' => q σ' r' fun own ho => ?_
    rw [w' own fun j hj => ho j (List.mem_cons_of_mem _ hj)]
    exact wipe_set (ho i List.mem_cons_self)
/-- a value comes to a target -/
theorem Rel.put {tg : Tg} {t : T} {v : V} {env' : Env} (r : Rel K P H0 ρ0 Z0 env st σ H ρ Z) (h : RT K P H Z ρ t v) (e : tg.put env t = some env') {Q : L2.St → Hp → Prop}
    (q : ∀ σ', Rel K P H0 ρ0 Z0 env' st σ' H ρ Z → (∀ own : List Nat, tg.ins own = true → L2.wipe σ' own = L2.wipe σ own) → Q σ' H) : gT K tg v σ H Q := by
  cases tg with
  | nm i =>
    cases e
    exact q _ (r.set h i) fun own ho => wipe_set (by simpa [Tg.ins] using ho)
  | tp is =>
    cases t with
    | tup ts =>
      simp only [Tg.put] at e
      split at e
      · rename_i hl
        cases e
        obtain ⟨a, xs, rfl, h1, h2⟩ := (RQ.tup (.inl h) : ∃ a xs, v = .ref a ∧ SqT K H a xs ∧ RTs K P H Z ρ ts xs)
        refine ⟨a, xs, rfl, h1, by rw [← h2.length]; exact hl.symm, Rel.setAll r h2 hl fun σ' r' w' => q σ' r' fun own ho => w' own fun i hi => ?_⟩
        have := List.all_eq_true.mp (show is.all own.contains = true from ho) i hi
        simpa using this
      · cases e
    | _ => cases e
end

/-! ### comprehensions -/
section
variable {K : PySem.W.Frag} {P : Pm} {XX : XR} {W : WX} {G : Nat → List T → Sto → R Ow} {X : Cx} {C : CC} {n : Nat}
theorem lcGo_noexn {f : T → Sto → R (Option T)} : ∀ {ts acc : List T} {s : Sto} {x : Xn} {s' : Sto}, lcGo f ts acc s ≠ .exn x s'
  | [], _, _, _, _, h => by cases h
  | t :: ts, acc, s, x, s', h => by
    unfold lcGo at h
    split at h
    · split at h
      · exact lcGo_noexn h
      · cases h
    · exact lcGo_noexn h
    · cases h
/-- the block within a comprehension: no exception leaves -/
abbrev W0 : WX := fun _ _ _ _ => False
def lcF (P : Pm) (G : Nat → List T → Sto → R Ow) (env : Env) (own : List Nat) (elt : E) (tg : Tg) (cond : Option E) : T → Sto → R (Option T) := fun t s => match tg.put (wipeE env own) t with
  | some env' => (evC P G env' cond s).bind fun k s2 => if k = true then (frzR (evE P G env' elt s2)).bind fun y s3 => .ok (some y) s3 else .ok none s2
  | none => .bad
theorem se_lc {elt tg iter : Expr} {ifs : List Expr} {scope : Scope} {own : List (Str × Nat)} {pos : Pos} {t : Tg} {it : It} {el : E} {cd : Option E} (hK : X.K = K) (hc : X.calm = true) (hN : X.N.Nodup)
    (hi : PI X tg iter (canI K P XX W G (flA K P) it)) (ok : BlkOk X.N X.env.scope scope own) (hin : t.ins (own.map Prod.snd) = true)
    (hg : ∀ (s : Shared) (H : Hp) (C : Addr) (cl : List (Str × Addr)) (fp : List Addr), PG (X.blk s H scope (compEnvC scope cl C X.env) fp) tg (gT K t))
    (ht : ∀ (s : Shared) (H : Hp) (C : Addr) (cl : List (Str × Addr)) (fp : List Addr), PTs (X.blk s H scope (compEnvC scope cl C X.env) fp) ifs (canC K P XX W0 G cd))
    (he : ∀ (s : Shared) (H : Hp) (C : Addr) (cl : List (Str × Addr)) (fp : List Addr), PE (X.blk s H scope (compEnvC scope cl C X.env) fp) elt (canE K P XX W0 G el)) (hs : ∀ x, foldedSetIterable iter X.env x = pure x) :
    (∃ te, (∀ σ H Q, canE K P XX W G (.lc (own.map Prod.snd) el t it cd) σ H Q → te σ H Q) ∧ PE X (.ListComp elt [⟨tg, iter, ifs, 0⟩] scope pos) te ∧
      ∀ {i : Nat} {y : Str} {py spos : Pos}, X.N[i]? = some y → X.env.scope.names.lookup y = some .local → swapsWith (.ListComp elt [⟨tg, iter, ifs, 0⟩] scope pos) (some (.Name y py)) spos.line X.env = pure true →
        PS X (.Assign [.Name y py] (.ListComp elt [⟨tg, iter, ifs, 0⟩] scope pos) spos) (tAsg te (gName i))) := by
  subst hK
  refine ⟨_, ?_, pe_lc hc hN hi ok hg ht (fun s H C cl fp => peFrz (he s H C cl fp)) hs, fun h1 h2 h3 => ps_setLc hc hN h1 h2 h3 hi ok hg ht (fun s H C cl fp => peFrz (he s H C cl fp)) hs⟩
  intro σ H Q z
  refine Can.bind (k := kI (flA X.K P)) (f := fun env ts s1 => (lcGo (lcF P G env (own.map Prod.snd) el t cd) ts [] s1).bind fun xs s2 => .ok (.own (.lst xs)) s2) z (fun env st => rfl) fun H0 ρ0 Z0 env ts s J H1 ρ1 Z1 hJ F w => ?_
  intro D hD
  obtain ⟨Gd, Y, wk, hst, hy⟩ := hJ
  have nzD : ¬ Z1 D := fun z => F.sto.zh D z hD
  have nrD : D ∉ ρ1 := fun z => F.sto.ne z hD rfl
  -- what is left to be done, at the list D
  let WL : R (List T) → Prop := fun r => match r with
    | .ok xs' s' => ∀ xs H' ρ' Z', H' D = some (.lst xs) → RTs X.K P H' Z' ρ' xs' xs → RelS X.K P s' H' ρ' Z' → Nx H1 ρ1 Z1 H' ρ' Z' → ¬ Z' D → D ∉ ρ' → Q (.ref D) H'
    | _ => False
  have w0 : WL (lcGo (lcF P G env (own.map Prod.snd) el t cd) ts [] s) := by
    show (match lcGo (lcF P G env (own.map Prod.snd) el t cd) ts [] s with
      | .ok xs' s' => ∀ xs H' ρ' Z', H' D = some (.lst xs) → RTs X.K P H' Z' ρ' xs' xs → RelS X.K P s' H' ρ' Z' → Nx H1 ρ1 Z1 H' ρ' Z' → ¬ Z' D → D ∉ ρ' → Q (.ref D) H'
      | _ => False)
    cases e : lcGo (lcF P G env (own.map Prod.snd) el t cd) ts [] s with
    | ok xs' s' =>
      rw [e] at w
      intro xs H' ρ' Z' h1 h2 h3 h4 h5 h6
      exact w (.ref D) H' ρ' Z' ⟨D, rfl, .lst h1 h2, hD, h5, h6⟩ h3 h4
    | exn x s' => exact absurd e lcGo_noexn
    | bad => rw [e] at w; exact w
  refine lc_it wk (fun i H => ∃ st acc xs ρ Z, RelS X.K P st H ρ Z ∧ Nx H1 ρ1 Z1 H ρ Z ∧ H D = some (.lst xs) ∧ RTs X.K P H Z ρ acc xs ∧ ¬ Z D ∧ D ∉ ρ ∧ WL (lcGo (lcF P G env (own.map Prod.snd) el t cd) (ts.drop i) acc st)) ?_ ?_ ?_ ?_
  · exact ⟨s, [], [], ρ1, Z1, F.sto.new hD, Nx.new hD, upd_same, .nil, nzD, nrD, by rw [List.drop_zero]; exact w0⟩
  · intro i H2 hi2 ⟨st, acc, xs, ρ, Z, h1, h2, _⟩
    refine hst H2 fun a u e he => h2.ext a u e he
  · intro i x H2 H3 hi2 ⟨st, acc, xs, ρ, Z, h1, h2, h3, h4, h5, h6, h7⟩ yy
    obtain ⟨tt, et⟩ : ∃ tt, ts[i]? = some tt := ⟨ts[i], by simp [hi2]⟩
    obtain ⟨e3, rt⟩ := hy i tt H2 x H3 et yy ρ Z h2.kp
    have ed : ts.drop i = tt :: ts.drop (i + 1) := by
      obtain ⟨hl, e⟩ := List.getElem?_eq_some_iff.mp et
      rw [List.drop_eq_getElem_cons hl, e]
    rw [ed] at h7
    -- the heap with the item
    have n3 : Nx H2 ρ Z H3 ρ Z ∧ RelS X.K P st H3 ρ Z ∧ H3 D = some (.lst xs) := by
      rcases e3 with rfl | ⟨q, ys, hq, rfl⟩
      · exact ⟨Nx.refl, h1, h3⟩
      · exact ⟨Nx.new hq, h1.new hq, by rw [upd_ne (ne_of_none h3 hq)]; exact h3⟩
    obtain ⟨n3, S3, d3⟩ := n3
    have F3 : Rel X.K P H0 ρ0 Z0 env st σ H3 ρ Z := F.step (h2.trans n3) S3
    have h4' := h4.keep n3.kp
    cases ep : t.put (wipeE env (own.map Prod.snd)) tt with
    | none =>
      exfalso
      have e : lcGo (lcF P G env (own.map Prod.snd) el t cd) (tt :: ts.drop (i + 1)) acc st = .bad := by
        simp only [lcGo, lcF, ep]
      rw [e] at h7
      exact h7
    | some env' =>
      refine Rel.put (F3.wipe _) rt ep fun σ' r' w' => ⟨(w' _ hin).trans (wipe_wipe _), ?_⟩
      have eg : lcGo (lcF P G env (own.map Prod.snd) el t cd) (tt :: ts.drop (i + 1)) acc st =
          (match (evC P G env' cd st).bind fun k s2 => if k = true then (frzR (evE P G env' el s2)).bind fun y s3 => .ok (some y) s3 else .ok none s2 with
          | .ok (some x) s1 => if acc.length < 16777216 then lcGo (lcF P G env (own.map Prod.snd) el t cd) (ts.drop (i + 1)) (acc ++ [x]) s1 else .bad
          | .ok none s1 => lcGo (lcF P G env (own.map Prod.snd) el t cd) (ts.drop (i + 1)) acc s1
          | _ => .bad) := by
        show (match lcF P G env (own.map Prod.snd) el t cd tt st with
          | .ok (some x) s1 => if acc.length < 16777216 then lcGo (lcF P G env (own.map Prod.snd) el t cd) (ts.drop (i + 1)) (acc ++ [x]) s1 else .bad
          | .ok none s1 => lcGo (lcF P G env (own.map Prod.snd) el t cd) (ts.drop (i + 1)) acc s1
          | _ => .bad) = _
        unfold lcF
        rw [ep]
      rw [eg] at h7
      cases ec : evC P G env' cd st with
      | bad => rw [ec] at h7; exact h7.elim
      | exn x s' => rw [ec] at h7; exact h7.elim
      | ok k s2 =>
        rw [ec] at h7
        refine ⟨H0, ρ0, Z0, env', st, ρ, Z, r', ?_⟩
        show Wp X.K P XX (kEq Bool) (evC P G env' cd st) H3 ρ Z _ _
        rw [ec]
        intro b H4 ρ4 Z4 hb S4 n4
        cases hb
        have d4 : H4 D = some (.lst xs) := n4.ext D _ d3 h6
        have nr4 : D ∉ ρ4 := by
          obtain ⟨ex, e, f⟩ := n4.rho
          rw [e, List.mem_append]
          rintro (z | z)
          · exact h6 z
          · rw [f D z] at d3; cases d3
        have nz4 : ¬ Z4 D := fun z => by
          rcases n4.znew D z with z | z
          · exact h5 z
          · rw [z] at d3; cases d3
        cases k with
        | false => exact ⟨s2, acc, xs, ρ4, Z4, S4, (h2.trans n3).trans n4, d4, h4'.keep n4.kp _ _, nz4, nr4, h7⟩
        | true =>
          show canF X.K P XX W0 G el σ' H4 _
          have h8 : WL (match (frzR (evE P G env' el s2)).bind fun y s3 => .ok (some y) s3 with
            | .ok (some x) s1 => if acc.length < 16777216 then lcGo (lcF P G env (own.map Prod.snd) el t cd) (ts.drop (i + 1)) (acc ++ [x]) s1 else .bad
            | .ok none s1 => lcGo (lcF P G env (own.map Prod.snd) el t cd) (ts.drop (i + 1)) acc s1
            | _ => .bad) := h7
          cases ee : frzR (evE P G env' el s2) with
          | bad => rw [ee] at h8; exact h8.elim
          | exn x s' => rw [ee] at h8; exact h8.elim
          | ok y s3 =>
            rw [ee] at h8
            have h8 : WL (if acc.length < 16777216 then lcGo (lcF P G env (own.map Prod.snd) el t cd) (ts.drop (i + 1)) (acc ++ [y]) s3 else .bad) := h8
            refine ⟨H0, ρ0, Z0, env', s2, ρ4, Z4, r'.step n4 S4, ?_⟩
            show Wp X.K P XX (kT X.K P) (frzR (evE P G env' el s2)) H4 ρ4 Z4 _ _
            rw [ee]
            intro v H5 ρ5 Z5 hv S5 n5
            have d5 : H5 D = some (.lst xs) := n5.ext D _ d4 nr4
            have nr5 : D ∉ ρ5 := by
              obtain ⟨ex, e, f⟩ := n5.rho
              rw [e, List.mem_append]
              rintro (z | z)
              · exact nr4 z
              · rw [f D z] at d4; cases d4
            have nz5 : ¬ Z5 D := fun z => by
              rcases n5.znew D z with z | z
              · exact nz4 z
              · rw [z] at d4; cases d4
            have l1 : acc.length = xs.length := h4.length
            split at h8
            · rename_i hz
              refine ⟨xs, d5, by rw [← l1]; exact hz, ?_⟩
              have hh : RTs X.K P H5 Z5 ρ5 (acc ++ [y]) (xs ++ [v]) := ((h4'.keep n4.kp _ _).keep n5.kp _ _).append (.cons hv .nil)
              -- the list is written
              have nD : ∀ b, b ∈ ρ5 → b ≠ D := fun b hb e => nr5 (e ▸ hb)
              have kp6 : Kp H5 ρ5 Z5 (upd H5 D (.lst (xs ++ [v]))) ρ5 Z5 := ⟨fun b u e q => by
                by_cases hb : b = D
                · subst hb
                  rw [d5] at e; cases e
                  rcases q with q | q
                  · exact absurd q nz5
                  · exact q.elim
                · rw [upd_ne hb]; exact e, fun _ z => z, [], by simp⟩
              have S6 : RelS X.K P s3 (upd H5 D (.lst (xs ++ [v]))) ρ5 Z5 := S5.keep kp6 (fun b hb => upd_ne (nD b hb)) S5.nz fun b z q => S5.zh b z (by
                by_cases hb : b = D
                · subst hb; exact absurd z nz5
                · rw [upd_ne hb] at q; exact q)
              have n15 := ((h2.trans n3).trans n4).trans n5
              have n6 : Nx H1 ρ1 Z1 (upd H5 D (.lst (xs ++ [v]))) ρ5 Z5 := ⟨fun b u e q => by rw [upd_ne (ne_of_none e hD)]; exact n15.ext b u e q, fun b e => by
                by_cases hb : b = D
                · subst hb; exact hD
                · rw [upd_ne hb] at e; exact n15.there b e, fun b u e q => by rw [upd_ne (ne_of_none e hD)]; exact n15.imm b u e q, n15.zin, n15.znew, n15.rho⟩
              exact ⟨s3, acc ++ [y], xs ++ [v], ρ5, Z5, S6, n6, upd_same, hh.keep kp6 _ _, nz5, nr5, h8⟩
            · exact h8.elim
  · intro H2 ⟨st, acc, xs, ρ, Z, h1, h2, h3, h4, h5, h6, h7⟩
    have e : ts.drop ts.length = [] := List.drop_length
    rw [e] at h7
    exact h7 xs H2 ρ Z h3 h4 h1 h2 h5 h6
end
end TW

set_option Elab.async false
set_option linter.all false
set_option maxRecDepth 100000
set_option maxHeartbeats 4000000
/-! Core9: displays of dicts, chains, tests. -/
namespace TW
open PySem L2
section
variable {K : PySem.W.Frag} {P : Pm} {XX : XR} {W : WX} {G : Nat → List T → Sto → R Ow} {X : Cx} {C : CC} {n : Nat}

/-! ### {..} -/
theorem se_dctT {pos : Pos} : PE X (.Dict [] [] pos) (canE K P XX W G (.dct true [])) := peImp pe_dnewT fun σ H Q z => by
  obtain ⟨H0, ρ0, Z0, env, st, ρ, Z, F, w⟩ := z
  exact fun p hp => Wp.newO (show Wp K P XX (kOw K P) (.ok (.own (.dt [])) st) H ρ Z Q _ from w) F.sto hp (.dt upd_same .nil)
theorem se_dctK {pos : Pos} : PE X (.Dict [] [] pos) (canE K P XX W G (.dct false [])) := peImp pe_dnewK fun σ H Q z => by
  obtain ⟨H0, ρ0, Z0, env, st, ρ, Z, F, w⟩ := z
  exact fun p hp => Wp.newO (show Wp K P XX (kOw K P) (.ok (.own (.dk [])) st) H ρ Z Q _ from w) F.sto hp (.dk upd_same .nil)
variable (K P XX W G)
def trsOf : List E → List (TE × TE)
  | c :: d :: r => (canF K P XX W G c, canF K P XX W G d) :: trsOf r
  | _ => []
variable {K P XX W G}
def pairsV : List V → List (V × V)
  | k :: v :: r => (k, v) :: pairsV r
  | _ => []
theorem tPairs_of : ∀ (m : Nat) (cs : List E), cs.length = 2 * m → ∀ {σ : L2.St} {H : Hp} {Q : List (V × V) → Hp → Prop} {H0 : Hp} {ρ0 : List Addr} {Z0 : Addr → Prop} {env : Env} {st : Sto} {ρ : List Addr} {Z : Addr → Prop},
    Rel K P H0 ρ0 Z0 env st σ H ρ Z → Wp K P XX (kTs K P) (evEs P G env cs st) H ρ Z (fun vs H' => Q (pairsV vs) H') (fun cls d H' => W cls d σ H') → tPairs (trsOf K P XX W G cs) σ H Q
  | 0, [], _, σ, H, Q, H0, ρ0, Z0, env, st, ρ, Z, F, w => w [] H ρ Z .nil F.sto Nx.refl
  | 0, _ :: _, h, _, _, _, _, _, _, _, _, _, _, _, _ => by simp at h
  | m + 1, [], h, _, _, _, _, _, _, _, _, _, _, _, _ => by simp at h
  | m + 1, [_], h, _, _, _, _, _, _, _, _, _, _, _, _ => by simp at h; omega
  | m + 1, c :: d :: r, h, σ, H, Q, H0, ρ0, Z0, env, st, ρ, Z, F, w => by
    have w : Wp K P XX (kTs K P) ((frzR (evE P G env c st)).bind fun x s1 => (evEs P G env (d :: r) s1).bind fun xs s2 => .ok (x :: xs) s2) H ρ Z (fun vs H' => Q (pairsV vs) H') _ := w
    refine ⟨H0, ρ0, Z0, env, st, ρ, Z, F, w.bind (k := kT K P) fun x s1 v H1 ρ1 Z1 h1 S1 n1 w1 => ?_⟩
    have F1 := F.step n1 S1
    have w1 : Wp K P XX (kTs K P) (((frzR (evE P G env d s1)).bind fun y s2 => (evEs P G env r s2).bind fun ys s3 => .ok (y :: ys) s3).bind fun xs s2 => .ok (x :: xs) s2) H1 ρ1 Z1 (fun vs H' => Q (pairsV vs) H') _ := w1
    have e1 : (((frzR (evE P G env d s1)).bind fun y s2 => (evEs P G env r s2).bind fun ys s3 => .ok (y :: ys) s3).bind fun xs s2 => R.ok (x :: xs) s2) =
        ((frzR (evE P G env d s1)).bind fun y s2 => ((evEs P G env r s2).bind fun ys s3 => .ok (x :: y :: ys) s3)) := by
      simp only [R.bind]
      cases frzR (evE P G env d s1) with
      | ok y s2 => simp only; cases evEs P G env r s2 <;> rfl
      | exn _ _ => rfl
      | bad => rfl
    rw [e1] at w1
    refine ⟨H0, ρ0, Z0, env, s1, ρ1, Z1, F1, w1.bind (k := kT K P) fun y s2 u H2 ρ2 Z2 h2 S2 n2 w2 => ?_⟩
    refine tPairs_of m r (by simp at h; omega) (F1.step n2 S2) (w2.bind (k := kTs K P) fun ys s3 us H3 ρ3 Z3 h3 S3 n3 w3 => ?_)
    exact w3 (v :: u :: us) H3 ρ3 Z3 (.cons ((h1.keep n2.kp).keep n3.kp) (.cons (h2.keep n3.kp) h3)) S3 Nx.refl
theorem RTk.anyk {H : Hp} {Z : Addr → Prop} {ρ : List Addr} {κ : Key} {ts : List (Key × T)} {vs : List (Key × V)} (h : RTk K P H Z ρ ts vs) : (vs.any fun p => decide (p.1 = κ)) = ts.any fun p => decide (p.1 = κ) := h.any
theorem RTk.map {H : Hp} {Z : Addr → Prop} {ρ : List Addr} {κ : Key} {t : T} {v : V} (h : RT K P H Z ρ t v) : ∀ {ts : List (Key × T)} {vs : List (Key × V)}, RTk K P H Z ρ ts vs →
    RTk K P H Z ρ (ts.map fun kv => if kv.1 = κ then (kv.1, t) else kv) (vs.map fun kv => if kv.1 = κ then (kv.1, v) else kv)
  | _, _, .nil => .nil
  | _, _, .cons (k := k) h1 r => by
    rw [List.map_cons, List.map_cons]
    by_cases e : k = κ
    · simp only [e, if_true]; exact .cons h (RTk.map h r)
    · simp only [e, if_false]; exact .cons h1 (RTk.map h r)
theorem RTk.snoc {H : Hp} {Z : Addr → Prop} {ρ : List Addr} {κ : Key} {t : T} {v : V} (h : RT K P H Z ρ t v) : ∀ {ts : List (Key × T)} {vs : List (Key × V)}, RTk K P H Z ρ ts vs → RTk K P H Z ρ (ts ++ [(κ, t)]) (vs ++ [(κ, v)])
  | _, _, .nil => .cons h .nil
  | _, _, .cons h1 r => .cons h1 (RTk.snoc h r)
theorem RTk.put {H : Hp} {Z : Addr → Prop} {ρ : List Addr} {κ : Key} {t : T} {v : V} (h : RT K P H Z ρ t v) {ts : List (Key × T)} {vs : List (Key × V)} (r : RTk K P H Z ρ ts vs) : RTk K P H Z ρ (dPut κ t ts) (putK vs κ v) := by
  unfold dPut putK
  rw [r.any (κ := κ)]
  split
  · exact RTk.map h r
  · exact RTk.snoc h r
theorem RTt.map {H : Hp} {Z : Addr → Prop} {ρ : List Addr} {κ : List Key} {t : T} {v : V} (h : RT K P H Z ρ t v) : ∀ {ts : List (List Key × T)} {vs : List (List Key × V)}, RTt K P H Z ρ ts vs →
    RTt K P H Z ρ (ts.map fun kv => if kv.1 = κ then (kv.1, t) else kv) (vs.map fun kv => if kv.1 = κ then (kv.1, v) else kv)
  | _, _, .nil => .nil
  | _, _, .cons (k := k) h1 r => by
    rw [List.map_cons, List.map_cons]
    by_cases e : k = κ
    · simp only [e, if_true]; exact .cons h (RTt.map h r)
    · simp only [e, if_false]; exact .cons h1 (RTt.map h r)
theorem RTt.snoc {H : Hp} {Z : Addr → Prop} {ρ : List Addr} {κ : List Key} {t : T} {v : V} (h : RT K P H Z ρ t v) : ∀ {ts : List (List Key × T)} {vs : List (List Key × V)}, RTt K P H Z ρ ts vs → RTt K P H Z ρ (ts ++ [(κ, t)]) (vs ++ [(κ, v)])
  | _, _, .nil => .cons h .nil
  | _, _, .cons h1 r => .cons h1 (RTt.snoc h r)
theorem RTt.put {H : Hp} {Z : Addr → Prop} {ρ : List Addr} {κ : List Key} {t : T} {v : V} (h : RT K P H Z ρ t v) {ts : List (List Key × T)} {vs : List (List Key × V)} (r : RTt K P H Z ρ ts vs) : RTt K P H Z ρ (dPut κ t ts) (putK vs κ v) := by
  unfold dPut putK
  rw [r.any (κ := κ)]
  split
  · exact RTt.map h r
  · exact RTt.snoc h r
theorem dkAll_of {H : Hp} {Z : Addr → Prop} {ρ : List Addr} : ∀ (m : Nat) (ts : List T) (vs : List V) (acc kvs : List (Key × T)) (accV : List (Key × V)), ts.length = 2 * m → RTs K P H Z ρ ts vs → RTk K P H Z ρ acc accV → dkAll ts acc = some kvs →
    ∃ more : List (Key × V), pairsV vs = more.map (fun kv => (kV kv.1, kv.2)) ∧ more.length = m ∧ RTk K P H Z ρ kvs (mergeK accV more)
  | 0, [], _, acc, kvs, accV, _, .nil, h, e => by cases e; exact ⟨[], rfl, rfl, h⟩
  | 0, _ :: _, _, _, _, _, h, _, _, _ => by simp at h
  | m + 1, [], _, _, _, _, h, _, _, _ => by simp at h
  | m + 1, [_], _, _, _, _, h, _, _, _ => by simp at h; omega
  | m + 1, k :: v :: r, _, acc, kvs, accV, hl, .cons hk (.cons hv hr), h, e => by
    unfold dkAll at e
    cases ek : k.key? with
    | none => rw [ek] at e; cases e
    | some q =>
      rw [ek] at e
      have e : dkAll r (dPut q v acc) = some kvs := e
      obtain ⟨more, h1, h2, h3⟩ := dkAll_of m r _ _ kvs _ (by simp at hl; omega) hr (RTk.put (κ := q) hv h) e
      cases key_rt (.inl hk) ek
      exact ⟨(q, _) :: more, by show (kV q, _) :: pairsV _ = _; rw [h1]; rfl, by rw [List.length_cons, h2], h3⟩
theorem evEs_length {P : Pm} {G : Nat → List T → Sto → R Ow} {env : Env} : ∀ {cs : List E} {st s : Sto} {ts : List T}, evEs P G env cs st = .ok ts s → ts.length = cs.length
  | [], st, s, ts, h => by cases h; rfl
  | c :: cs, st, s, ts, h => by
    have h : (frzR (evE P G env c st)).bind (fun x s1 => (evEs P G env cs s1).bind fun xs s2 => .ok (x :: xs) s2) = .ok ts s := h
    cases e : frzR (evE P G env c st) with
    | ok x s1 =>
      rw [e] at h
      have h : (evEs P G env cs s1).bind (fun xs s2 => .ok (x :: xs) s2) = .ok ts s := h
      cases e2 : evEs P G env cs s1 with
      | ok xs s2 => rw [e2] at h; cases h; simp [evEs_length e2]
      | exn _ _ => rw [e2] at h; cases h
      | bad => rw [e2] at h; cases h
    | exn _ _ => rw [e] at h; cases h
    | bad => rw [e] at h; cases h
theorem se_dct {keys : List (Option Expr)} {values : List Expr} {cs : List E} {m : Nat} {pos : Pos} (h : PPs X pos keys values (trsOf K P XX W G cs)) (hall : keys.all (·.isSome) = true) (hl : keys.length = values.length) (h0 : keys ≠ [])
    (h15 : keys.length ≤ 15) (hm : cs.length = 2 * m) (hk : keys.length = m) : PE X (.Dict keys values pos) (canE K P XX W G (.dct false cs)) := by
  refine peImp (pe_disp h hall hl h0 h15) fun σ H Q z => ?_
  obtain ⟨H0, ρ0, Z0, env, st, ρ, Z, F, w⟩ := z
  have w : Wp K P XX (kOw K P) ((evEs P G env cs st).bind fun xs s1 => R.of ((dkAll xs []).map fun kvs => .own (.dk kvs)) s1) H ρ Z Q _ := w
  intro p hp
  have F1 : Rel K P H0 ρ0 Z0 env st σ (upd H p (.dK [])) ρ Z := F.step (Nx.new hp) (F.sto.new hp)
  have np : p ∉ ρ := fun z => F.sto.ne z hp rfl
  have zp : ¬ Z p := fun z => F.sto.zh p z hp
  refine tPairs_of m cs hm F1 ?_
  cases e : evEs P G env cs st with
  | bad => rw [e] at w; exact w
  | exn x s => rw [e] at w; exact fun cls d H' ρ' Z' h1 h2 h3 => w cls d H' ρ' Z' h1 h2 ((Nx.new hp).trans h3)
  | ok ts s =>
    rw [e] at w
    intro vs H' ρ' Z' h1 h2 h3
    have hp' : H' p = some (.dK []) := h3.ext p _ upd_same np
    obtain ⟨wo, e2, w⟩ := Wp.get (show Wp K P XX (kOw K P) (R.of ((dkAll ts []).map fun kvs => .own (.dk kvs)) s) H ρ Z Q _ from w)
    obtain ⟨kvs, e3, e4⟩ := Option.map_eq_some_iff.mp e2
    subst e4
    obtain ⟨more, q1, q2, q3⟩ := dkAll_of m ts vs [] kvs [] (by rw [evEs_length e, hm]) h1 .nil e3
    refine ⟨hp', more, q1, by omega, ?_⟩
    have np' : p ∉ ρ' := by
      obtain ⟨ex, e, f⟩ := h3.rho
      rw [e, List.mem_append]
      rintro (z | z)
      · exact np z
      · have := f p z
        rw [upd_same] at this; cases this
    have zp' : ¬ Z' p := fun z => by
      rcases h3.znew p z with z | z
      · exact zp z
      · rw [upd_same] at z; cases z
    have kp : Kp H' ρ' Z' (upd H' p (.dK (mergeK [] more))) ρ' Z' := ⟨fun b u e q => by
      by_cases hb : b = p
      · subst hb
        rw [hp'] at e; cases e
        rcases q with q | q
        · exact absurd q zp'
        · exact q.elim
      · rw [upd_ne hb]; exact e, fun _ z => z, [], by simp⟩
    refine w (.ref p) _ ρ' Z' ⟨p, rfl, .dk upd_same (RTk.keep kp _ _ q3), hp, zp', np'⟩ (h2.keep kp (fun b hb => upd_ne fun e => np' (e ▸ hb)) h2.nz fun b z q => h2.zh b z (by
      by_cases hb : b = p
      · subst hb; exact absurd z zp'
      · rw [upd_ne hb] at q; exact q)) ?_
    have n := (Nx.new (ρ := ρ) (Z := Z) (o := .dK []) hp).trans h3
    exact ⟨fun b u e q => by rw [upd_ne (ne_of_none e hp)]; exact n.ext b u e q, fun b e => by
      by_cases hb : b = p
      · subst hb; exact hp
      · rw [upd_ne hb] at e; exact n.there b e, fun b u e q => by rw [upd_ne (ne_of_none e hp)]; exact n.imm b u e q, n.zin, n.znew, n.rho⟩

/-! ### a < b < c -/
theorem opCmp_rt {st : Sto} {op : Cop} {x y : T} {k : Bool} {H : Hp} {Z : Addr → Prop} {ρ : List Addr} {v u : V} {Q : VK} (S : RelS K P st H ρ Z) (hx : RQ K P H Z ρ x v) (hy : RQ K P H Z ρ y u) (e : opCmp P st op x y = some k)
    (q : ∀ H' ρ' Z', RelS K P st H' ρ' Z' → Nx H ρ Z H' ρ' Z' → Q (.bl k) H') : rCm K P XX (fun st x y => opCmp P st op x y) v u H Q :=
  ⟨st, ρ, Z, x, y, fun _ _ _ => False, S, hx, hy, by
    show Wp K P XX (kOw K P) (R.of ((opCmp P st op x y).map fun k => .val (.bl k)) st) H ρ Z Q _
    rw [e]
    intro b H' ρ' Z' h1 h2 h3
    cases (show RT K P H' Z' ρ' (.bl k) b from h1)
    exact q H' ρ' Z' h2 h3⟩
theorem chn_imp {ca cb cc : E} {o1 o2 : Cop} {σ : L2.St} {H : Hp} {Q : VK} (z : canE K P XX W G (.chn o1 o2 ca cb cc) σ H Q) :
    tChain (rCm K P XX fun st x y => opCmp P st o1 x y) (rCm K P XX fun st x y => opCmp P st o2 x y) (canO K P XX W G ca) (canO K P XX W G cb) (canO K P XX W G cc) σ H Q := by
  refine Can.bind2 (k1 := kQ K P) (k2 := kQ K P) (k3 := kOw K P) (f := fun env x y s2 => (R.of (opCmp P s2 o1 x y) s2).bind fun k s2 =>
      if k = true then (opd env cc (evE P G env cc s2) s2).bind fun z s3 => R.of ((opCmp P s3 o2 y z).map fun k => .val (.bl k)) s3 else .ok (.val (.bl false)) s2) kQ_q kQ_q z (fun env st => rfl) fun H0 ρ0 Z0 env x y s v u H' ρ' Z' hx hy F w => ?_
  cases e1 : opCmp P s o1 x y with
  | none => rw [e1] at w; exact w.elim
  | some k =>
    rw [e1] at w
    refine opCmp_rt F.sto hx hy e1 fun H2 ρ2 Z2 S2 n2 => ⟨k, rfl, ?_⟩
    have w := Wp.from_ w n2
    have F2 := F.step n2 S2
    cases k with
    | false => exact w (.bl false) H2 ρ2 Z2 (RT.bl _) S2 Nx.refl
    | true =>
      have w : Wp K P XX (kOw K P) ((opd env cc (evE P G env cc s) s).bind fun z s3 => R.of ((opCmp P s3 o2 y z).map fun k => .val (.bl k)) s3) H2 ρ2 Z2 Q _ := w
      refine ⟨H0, ρ0, Z0, env, s, ρ2, Z2, F2, w.bind (k := kQ K P) fun t s3 b H3 ρ3 Z3 h3 S3 n3 w3 => ?_⟩
      exact ⟨s3, ρ3, Z3, y, t, _, S3, (hy.keep n2).keep n3, h3, w3⟩
theorem se_chn {a b c : Expr} {ca cb cc : E} {o1 o2 : Cop} {pos : Pos} (hK : X.K = K) (hu : X.A.units + 65 < cLine) (ha : PE X a (canO K P XX W G ca)) (hb : PE X b (canO K P XX W G cb)) (hc : PE X c (canO K P XX W G cc)) (hm : lastMarks [o1.py, o2.py] [b, c] = false) :
    PE X (.Compare a [o1.py, o2.py] [b, c] pos) (canE K P XX W G (.chn o1 o2 ca cb cc)) ∧ PT X (.Compare a [o1.py, o2.py] [b, c] pos) (tTest (canE K P XX W G (.chn o1 o2 ca cb cc))) := by
  subst hK
  exact ⟨peImp (pe_chain (op_cmpT (P := P) (XX := XX) hu o1) (op_cmpT (P := P) (XX := XX) hu o2) ha hb hc hm) fun _ _ _ z => chn_imp z,
    ptImp (pt_chain (op_cmpT (P := P) (XX := XX) hu o1) (op_cmpT (P := P) (XX := XX) hu o2) ha hb hc hm) fun _ _ _ z => chn_imp z⟩

/-! ### tests -/
theorem evC_some {env : Env} {c : E} {st : Sto} : evC P G env (some c) st = (frzR (evE P G env c st)).bind fun x s1 => R.of (bool? x) s1 := rfl
theorem canB_E {c : E} {σ : L2.St} {H : Hp} {Q : Bool → Hp → Prop} (z : canB K P XX W G c σ H Q) : canE K P XX W G c σ H fun x H' => ∃ k, x = .bl k ∧ Q k H' := by
  refine canF_E (Can.bind (k := kT K P) (f := fun env x s1 => R.of (bool? x) s1) z (fun env st => rfl) fun H0 ρ0 Z0 env x s v H' ρ' Z' hx F w => ?_)
  obtain ⟨k, e, w⟩ := w.get
  exact ⟨k, bool_rt hx e, w k H' ρ' Z' rfl F.sto Nx.refl⟩
theorem st_test {e : Expr} {c : E} (h : PT X e (tTest (canE K P XX W G c))) : PT X e (canB K P XX W G c) := ptImp h fun _ _ _ z => canB_E z
theorem st_val {e : Expr} {c : E} (h : PE X e (canE K P XX W G c)) (he : ∀ whole, isTrue e X.env whole = (do let v ← whole; standAt e.pos; holding [v] (truthy v))) : PT X e (canB K P XX W G c) := ptImp (pt_val h he) fun _ _ _ z => canB_E z
theorem st_cmp {a b : Expr} {ca cb : E} {op : Cop} {pos : Pos} (hK : X.K = K) (hu : X.A.units + 65 < cLine) (ha : PE X a (canO K P XX W G ca)) (hb : PE X b (canO K P XX W G cb)) (hm : behindInMarks op.py b = false) :
    PT X (.Compare a [op.py] [b] pos) (canB K P XX W G (.cmp op ca cb)) := by
  subst hK
  refine ptImp (pt_cmpR (op_cmpT (P := P) (XX := XX) hu op) ha hb hm) fun σ H Q z => ?_
  exact Can.bind2 (k1 := kQ X.K P) (k2 := kQ X.K P) (k3 := kOw X.K P) (f := fun env x y s2 => R.of ((opCmp P s2 op x y).map fun k => .val (.bl k)) s2) kQ_q kQ_q (canB_E z) (fun env st => rfl)
    fun H0 ρ0 Z0 env x y s v u H' ρ' Z' hx hy F w => ⟨s, ρ', Z', x, y, _, F.sto, hx, hy, w⟩
/-- the outcome of a test in two parts -/
theorem evC_and {env : Env} {a b : E} {st : Sto} : evC P G env (some (.and a b)) st = (evC P G env (some a) st).bind fun k s1 => if k = true then evC P G env (some b) s1 else .ok false s1 := by
  show (frzR ((frzR (evE P G env a st)).bind fun x s1 => (R.of (bool? x) s1).bind fun k s1 => if k = true then evE P G env b s1 else .ok (.val (.bl false)) s1)).bind (fun x s1 => R.of (bool? x) s1) = ((frzR (evE P G env a st)).bind fun x s1 => R.of (bool? x) s1).bind _
  cases frzR (evE P G env a st) with
  | ok x s =>
    show (frzR ((R.of (bool? x) s).bind fun k s1 => if k = true then evE P G env b s1 else .ok (.val (.bl false)) s1)).bind (fun x s1 => R.of (bool? x) s1) = (R.of (bool? x) s).bind _
    cases bool? x with
    | none => rfl
    | some k => cases k <;> rfl
  | exn _ _ => rfl
  | bad => rfl
theorem evC_or {env : Env} {a b : E} {st : Sto} : evC P G env (some (.or a b)) st = (evC P G env (some a) st).bind fun k s1 => if k = true then .ok true s1 else evC P G env (some b) s1 := by
  show (frzR ((frzR (evE P G env a st)).bind fun x s1 => (R.of (bool? x) s1).bind fun k s1 => if k = true then .ok (.val (.bl true)) s1 else evE P G env b s1)).bind (fun x s1 => R.of (bool? x) s1) = ((frzR (evE P G env a st)).bind fun x s1 => R.of (bool? x) s1).bind _
  cases frzR (evE P G env a st) with
  | ok x s =>
    show (frzR ((R.of (bool? x) s).bind fun k s1 => if k = true then .ok (.val (.bl true)) s1 else evE P G env b s1)).bind (fun x s1 => R.of (bool? x) s1) = (R.of (bool? x) s).bind _
    cases bool? x with
    | none => rfl
    | some k => cases k <;> rfl
  | exn _ _ => rfl
  | bad => rfl
theorem evC_not {env : Env} {a : E} {st : Sto} : evC P G env (some (.not a)) st = (evC P G env (some a) st).bind fun k s1 => .ok (!k) s1 := by
  show (frzR ((frzR (evE P G env a st)).bind fun x s1 => R.of ((bool? x).map fun k => .val (.bl (!k))) s1)).bind (fun x s1 => R.of (bool? x) s1) = ((frzR (evE P G env a st)).bind fun x s1 => R.of (bool? x) s1).bind _
  cases frzR (evE P G env a st) with
  | ok x s => cases x <;> rfl
  | exn _ _ => rfl
  | bad => rfl
theorem st_and {a b : Expr} {rest : List Expr} {ca cb : E} {pos : Pos} (ha : PT X a (canB K P XX W G ca)) (hb : PW X (.BoolOp .And (b :: rest) pos) (canB K P XX W G cb)) : PW X (.BoolOp .And (a :: b :: rest) pos) (canB K P XX W G (.and ca cb)) := by
  refine pwImp (pw_and ha hb) fun σ H Q z => ?_
  refine Can.bind (k := kEq Bool) (f := fun env k s1 => if k = true then evC P G env (some cb) s1 else .ok false s1) z (fun env st => evC_and) fun H0 ρ0 Z0 env x s v H' ρ' Z' hx F w => ?_
  cases hx
  cases x with
  | true => exact ⟨H0, ρ0, Z0, env, s, ρ', Z', F, w⟩
  | false => exact w false H' ρ' Z' rfl F.sto Nx.refl
theorem st_or {a b : Expr} {rest : List Expr} {ca cb : E} {pos : Pos} (ha : PT X a (canB K P XX W G ca)) (hb : PW X (.BoolOp .Or (b :: rest) pos) (canB K P XX W G cb)) : PW X (.BoolOp .Or (a :: b :: rest) pos) (canB K P XX W G (.or ca cb)) := by
  refine pwImp (pw_or ha hb) fun σ H Q z => ?_
  refine Can.bind (k := kEq Bool) (f := fun env k s1 => if k = true then .ok true s1 else evC P G env (some cb) s1) z (fun env st => evC_or) fun H0 ρ0 Z0 env x s v H' ρ' Z' hx F w => ?_
  cases hx
  cases x with
  | true => exact w true H' ρ' Z' rfl F.sto Nx.refl
  | false => exact ⟨H0, ρ0, Z0, env, s, ρ', Z', F, w⟩
theorem st_not {a : Expr} {ca : E} {pos : Pos} (ha : PT X a (canB K P XX W G ca)) : PT X (.UnaryOp .Not a pos) (canB K P XX W G (.not ca)) := by
  refine ptImp (pt_not ha) fun σ H Q z => ?_
  refine Can.bind (k := kEq Bool) (f := fun env k s1 => .ok (!k) s1) z (fun env st => evC_not) fun H0 ρ0 Z0 env x s v H' ρ' Z' hx F w => ?_
  cases hx
  exact w (!x) H' ρ' Z' rfl F.sto Nx.refl
end
end TW

set_option Elab.async false
set_option linter.all false
set_option maxRecDepth 100000
set_option maxHeartbeats 4000000
/-! Core10: what the compiler gives runs as the text does: expressions. -/
namespace TW
open PySem L2
section
variable {C : CC} {dtg : DTag}
/-! ### the text's own forms -/
def notStar : Expr → Bool
  | .Starred _ _ => false
  | _ => true
theorem cE_star {n : Nat} {sc : Scope} {e : Expr} {c : E} (h : cE C dtg n sc e = some c) : notStar e = true := by
  cases n with
  | zero => simp [cE] at h
  | succ n => cases e <;> first | rfl | simp [cE] at h
theorem star_one {e : Expr} (h : notStar e = true) (es : List Expr) (env : PySem.Env) : starEach (e :: es) env = (false, eval e env) :: starEach es env := by
  cases e <;> first | rfl | cases h
theorem star_any {env : PySem.Env} {pos : Pos} : ∀ {es : List Expr}, es.all notStar = true → (backTo pos (starEach es env)).any (·.1) = false
  | [], _ => rfl
  | e :: es, h => by
    rw [List.all_cons, Bool.and_eq_true] at h
    rw [star_one h.1]
    have := star_any (env := env) (pos := pos) h.2
    unfold backTo at this ⊢
    rw [List.map_cons, List.any_cons, this]
    rfl
theorem cO_star {n : Nat} {sc : Scope} {e : Expr} {c : E} (h : cO C dtg n sc e = some c) : notStar e = true := by
  cases n with
  | zero => simp [cO] at h
  | succ n =>
    by_cases q : ∃ x p, e = .Name x p
    · obtain ⟨x, p, rfl⟩ := q; rfl
    · have e2 : cO C dtg (n + 1) sc e = cE C dtg n sc e := by
        cases e <;> first | exact absurd ⟨_, _, rfl⟩ q | rfl
      rw [e2] at h
      exact cE_star h
theorem cE_plainIx {n : Nat} {sc : Scope} {e : Expr} {c : E} (h : cE C dtg n sc e = some c) : PlainIx e := by
  cases n with
  | zero => simp [cE] at h
  | succ n => cases e <;> first | (intro o i; rfl) | simp [cE] at h
theorem cE_fold {n : Nat} {sc : Scope} {e : Expr} {c : E} (h : cE C dtg n sc e = some c) (env : PySem.Env) (x : Value) : foldedSetIterable e env x = pure x := by
  cases n with
  | zero => simp [cE] at h
  | succ n => cases e <;> first | rfl | simp [cE] at h
theorem cO_fold {n : Nat} {sc : Scope} {e : Expr} {c : E} (h : cO C dtg n sc e = some c) (env : PySem.Env) (x : Value) : foldedSetIterable e env x = pure x := by
  cases n with
  | zero => simp [cO] at h
  | succ n =>
    by_cases q : ∃ x p, e = .Name x p
    · obtain ⟨x, p, rfl⟩ := q; rfl
    · have e2 : cO C dtg (n + 1) sc e = cE C dtg n sc e := by
        cases e <;> first | exact absurd ⟨_, _, rfl⟩ q | rfl
      rw [e2] at h
      exact cE_fold h env x
theorem pt_ifExp {X : Cx} {c a b : Expr} {pos : Pos} {tc ta tb : TT} (hc : PT X c tc) (ha : PT X a ta) (hb : PT X b tb) : PT X (.IfExp c a b pos) (fun σ H Q => tc σ H fun k H1 => if k = true then ta σ H1 Q else tb σ H1 Q) := by
  refine ⟨fun pins s σ H Q I h => ?_⟩
  show wpAny _ _ (isTrue c X.env (eval c X.env) >>= fun k => if k = true then isTrue a X.env (eval a X.env) else isTrue b X.env (eval b X.env)) _ _ _
  refine wpAny_bind (thn (hc.run pins s σ H _ I h) fun k s1 ⟨H1, I1, q⟩ => ?_)
  cases k with
  | true => exact ha.run pins s1 σ H1 Q I1 q
  | false => exact hb.run pins s1 σ H1 Q I1 q
section
variable {K : PySem.W.Frag} {P : Pm} {XX : XR} {W : WX} {G : Nat → List T → Sto → R Ow} {X : Cx}
theorem evC_ifx {env : Env} {c a b : E} {st : Sto} : evC P G env (some (.ifx c a b)) st = (evC P G env (some c) st).bind fun k s1 => if k = true then evC P G env (some a) s1 else evC P G env (some b) s1 := by
  show (frzR ((frzR (evE P G env c st)).bind fun x s1 => (R.of (bool? x) s1).bind fun k s1 => if k = true then evE P G env a s1 else evE P G env b s1)).bind (fun x s1 => R.of (bool? x) s1) = ((frzR (evE P G env c st)).bind fun x s1 => R.of (bool? x) s1).bind _
  cases frzR (evE P G env c st) with
  | ok x s =>
    show (frzR ((R.of (bool? x) s).bind fun k s1 => if k = true then evE P G env a s1 else evE P G env b s1)).bind (fun x s1 => R.of (bool? x) s1) = (R.of (bool? x) s).bind _
    cases bool? x with
    | none => rfl
    | some k => cases k <;> rfl
  | exn _ _ => rfl
  | bad => rfl
theorem st_ifx {c a b : Expr} {cc ca cb : E} {pos : Pos} (hc : PT X c (canB K P XX W G cc)) (ha : PT X a (canB K P XX W G ca)) (hb : PT X b (canB K P XX W G cb)) : PT X (.IfExp c a b pos) (canB K P XX W G (.ifx cc ca cb)) := by
  refine ptImp (pt_ifExp hc ha hb) fun σ H Q z => ?_
  refine Can.bind (k := kEq Bool) (f := fun env k s1 => if k = true then evC P G env (some ca) s1 else evC P G env (some cb) s1) z (fun env st => evC_ifx) fun H0 ρ0 Z0 env x s v H' ρ' Z' hx F w => ?_
  cases hx
  cases x with
  | true => exact ⟨H0, ρ0, Z0, env, s, ρ', Z', F, w⟩
  | false => exact ⟨H0, ρ0, Z0, env, s, ρ', Z', F, w⟩
end

/-! ### one step of the compiler -/
section
variable (C dtg) (K : PySem.W.Frag) (P : Pm) (XX : XR) (G : Nat → List T → Sto → R Ow) (k : Nat)
structure Sound (n : Nat) : Prop where
  e : ∀ sc e c, cE C dtg n sc e = some c → (∀ i, c ≠ .pk i) ∧ ∀ X W, Ctx K P XX C G k X W → X.env.scope = sc → PE X e (canE K P XX W G c) ∧ PT X e (canB K P XX W G c)
  o : ∀ sc e c, cO C dtg n sc e = some c → ∀ X W, Ctx K P XX C G k X W → X.env.scope = sc → PE X e (canO K P XX W G c)
  es : ∀ sc fl e c, cEs C dtg n sc fl e = some c → e.all notStar = true ∧ e.length = c.length ∧ ∀ X W, Ctx K P XX C G k X W → X.env.scope = sc → PA X e (canA K P XX W G c)
  ps : ∀ sc ks vs es c, pairUp ks vs = some es → cEs C dtg n sc [] es = some c → ∀ X W, Ctx K P XX C G k X W → X.env.scope = sc → ∀ pos, PPs X pos ks vs (trsOf K P XX W G c)
  a : ∀ sc e c, cAnd C dtg n sc e = some c → e ≠ [] ∧ (∀ i, c ≠ .pk i) ∧ ∀ X W, Ctx K P XX C G k X W → X.env.scope = sc → ∀ pos, PE X (.BoolOp .And e pos) (canE K P XX W G c) ∧ PW X (.BoolOp .And e pos) (canB K P XX W G c)
  r : ∀ sc e c, cOr C dtg n sc e = some c → e ≠ [] ∧ (∀ i, c ≠ .pk i) ∧ ∀ X W, Ctx K P XX C G k X W → X.env.scope = sc → ∀ pos, PE X (.BoolOp .Or e pos) (canE K P XX W G c) ∧ PW X (.BoolOp .Or e pos) (canB K P XX W G c)
  p : ∀ sc e c, cP C dtg n sc e = some c → ∀ X W, Ctx K P XX C G k X W → X.env.scope = sc → PO X e (canP K P XX W G c)
  f : ∀ sc e c, cIf C dtg n sc e = some c → ∀ X W, Ctx K P XX C G k X W → X.env.scope = sc → PTs X e (canC K P XX W G c)
  i : ∀ sc two e c, cI C dtg n sc two e = some c → (∀ env x, foldedSetIterable e env x = pure x) ∧ ∀ X W, Ctx K P XX C G k X W → X.env.scope = sc → ∀ tg, (two = true → ∃ elts kk tpos, tg = .Tuple elts kk tpos) → PI X tg e (canI K P XX W G (flA K P) c)
end
section
variable {K : PySem.W.Frag} {P : Pm} {XX : XR} {G : Nat → List T → Sto → R Ow} {k n : Nat}
theorem sound0 : Sound C dtg K P XX G k 0 where
  e := fun _ _ _ h => by simp [cE] at h
  o := fun _ _ _ h => by simp [cO] at h
  es := fun _ _ _ _ h => by simp [cEs] at h
  ps := fun _ _ _ _ _ _ h => by simp [cEs] at h
  a := fun _ _ _ h => by simp [cAnd] at h
  r := fun _ _ _ h => by simp [cOr] at h
  p := fun _ _ _ h => by simp [cP] at h
  f := fun _ _ _ h => by simp [cIf] at h
  i := fun _ _ _ _ h => by simp [cI] at h
variable (s : Sound C dtg K P XX G k n)
include s
theorem step_o {sc : Scope} {e : Expr} {c : E} (h : cO C dtg (n + 1) sc e = some c) {X : Cx} {W : WX} (cx : Ctx K P XX C G k X W) (hs : X.env.scope = sc) : PE X e (canO K P XX W G c) := by
  by_cases q : ∃ x p, e = .Name x p
  · obtain ⟨x, p, rfl⟩ := q
    simp only [cO] at h
    split at h
    · rename_i hv
      obtain ⟨i, h1, rfl⟩ := Option.map_eq_some_iff.mp h
      obtain ⟨v1, v2, v3⟩ := vis_ok hv
      exact se_pk (by rw [cx.N]; exact ixOf_at h1) (by rw [hs]; exact v1) v2 v3
    · split at h
      · rename_i hv hg
        obtain ⟨t, h1, rfl⟩ := Option.map_eq_some_iff.mp h
        obtain ⟨u, v, c1, c2, c3⟩ := cx.cons x t h1
        obtain ⟨g1, g2⟩ := gl_ok (X := X) hg hs
        exact peOpr (se_con (pe_glob g1 c1 c2 g2) cx.K (by rw [cx.K] at c3; exact c3)) fun i q => nomatch q
      · cases h
  · have e2 : cO C dtg (n + 1) sc e = cE C dtg n sc e := by
      cases e <;> first | exact absurd ⟨_, _, rfl⟩ q | rfl
    rw [e2] at h
    obtain ⟨h1, h2⟩ := s.e sc e c h
    exact peOpr (h2 X W cx hs).1 h1
theorem step_es {sc : Scope} {fl : List Bool} {es : List Expr} {cs : List E} (h : cEs C dtg (n + 1) sc fl es = some cs) : es.all notStar = true ∧ es.length = cs.length ∧ ∀ X W, Ctx K P XX C G k X W → X.env.scope = sc → PA X es (canA K P XX W G cs) := by
  cases es with
  | nil => cases h; exact ⟨rfl, rfl, fun X W cx hs => sa_nil⟩
  | cons e es =>
    obtain ⟨c, cs', h1, h2, rfl⟩ := opt2_some (show opt2 ((cE C dtg n sc e).map (mkW (fl.headD false))) (cEs C dtg n sc fl.tail es) (· :: ·) = some cs from h)
    obtain ⟨c0, h3, rfl⟩ := Option.map_eq_some_iff.mp h1
    obtain ⟨a1, a2, a3⟩ := s.es sc fl.tail es cs' h2
    have st := cE_star h3
    refine ⟨by rw [List.all_cons, st, a1]; rfl, by simp [a2], fun X W cx hs => sa_cons ?_ (a3 X W cx hs) (star_one st es _)⟩
    have h := ((s.e sc e c0 h3).2 X W cx hs).1
    cases fl.headD false with
    | false => exact h
    | true => exact peImp h fun _ _ _ => mkr_imp
theorem step_and {sc : Scope} {es : List Expr} {c : E} (h : cAnd C dtg (n + 1) sc es = some c) : es ≠ [] ∧ (∀ i, c ≠ .pk i) ∧ ∀ X W, Ctx K P XX C G k X W → X.env.scope = sc → ∀ pos, PE X (.BoolOp .And es pos) (canE K P XX W G c) ∧ PW X (.BoolOp .And es pos) (canB K P XX W G c) := by
  cases es with
  | nil => simp [cAnd] at h
  | cons e es =>
    cases es with
    | nil =>
      simp only [cAnd] at h
      obtain ⟨h1, h2⟩ := s.e sc e c h
      exact ⟨by simp, h1, fun X W cx hs pos => ⟨pe_one (h2 X W cx hs).1, pw_and1 (h2 X W cx hs).2⟩⟩
    | cons e2 es =>
      simp only [cAnd] at h
      obtain ⟨c1, c2, h1, h2, rfl⟩ := opt2_some h
      obtain ⟨_, _, a3⟩ := s.a sc (e2 :: es) c2 h2
      exact ⟨by simp, (fun i q => nomatch q), fun X W cx hs pos => ⟨se_and ((s.e sc e c1 h1).2 X W cx hs).1 (a3 X W cx hs pos).1, st_and ((s.e sc e c1 h1).2 X W cx hs).2 (a3 X W cx hs pos).2⟩⟩
theorem step_or {sc : Scope} {es : List Expr} {c : E} (h : cOr C dtg (n + 1) sc es = some c) : es ≠ [] ∧ (∀ i, c ≠ .pk i) ∧ ∀ X W, Ctx K P XX C G k X W → X.env.scope = sc → ∀ pos, PE X (.BoolOp .Or es pos) (canE K P XX W G c) ∧ PW X (.BoolOp .Or es pos) (canB K P XX W G c) := by
  cases es with
  | nil => simp [cOr] at h
  | cons e es =>
    cases es with
    | nil =>
      simp only [cOr] at h
      obtain ⟨h1, h2⟩ := s.e sc e c h
      exact ⟨by simp, h1, fun X W cx hs pos => ⟨pe_one (h2 X W cx hs).1, pw_or1 (h2 X W cx hs).2⟩⟩
    | cons e2 es =>
      simp only [cOr] at h
      obtain ⟨c1, c2, h1, h2, rfl⟩ := opt2_some h
      obtain ⟨_, _, a3⟩ := s.r sc (e2 :: es) c2 h2
      exact ⟨by simp, (fun i q => nomatch q), fun X W cx hs pos => ⟨se_or ((s.e sc e c1 h1).2 X W cx hs).1 (a3 X W cx hs pos).1, st_or ((s.e sc e c1 h1).2 X W cx hs).2 (a3 X W cx hs pos).2⟩⟩
theorem step_p {sc : Scope} {e : Option Expr} {c : Option E} (h : cP C dtg (n + 1) sc e = some c) {X : Cx} {W : WX} (cx : Ctx K P XX C G k X W) (hs : X.env.scope = sc) : PO X e (canP K P XX W G c) := by
  cases e with
  | none => cases h; exact sp_none
  | some e =>
    obtain ⟨c', h1, rfl⟩ := Option.map_eq_some_iff.mp (show (cE C dtg n sc e).map some = some c from h)
    exact sp_some ((s.e sc e c' h1).2 X W cx hs).1
theorem step_f {sc : Scope} {e : List Expr} {c : Option E} (h : cIf C dtg (n + 1) sc e = some c) {X : Cx} {W : WX} (cx : Ctx K P XX C G k X W) (hs : X.env.scope = sc) : PTs X e (canC K P XX W G c) := by
  cases e with
  | nil =>
    cases h
    refine ptsImp pts_nil fun σ H Q z => ?_
    obtain ⟨H0, ρ0, Z0, env, st, ρ, Z, F, w⟩ := z
    exact w true H ρ Z rfl F.sto Nx.refl
  | cons e es =>
    cases es with
    | nil =>
      simp only [cIf] at h
      obtain ⟨c', h1, rfl⟩ := Option.map_eq_some_iff.mp h
      exact pts_one ((s.e sc e c' h1).2 X W cx hs).2
    | cons e2 es => simp [cIf] at h
end
end
end TW

set_option Elab.async false
set_option linter.all false
set_option maxRecDepth 100000
set_option maxHeartbeats 4000000
/-! Core11: one step of the compiler, go on. -/
namespace TW
open PySem L2
section
variable {C : CC} {dtg : DTag} {K : PySem.W.Frag} {P : Pm} {XX : XR} {G : Nat → List T → Sto → R Ow} {k n : Nat}
variable (s : Sound C dtg K P XX G k n)
include s
theorem step_ps {sc : Scope} {ks : List (Option Expr)} {vs : List Expr} {es : List Expr} {c : List E} (hu : pairUp ks vs = some es) (h : cEs C dtg (n + 1) sc [] es = some c) {X : Cx} {W : WX} (cx : Ctx K P XX C G k X W) (hs : X.env.scope = sc) (pos : Pos)
    (s' : ∀ m, m + 1 = n → Sound C dtg K P XX G k m) : PPs X pos ks vs (trsOf K P XX W G c) := by
  cases ks with
  | nil =>
    cases vs with
    | nil => cases hu; cases h; exact pps_nil
    | cons _ _ => cases hu
  | cons k0 ks =>
    cases k0 with
    | none => cases vs <;> cases hu
    | some k0 =>
      cases vs with
      | nil => cases hu
      | cons v vs =>
        obtain ⟨r, hr, rfl⟩ := Option.map_eq_some_iff.mp (show (pairUp ks vs).map (fun r => k0 :: v :: r) = some es from hu)
        obtain ⟨c1', cs1, h1', h2, rfl⟩ := opt2_some (show opt2 ((cE C dtg n sc k0).map (mkW false)) (cEs C dtg n sc [] (v :: r)) (· :: ·) = some c from h)
        obtain ⟨c1, h1, rfl⟩ := Option.map_eq_some_iff.mp h1'
        cases n with
        | zero => simp [cE] at h1
        | succ m =>
          obtain ⟨c2', cs2, h3', h4, rfl⟩ := opt2_some (show opt2 ((cE C dtg m sc v).map (mkW false)) (cEs C dtg m sc [] r) (· :: ·) = some cs1 from h2)
          obtain ⟨c2, h3, rfl⟩ := Option.map_eq_some_iff.mp h3'
          have sm := s' m rfl
          exact pps_cons (peFrz ((s.e sc k0 c1 h1).2 X W cx hs).1) (peFrz ((sm.e sc v c2 h3).2 X W cx hs).1) (sm.ps sc ks vs r cs2 hr h4 X W cx hs pos)
theorem i_seq {sc : Scope} {e : Expr} {c : It} (h : (cO C dtg n sc e).map It.seq = some c) : (∀ env x, foldedSetIterable e env x = pure x) ∧ ∀ X W, Ctx K P XX C G k X W → X.env.scope = sc → ∀ tg, PI X tg e (canI K P XX W G (flA K P) c) := by
  obtain ⟨c', h1, rfl⟩ := Option.map_eq_some_iff.mp h
  exact ⟨cO_fold h1, fun X W cx hs tg => si_seq (f := flA K P) cx.K (s.o sc e c' h1 X W cx hs)⟩
theorem step_i {sc : Scope} {two : Bool} {e : Expr} {c : It} (h : cI C dtg (n + 1) sc two e = some c) : (∀ env x, foldedSetIterable e env x = pure x) ∧ ∀ X W, Ctx K P XX C G k X W → X.env.scope = sc → ∀ tg, (two = true → ∃ elts kk tpos, tg = .Tuple elts kk tpos) → PI X tg e (canI K P XX W G (flA K P) c) := by
  have fin : ∀ {e : Expr}, (cO C dtg n sc e).map It.seq = some c → (∀ env x, foldedSetIterable e env x = pure x) ∧ ∀ X W, Ctx K P XX C G k X W → X.env.scope = sc → ∀ tg, (two = true → ∃ elts kk tpos, tg = .Tuple elts kk tpos) → PI X tg e (canI K P XX W G (flA K P) c) := fun h => by
    obtain ⟨h1, h2⟩ := i_seq s h
    exact ⟨h1, fun X W cx hs tg _ => h2 X W cx hs tg⟩
  cases e with
  | Set _ _ _ => simp [cI] at h
  | Call f args kw pos =>
    refine ⟨fun _ _ => rfl, fun X W cx hs tg ht => ?_⟩
    simp only [cI] at h
    split at h
    · rename_i x p a
      split at h
      · rename_i hb
        obtain ⟨g1, g2, g3⟩ := b_ok cx hb hs
        split at h
        · rename_i e; subst e
          obtain ⟨c', h1, rfl⟩ := Option.map_eq_some_iff.mp h
          exact si_rng1 g1 g3 ((s.e sc a c' h1).2 X W cx hs).1 (star_one (cE_star h1) _ _)
        · split at h
          · rename_i e; subst e
            split at h
            · rename_i tw
              obtain ⟨elts, kk, tpos, rfl⟩ := ht tw
              obtain ⟨c', h1, rfl⟩ := Option.map_eq_some_iff.mp h
              exact si_enum (f := flA K P) cx.K g1 g3 (s.o sc a c' h1 X W cx hs) (star_one (cO_star h1) _ _)
            · cases h
          · exact (fin h).2 X W cx hs tg ht
      · exact (fin h).2 X W cx hs tg ht
    · rename_i x p a b
      split at h
      · rename_i hb
        obtain ⟨g1, g2, g3⟩ := b_ok cx hb hs
        split at h
        · rename_i e; subst e
          obtain ⟨c1, c2, h1, h2, rfl⟩ := opt2_some h
          have s1 := star_one (cE_star h1)
          have s2 := star_one (cE_star h2)
          exact si_rng2 g1 g3 ((s.e sc a c1 h1).2 X W cx hs).1 ((s.e sc b c2 h2).2 X W cx hs).1 (by rw [s1, s2]; rfl) (by rw [s2]; rfl)
        · split at h
          · rename_i e; subst e
            split at h
            · rename_i tw
              obtain ⟨elts, kk, tpos, rfl⟩ := ht tw
              obtain ⟨c1, c2, h1, h2, rfl⟩ := opt2_some h
              have s1 := star_one (cO_star h1)
              have s2 := star_one (cO_star h2)
              exact si_zip (f := flA K P) cx.K g1 g3 (s.o sc a c1 h1 X W cx hs) (s.o sc b c2 h2 X W cx hs) (s1 _ _) (s2 _ _) (star_any (by rw [List.all_cons, cO_star h2]; rfl))
            · cases h
          · exact (fin h).2 X W cx hs tg ht
      · exact (fin h).2 X W cx hs tg ht
    · rename_i x p a b d
      split at h
      · rename_i hb
        obtain ⟨g1, g2, g3⟩ := b_ok cx hb hs
        split at h
        · rename_i e; subst e
          obtain ⟨c1, c2, c3, h1, h2, h3, rfl⟩ := opt3_some h
          have s1 := star_one (cE_star h1)
          have s2 := star_one (cE_star h2)
          have s3 := star_one (cE_star h3)
          exact si_rng3 g1 g3 ((s.e sc a c1 h1).2 X W cx hs).1 ((s.e sc b c2 h2).2 X W cx hs).1 ((s.e sc d c3 h3).2 X W cx hs).1 (by rw [s1, s2, s3]; rfl) (by rw [s2, s3]; rfl) (by rw [s3]; rfl)
        · exact (fin h).2 X W cx hs tg ht
      · exact (fin h).2 X W cx hs tg ht
    · exact (fin h).2 X W cx hs tg ht
  | _ => exact fin (by simpa only [cI] using h)

/-! ### targets -/
omit s in
theorem tgNames_ok {X : Cx} {N : List Str} {ok : Str → Bool} (hN : X.N = N) (nd : X.N.Nodup) (hok : ∀ x, ok x = true → Loc X.env.scope x ∧ (X.fn x = true ∨ X.env.scope.names.lookup x = some .local)) : ∀ {es : List Expr} {is : List Nat}, tgNames N ok es = some is →
    PGs X es (gNames is) ∧ (assignEach es X.env).length = is.length ∧ (assignEach es X.env).findIdx? (·.1) = none
  | [], _, h => by cases h; exact ⟨pgs_nil, rfl, rfl⟩
  | e :: es, is, h => by
    cases e with
    | Name x p =>
      simp only [tgNames] at h
      split at h
      · rename_i hx
        split at h
        · rename_i i is' h1 h2
          cases h
          obtain ⟨a1, a2, a3⟩ := tgNames_ok hN nd hok h2
          obtain ⟨l1, l2⟩ := hok x hx
          refine ⟨pgs_cons (pg_name (i := i) nd (by rw [hN]; exact ixOf_at h1) l1 l2) a1 rfl, congrArg (· + 1) a2, ?_⟩
          show (((false, _) :: assignEach es X.env).findIdx? (·.1)) = none
          rw [List.findIdx?_cons]
          simp [a3]
        · cases h
      · cases h
    | _ => simp [tgNames] at h
omit s in
theorem cTg_ok {X : Cx} {N : List Str} {ok : Str → Bool} {e : Expr} {t : Tg} (hc : X.calm = true) (hN : X.N = N) (nd : X.N.Nodup) (hok : ∀ x, ok x = true → Loc X.env.scope x ∧ (X.fn x = true ∨ X.env.scope.names.lookup x = some .local)) (h : cTg N ok e = some t) :
    PG X e (gT X.K t) ∧ (t.two = true → ∃ elts kk tpos, e = .Tuple elts kk tpos) := by
  cases e with
  | Name x p =>
    simp only [cTg] at h
    split at h
    · rename_i hx
      obtain ⟨i, h1, rfl⟩ := Option.map_eq_some_iff.mp h
      obtain ⟨l1, l2⟩ := hok x hx
      exact ⟨pg_name nd (by rw [hN]; exact ixOf_at h1) l1 l2, fun q => nomatch q⟩
    · cases h
  | Tuple es kk p =>
    obtain ⟨is, h1, rfl⟩ := Option.map_eq_some_iff.mp (show (tgNames N ok es).map Tg.tp = some t from h)
    obtain ⟨a1, a2, a3⟩ := tgNames_ok hN nd hok h1
    exact ⟨pg_tup hc a1 a2 a3, fun _ => ⟨_, _, _, rfl⟩⟩
  | _ => simp [cTg] at h

/-! ### a comprehension -/
omit s in
theorem Ctx.blk {X : Cx} {W : WX} (cx : Ctx K P XX C G k X W) (s : Shared) (H : Hp) (scope : Scope) (cenv : PySem.Env) (fp : List Addr) : Ctx K P XX C G k (X.blk s H scope cenv fp) W0 :=
  ⟨cx.K, cx.N, cx.calm, cx.nd, takes_none5, PassesOwn.never, cx.room, cx.fns, cx.bl, cx.cons, cx.exc⟩
theorem relS_scope {X : Cx} {scope : Scope} {cl : List (Str × Addr)} {Ca : Addr} : (compEnvC scope cl Ca X.env).scope = relS scope X.env.scope := rfl
end
end TW

set_option Elab.async false
set_option linter.all false
set_option maxRecDepth 100000
set_option maxHeartbeats 4000000
/-! Core12: one step of the compiler: all expressions. -/
namespace TW
open PySem L2
section
variable {X : Cx} {P : Pm} {XX : XR} {a b : Expr} {p pos : Pos} {t : TA}
theorem blt_pe {x : Str} {q : Blt} (h : bltOf x = some q) (hc : X.calm = true) (g : Gl X x) (m : X.mg x = none) (d : (x == ("__debug__" : Str)) = false) (hst : starEach [a] X.env = (false, eval a X.env) :: starEach [] X.env) (ha : PA X [a] t) :
    PE X (.Call (.Name x p) [a] [] pos) (tCB (rBlt X.K P XX q) t) := by
  unfold bltOf at h
  repeat' split at h
  all_goals (first | cases h | skip)
  all_goals rename_i e
  all_goals subst e
  · exact pe_callB call_lenT g m (by decide +kernel) ha (by decide) d hst rfl
  · exact pe_callTy call_tupleOf g m (by decide +kernel) ha (by decide) d hst rfl
  · exact pe_callTy call_listOf g m (by decide +kernel) ha (by decide) d hst rfl
  · exact pe_callTy call_intOf g m (by decide +kernel) ha (by decide) d hst rfl
  · exact pe_callB call_absT g m (by decide +kernel) ha (by decide) d hst rfl
  · exact pe_callB (call_sumT hc) g m (by decide +kernel) ha (by decide) d hst rfl
  · exact pe_callB (call_maxT hc) g m (by decide +kernel) ha (by decide) d hst rfl
  · exact pe_callB (call_minT hc) g m (by decide +kernel) ha (by decide) d hst rfl
  · exact pe_callB call_sortedT g m (by decide +kernel) ha (by decide) d hst rfl
  · exact pe_callB (call_anyT hc) g m (by decide +kernel) ha (by decide) d hst rfl
  · exact pe_callB (call_allT hc) g m (by decide +kernel) ha (by decide) d hst rfl
theorem isOf_ty {y : Str} {q : Blt} (h : isOf y = some q) (g : Gl X y) (m : X.mg y = none) (d : (y == ("__debug__" : Str)) = false) : isBlt q = true ∧ PE X (.Name y p) (tC (.ty q.nm)) := by
  unfold isOf at h
  repeat' split at h
  all_goals (first | cases h | skip)
  all_goals rename_i e
  all_goals subst e
  all_goals exact ⟨rfl, pe_bltn g m (by decide +kernel) rfl (by decide) d⟩
end
section
variable {C : CC} {dtg : DTag} {K : PySem.W.Frag} {P : Pm} {XX : XR} {G : Nat → List T → Sto → R Ow} {k n : Nat}
theorem pairUp_len : ∀ {ks : List (Option Expr)} {vs es : List Expr}, pairUp ks vs = some es → es.length = 2 * ks.length ∧ ks.length = vs.length ∧ ks.all (·.isSome) = true
  | [], [], es, h => by cases h; exact ⟨rfl, rfl, rfl⟩
  | [], _ :: _, _, h => by cases h
  | none :: _, vs, _, h => by cases vs <;> cases h
  | some _ :: _, [], _, h => by cases h
  | some k :: ks, v :: vs, es, h => by
    obtain ⟨r, h1, rfl⟩ := Option.map_eq_some_iff.mp (show (pairUp ks vs).map (fun r => k :: v :: r) = some es from h)
    obtain ⟨a1, a2, a3⟩ := pairUp_len h1
    refine ⟨by simp [a1]; omega, by simp [a2], ?_⟩
    rw [List.all_cons, a3]; rfl
variable (s : Sound C dtg K P XX G k n)
include s
/-- a comprehension, as a value and as what a name is set to -/
theorem step_lc {sc : Scope} {elt : Expr} {gens : List Comprehension} {scope : Scope} {pos : Pos} {c : E} (h : cE C dtg (n + 1) sc (.ListComp elt gens scope pos) = some c) {X : Cx} {W : WX} (cx : Ctx K P XX C G k X W) (hs : X.env.scope = sc) :
    (∀ i, c ≠ .pk i) ∧ ∃ te, (∀ σ H Q, canE K P XX W G c σ H Q → te σ H Q) ∧ PE X (.ListComp elt gens scope pos) te ∧
      ∀ {i : Nat} {y : Str} {py spos : Pos}, X.N[i]? = some y → X.env.scope.names.lookup y = some .local → swapsWith (.ListComp elt gens scope pos) (some (.Name y py)) spos.line X.env = pure true →
        PS X (.Assign [.Name y py] (.ListComp elt gens scope pos) spos) (tAsg te (gName i)) := by
  simp only [cE] at h
  split at h
  · rename_i tg iter ifs
    split at h
    · rename_i hblk
      split at h
      · rename_i t ht
        split at h
        · rename_i hin
          split at h
          · rename_i it el cd h1 h2 h3
            cases h
            refine ⟨fun i q => (nomatch q), ?_⟩
            have hok : ∀ (s0 : Shared) (H : Hp) (Ca : Addr) (cl : List (Str × Addr)) (fp : List Addr), ∀ x, okL scope x = true → Loc (X.blk s0 H scope (compEnvC scope cl Ca X.env) fp).env.scope x ∧
                ((X.blk s0 H scope (compEnvC scope cl Ca X.env) fp).fn x = true ∨ (X.blk s0 H scope (compEnvC scope cl Ca X.env) fp).env.scope.names.lookup x = some .local) := by
              intro s0 H Ca cl fp x hx
              unfold okL at hx
              rw [Bool.or_eq_true, decide_eq_true_eq, decide_eq_true_eq] at hx
              rcases hx with hx | hx
              · have : (relS scope X.env.scope).names.lookup x = some .local := lookup_relS_keep (sc := X.env.scope) (by decide) hx
                exact ⟨.inl this, .inr this⟩
              · have : (relS scope X.env.scope).names.lookup x = some .cell := lookup_relS_keep (sc := X.env.scope) (by decide) hx
                exact ⟨.inr this, .inl (by show (scope.names.lookup x == some .cell) = true; rw [hx]; rfl)⟩
            have tgp : ∀ (s0 : Shared) (H : Hp) (Ca : Addr) (cl : List (Str × Addr)) (fp : List Addr), PG (X.blk s0 H scope (compEnvC scope cl Ca X.env) fp) tg (gT X.K t) := fun s0 H Ca cl fp =>
              (cTg_ok (X := X.blk s0 H scope (compEnvC scope cl Ca X.env) fp) cx.calm cx.N cx.nd (hok s0 H Ca cl fp) ht).1
            have two := (cTg_ok (X := X.blk X.s_0 X.H_0 scope (compEnvC scope [] 0 X.env) []) cx.calm cx.N cx.nd (hok _ _ _ _ _) ht).2
            obtain ⟨i1, i2⟩ := s.i sc _ iter it h1
            have hK := cx.K
            refine se_lc (own := ownOf C.N scope) cx.K cx.calm cx.nd (i2 X W cx hs tg two) (blkOk_by (by rw [cx.N, hs]; exact hblk)) hin (fun s0 H Ca cl fp => by rw [← hK]; exact tgp s0 H Ca cl fp) (fun s0 H Ca cl fp => ?_) (fun s0 H Ca cl fp => ?_) (i1 X.env)
            · exact s.f _ ifs cd h3 _ _ (cx.blk s0 H scope _ fp) (by rw [← hs]; rfl)
            · exact ((s.e _ elt el h2).2 _ _ (cx.blk s0 H scope _ fp) (by rw [← hs]; rfl)).1
          · cases h
        · cases h
      · cases h
    · cases h
  · cases h
theorem step_e (s' : ∀ m, m + 1 = n → Sound C dtg K P XX G k m) {sc : Scope} {e : Expr} {c : E} (h : cE C dtg (n + 1) sc e = some c) :
    (∀ i, c ≠ .pk i) ∧ ∀ X W, Ctx K P XX C G k X W → X.env.scope = sc → PE X e (canE K P XX W G c) ∧ PT X e (canB K P XX W G c) := by
  have both : ∀ {X : Cx} {W : WX}, (∀ whole, isTrue e X.env whole = (do let v ← whole; standAt e.pos; holding [v] (truthy v))) → PE X e (canE K P XX W G c) → PE X e (canE K P XX W G c) ∧ PT X e (canB K P XX W G c) := fun he h => ⟨h, st_val h he⟩
  cases e with
  | Name x p =>
    simp only [cE] at h
    split at h
    · rename_i hv
      obtain ⟨i, h1, rfl⟩ := Option.map_eq_some_iff.mp h
      obtain ⟨v1, v2, v3⟩ := vis_ok hv
      exact ⟨fun i q => (nomatch q), fun X W cx hs => both (fun _ => rfl) (se_var (by rw [cx.N]; exact ixOf_at h1) (by rw [hs]; exact v1) v2 v3)⟩
    · split at h
      · rename_i hv hg
        obtain ⟨t, h1, rfl⟩ := Option.map_eq_some_iff.mp h
        refine ⟨fun i q => (nomatch q), fun X W cx hs => both (fun _ => rfl) ?_⟩
        obtain ⟨u, v, c1, c2, c3⟩ := cx.cons x t h1
        obtain ⟨g1, g2⟩ := gl_ok (X := X) hg hs
        exact se_con (pe_glob g1 c1 c2 g2) cx.K (by rw [cx.K] at c3; exact c3)
      · cases h
  | Constant v j p =>
    simp only [cE] at h
    split at h
    · cases h; exact ⟨fun i q => (nomatch q), fun X W cx hs => both (fun _ => rfl) (se_con pe_int cx.K fun _ _ _ => .int _)⟩
    · cases h; exact ⟨fun i q => (nomatch q), fun X W cx hs => both (fun _ => rfl) (se_con pe_bl cx.K fun _ _ _ => .bl _)⟩
    · cases h; exact ⟨fun i q => (nomatch q), fun X W cx hs => both (fun _ => rfl) (se_con pe_non cx.K fun _ _ _ => .non)⟩
    · cases h; exact ⟨fun i q => (nomatch q), fun X W cx hs => both (fun _ => rfl) (se_con pe_str cx.K fun _ _ _ => .str _)⟩
    · cases h
  | BinOp a op b p =>
    simp only [cE] at h
    split at h
    · rename_i o ho
      obtain ⟨c1, c2, h1, h2, rfl⟩ := opt2_some h
      cases bopOf_py ho
      exact ⟨fun i q => (nomatch q), fun X W cx hs => both (fun _ => rfl) (se_bin cx.K (s.o sc a c1 h1 X W cx hs) (s.o sc b c2 h2 X W cx hs))⟩
    · cases h
  | UnaryOp op a p =>
    simp only [cE] at h
    split at h
    · obtain ⟨c1, h1, rfl⟩ := Option.map_eq_some_iff.mp h
      exact ⟨fun i q => (nomatch q), fun X W cx hs => both (fun _ => rfl) (se_neg ((s.e sc a c1 h1).2 X W cx hs).1)⟩
    · obtain ⟨c1, h1, rfl⟩ := Option.map_eq_some_iff.mp h
      exact ⟨fun i q => (nomatch q), fun X W cx hs => ⟨se_not ((s.e sc a c1 h1).2 X W cx hs).1, st_not ((s.e sc a c1 h1).2 X W cx hs).2⟩⟩
    · cases h
  | Compare a ops bs p =>
    simp only [cE] at h
    split at h
    · split at h
      · cases h
      · rename_i op b hm
        split at h
        · rename_i o ho
          obtain ⟨c1, c2, h1, h2, rfl⟩ := opt2_some h
          cases copOf_py ho
          have hm := Bool.eq_false_iff.mpr hm
          exact ⟨fun i q => (nomatch q), fun X W cx hs => ⟨se_cmp cx.K cx.hu (s.o sc a c1 h1 X W cx hs) (s.o sc b c2 h2 X W cx hs) hm, st_cmp cx.K cx.hu (s.o sc a c1 h1 X W cx hs) (s.o sc b c2 h2 X W cx hs) hm⟩⟩
        · cases h
    · split at h
      · cases h
      · rename_i op op' b c' hm
        split at h
        · rename_i o o' ho ho'
          obtain ⟨c1, c2, c3, h1, h2, h3, rfl⟩ := opt3_some h
          cases copOf_py ho
          cases copOf_py ho'
          have hm := Bool.eq_false_iff.mpr hm
          refine ⟨fun i q => (nomatch q), fun X W cx hs => ?_⟩
          obtain ⟨q1, q2⟩ := se_chn (XX := XX) (P := P) (W := W) (G := G) (pos := p) cx.K cx.hu (s.o sc a c1 h1 X W cx hs) (s.o sc b c2 h2 X W cx hs) (s.o sc c' c3 h3 X W cx hs) hm
          exact ⟨q1, st_test q2⟩
        · cases h
    · cases h
  | BoolOp op es p =>
    simp only [cE] at h
    split at h
    · obtain ⟨_, h1, h2⟩ := s.a sc es c h
      exact ⟨h1, fun X W cx hs => ⟨(h2 X W cx hs p).1, (h2 X W cx hs p).2.pt⟩⟩
    · obtain ⟨_, h1, h2⟩ := s.r sc es c h
      exact ⟨h1, fun X W cx hs => ⟨(h2 X W cx hs p).1, (h2 X W cx hs p).2.pt⟩⟩
  | IfExp t a b p =>
    simp only [cE] at h
    obtain ⟨c1, c2, c3, h1, h2, h3, rfl⟩ := opt3_some h
    exact ⟨fun i q => (nomatch q), fun X W cx hs => ⟨se_ifx ((s.e sc t c1 h1).2 X W cx hs).2 ((s.e sc a c2 h2).2 X W cx hs).1 ((s.e sc b c3 h3).2 X W cx hs).1,
      st_ifx ((s.e sc t c1 h1).2 X W cx hs).2 ((s.e sc a c2 h2).2 X W cx hs).2 ((s.e sc b c3 h3).2 X W cx hs).2⟩⟩
  | Tuple es j p =>
    simp only [cE] at h
    obtain ⟨cs, h1, rfl⟩ := Option.map_eq_some_iff.mp h
    exact ⟨fun i q => (nomatch q), fun X W cx hs => both (fun _ => rfl) (se_tup ((s.es sc [] es cs h1).2.2 X W cx hs))⟩
  | List es p =>
    simp only [cE] at h
    obtain ⟨cs, h1, rfl⟩ := Option.map_eq_some_iff.mp h
    exact ⟨fun i q => (nomatch q), fun X W cx hs => both (fun _ => rfl) (se_lst ((s.es sc [] es cs h1).2.2 X W cx hs))⟩
  | Subscript a b p =>
    simp only [cE] at h
    split at h
    · split at h
      · obtain ⟨c1, c2, c3, h1, h2, h3, rfl⟩ := opt3_some h
        exact ⟨fun i q => (nomatch q), fun X W cx hs => both (fun _ => rfl) (se_sl cx.K (s.o sc a c1 h1 X W cx hs) (s.p sc _ c2 h2 X W cx hs) (s.p sc _ c3 h3 X W cx hs))⟩
      · split at h
        · split at h
          · rename_i e
            subst e
            obtain ⟨c', h1, rfl⟩ := Option.map_eq_some_iff.mp h
            exact ⟨fun i q => (nomatch q), fun X W cx hs => both (fun _ => rfl) (se_rev cx.K (s.o sc a c' h1 X W cx hs))⟩
          · cases h
        · cases h
    · obtain ⟨c1, c2, h1, h2, rfl⟩ := opt2_some h
      exact ⟨fun i q => (nomatch q), fun X W cx hs => both (fun _ => rfl) (se_ix cx.K cx.hu (s.o sc a c1 h1 X W cx hs) ((s.e sc b c2 h2).2 X W cx hs).1 (cE_plainIx h2))⟩
  | Dict ks vs p =>
    simp only [cE] at h
    split at h
    · rename_i es he
      obtain ⟨l1, l2, l3⟩ := pairUp_len he
      split at h
      · cases h
        have hk : ks = [] := by
          cases ks with
          | nil => rfl
          | cons _ _ => simp at l1
        subst hk
        have hv : vs = [] := by
          cases vs with
          | nil => rfl
          | cons _ _ => simp at l2
        subst hv
        refine ⟨fun i q => (nomatch q), fun X W cx hs => both (fun _ => rfl) ?_⟩
        cases dtg p with
        | true => exact se_dctT
        | false => exact se_dctK
      · split at h
        · obtain ⟨cs, h1, rfl⟩ := Option.map_eq_some_iff.mp h
          rename_i hne hz
          obtain ⟨_, e2, _⟩ := s.es sc [] es cs h1
          refine ⟨fun i q => (nomatch q), fun X W cx hs => both (fun _ => rfl) (se_dct (m := ks.length) (s.ps sc ks vs es cs he h1 X W cx hs p) l3 l2 (fun q => ?_) (of_decide_eq_true hz) (by omega) rfl)⟩
          subst q
          simp at l1
          exact hne (by simpa using l1)
        · cases h
    · cases h
  | ListComp elt gens scope p =>
    refine ⟨?_, fun X W cx hs => ?_⟩
    · intro i q
      subst q
      simp only [cE] at h
      repeat' split at h
      all_goals cases h
    · obtain ⟨_, te, h1, h2, _⟩ := step_lc s h cx hs
      exact both (fun _ => rfl) (peImp h2 h1)
  | Call f args kw p =>
    simp only [cE] at h
    split at h
    · rename_i x p0
      split at h
      · rename_i hg
        split at h
        · rename_i i hi
          split at h
          · cases h
          · rename_i as hne
            obtain ⟨cs, h1, rfl⟩ := Option.map_eq_some_iff.mp h
            refine ⟨fun i q => (nomatch q), fun X W cx hs => both (fun _ => rfl) ?_⟩
            obtain ⟨g1, g2⟩ := gl_ok (X := X) hg hs
            obtain ⟨a1, a2, a3⟩ := s.es sc _ args cs h1
            cases args with
            | nil => exact absurd rfl hne
            | cons a as =>
              rw [List.all_cons, Bool.and_eq_true] at a1
              exact se_call cx (ixOf_at hi) g1 g2 (a3 X W cx hs) (star_one a1.1 _ _) (star_any a1.2)
        · split at h
          · rename_i hb
            have hB : isB C sc x = true := by unfold isB; rw [hg, hb]; rfl
            split at h
            · rename_i a
              split at h
              · rename_i e0 he0
                obtain ⟨c1, h1, rfl⟩ := Option.map_eq_some_iff.mp h
                obtain ⟨rfl, p1, q1, rfl, hb2⟩ := setArg_some he0
                refine ⟨fun i q => (nomatch q), fun X W cx hs => both (fun _ => rfl) ?_⟩
                obtain ⟨g1, _, g3⟩ := b_ok cx hB hs
                obtain ⟨y1, _, y3⟩ := b_ok cx hb2 hs
                exact se_ss cx.K cx.calm g1 g3 y1 y3 (s.o sc e0 c1 h1 X W cx hs) (star_one (cO_star h1) [] X.env)
              split at h
              · rename_i q hq
                obtain ⟨c1, h1, rfl⟩ := Option.map_eq_some_iff.mp h
                refine ⟨fun i q => (nomatch q), fun X W cx hs => both (fun _ => rfl) ?_⟩
                obtain ⟨g1, g2, g3⟩ := b_ok cx hB hs
                have hst := star_one (cO_star h1) [] X.env
                exact se_blt cx.K (fun ha => blt_pe hq cx.calm g1 g3 g2 hst ha) (s.o sc a c1 h1 X W cx hs) hst
              · cases h
            · rename_i a b
              split at h
              · rename_i ex
                split at h
                · rename_i y p1
                  split at h
                  · rename_i hy
                    split at h
                    · rename_i q hq
                      obtain ⟨c1, h1, rfl⟩ := Option.map_eq_some_iff.mp h
                      refine ⟨fun i q => (nomatch q), fun X W cx hs => both (fun _ => rfl) ?_⟩
                      obtain ⟨g1, g2, g3⟩ := b_ok cx hB hs
                      obtain ⟨y1, y2, y3⟩ := b_ok cx hy hs
                      obtain ⟨t1, t2⟩ := isOf_ty (p := p1) hq y1 y3 y2
                      subst ex
                      have hst := star_one (cO_star h1) [.Name y p1] X.env
                      exact se_is cx.K (fun ha => pe_callB (call_isT q t1) g1 g3 (by decide +kernel) ha (by decide) g2 hst rfl) (s.o sc a c1 h1 X W cx hs) t2 hst rfl
                    · cases h
                  · cases h
                · cases h
              · split at h
                · rename_i ex
                  subst ex
                  obtain ⟨c1, c2, h1, h2, rfl⟩ := opt2_some h
                  refine ⟨fun i q => (nomatch q), fun X W cx hs => both (fun _ => rfl) ?_⟩
                  obtain ⟨g1, g2, g3⟩ := b_ok cx hB hs
                  have st1 := star_one (cE_star h1) [b] X.env
                  exact se_blt2 cx.K (fun ha => pe_callB (call_max2T cx.calm) g1 g3 (by decide +kernel) ha (by decide) g2 st1 (star_any (by rw [List.all_cons, cE_star h2]; rfl))) ((s.e sc a c1 h1).2 X W cx hs).1 ((s.e sc b c2 h2).2 X W cx hs).1 st1 (star_one (cE_star h2) _ _)
                · split at h
                  · rename_i ex
                    subst ex
                    obtain ⟨c1, c2, h1, h2, rfl⟩ := opt2_some h
                    refine ⟨fun i q => (nomatch q), fun X W cx hs => both (fun _ => rfl) ?_⟩
                    obtain ⟨g1, g2, g3⟩ := b_ok cx hB hs
                    have st1 := star_one (cE_star h1) [b] X.env
                    exact se_blt2 cx.K (fun ha => pe_callB (call_min2T cx.calm) g1 g3 (by decide +kernel) ha (by decide) g2 st1 (star_any (by rw [List.all_cons, cE_star h2]; rfl))) ((s.e sc a c1 h1).2 X W cx hs).1 ((s.e sc b c2 h2).2 X W cx hs).1 st1 (star_one (cE_star h2) _ _)
                  · cases h
            · cases h
          · cases h
      · cases h
    · cases h
  | _ => simp [cE] at h
omit s
theorem sound : ∀ n, Sound C dtg K P XX G k n ∧ ∀ m, m + 1 = n → Sound C dtg K P XX G k m
  | 0 => ⟨sound0, fun m h => by omega⟩
  | n + 1 => by
    obtain ⟨s, s'⟩ := sound n
    refine ⟨⟨fun sc e c h => step_e s s' h, fun sc e c h X W cx hs => step_o s h cx hs, fun sc fl e c h => step_es s h, fun sc ks vs es c hu h X W cx hs pos => step_ps s hu h cx hs pos s', fun sc e c h => step_and s h, fun sc e c h => step_or s h,
      fun sc e c h X W cx hs => step_p s h cx hs, fun sc e c h X W cx hs => step_f s h cx hs, fun sc two e c h => step_i s h⟩, fun m h => ?_⟩
    have : m = n := by omega
    subst this
    exact s
end
end TW

set_option Elab.async false
set_option linter.all false
set_option maxRecDepth 100000
set_option maxHeartbeats 4000000
/-! Core13: statements: readings and rules. -/
namespace TW
open PySem L2

section
variable {K : PySem.W.Frag} {P : Pm} {H0 H H1 : Hp} {Z0 Z Z1 : Addr → Prop} {ρ0 ρ ρ1 : List Addr} {st s : Sto} {env : Env} {σ : L2.St}
/-- a new object comes to a slot -/
theorem Rel.own_ (r : Rel K P H0 ρ0 Z0 env st σ H ρ Z) {o : O} {a : Addr} (h : RO K P H Z ρ o a) (nz : ¬ Z a) (nr : a ∉ ρ) (n0 : H0 a = none) (nd : ∀ (j : Nat) (o : O), env[j]? = some (Slot.own o) → σ[j]? ≠ some (some (.ref a))) (i : Nat) :
    Rel K P H0 ρ0 Z0 (env.set i (.own o)) st (σ.set i (some (.ref a))) H ρ Z := by
  have hlt : ∀ {j : Nat} {x : Slot}, (env.set j (.own o))[j]? = some x → j < σ.length := fun {j x} e => by
    have := (List.getElem?_eq_some_iff.mp e).1
    rw [List.length_set, r.len] at this; exact this
  refine ⟨by simp [r.len], fun j u e => ?_, fun j o' e => ?_, fun j k o1 o2 e1 e2 ne => ?_, r.sto, r.nx⟩
  · rcases set_get e with ⟨rfl, e9⟩ | ⟨ne, e9⟩
    · cases e9
    · obtain ⟨u, h1, h2⟩ := r.val j _ e9
      exact ⟨u, by rw [List.getElem?_set_ne ne]; exact h1, h2⟩
  · rcases set_get e with ⟨rfl, e9⟩ | ⟨ne, e9⟩
    · cases e9
      exact ⟨a, by rw [List.getElem?_set_self (hlt e)], h, nz, nr, n0⟩
    · obtain ⟨a, h1, h2⟩ := r.own j _ e9
      exact ⟨a, by rw [List.getElem?_set_ne ne]; exact h1, h2⟩
  · rcases set_get e1 with ⟨rfl, e9⟩ | ⟨ne1, e3⟩
    · rcases set_get e2 with ⟨rfl, e8⟩ | ⟨ne2, e4⟩
      · exact absurd rfl ne
      · rw [List.getElem?_set_self (hlt e1), List.getElem?_set_ne ne2]
        exact fun q => nd k _ e4 q.symm
    · rcases set_get e2 with ⟨rfl, e8⟩ | ⟨ne2, e4⟩
      · rw [List.getElem?_set_self (hlt e2), List.getElem?_set_ne ne1]
        exact nd j _ e3
      · rw [List.getElem?_set_ne ne1, List.getElem?_set_ne ne2]
        exact r.dis j k _ _ e3 e4 ne
/-- what an expression has given comes to a slot -/
theorem Rel.setW (r : Rel K P H0 ρ0 Z0 env st σ H ρ Z) {s : Sto} (n : Nx H ρ Z H1 ρ1 Z1) (S : RelS K P s H1 ρ1 Z1) {w : Ow} {v : V} (h : RW K P H w v H1 Z1 ρ1) (i : Nat) : Rel K P H0 ρ0 Z0 (env.set i w.slot) s (σ.set i (some v)) H1 ρ1 Z1 := by
  cases w with
  | val t => exact (r.step n S).set h i
  | own o =>
    obtain ⟨a, rfl, h1, h2, h3, h4⟩ := h
    refine (r.step n S).own_ h1 h3 h4 (r.nx.there a h2) (fun j o' e q => ?_) i
    obtain ⟨b, e1, e2, _⟩ := r.own j o' e
    rw [e1] at q; cases q
    exact e2.ne h2
/-- one owned list is frozen -/
theorem Rel.frz1 (r : Rel K P H0 ρ0 Z0 env st σ H ρ Z) (i : Nat) : ∃ Z', Rel K P H0 ρ0 Z0 (frz1 env i) st σ H ρ Z' ∧ Kp H ρ Z H ρ Z' := by
  unfold TW.frz1
  split
  · rename_i o e
    obtain ⟨a, h1, h2, h3, h4, h5⟩ := r.own i o e
    have kp : Kp H ρ Z H ρ (fun b => Z b ∨ b = a) := ⟨fun _ _ h _ => h, fun _ h => .inl h, [], by simp⟩
    have hl : i < env.length := (List.getElem?_eq_some_iff.mp e).1
    refine ⟨fun b => Z b ∨ b = a, ⟨by simp [r.len], fun j u e' => ?_, fun j o' e' => ?_, fun j k o1 o2 e1 e2 ne => ?_, r.sto.fz h4 h2.ne, r.nx.fz h5⟩, kp⟩
    · rcases set_get e' with ⟨rfl, e9⟩ | ⟨ne, e9⟩
      · cases e9
        exact ⟨_, h1, (h2.keep kp rfl).frz (.inr rfl)⟩
      · obtain ⟨u, q1, q2⟩ := r.val j _ e9
        exact ⟨u, q1, q2.keep kp⟩
    · rcases set_get e' with ⟨rfl, e9⟩ | ⟨ne, e9⟩
      · cases e9
      · obtain ⟨b, q1, q2, q3, q4, q5⟩ := r.own j _ e9
        refine ⟨b, q1, q2.keep kp rfl, fun z => ?_, q4, q5⟩
        rcases z with z | rfl
        · exact q3 z
        · exact r.dis i j _ _ e e9 ne (h1.trans q1.symm)
    · rcases set_get e1 with ⟨rfl, e9⟩ | ⟨ne1, e3⟩
      · cases e9
      · rcases set_get e2 with ⟨rfl, e9⟩ | ⟨ne2, e4⟩
        · cases e9
        · exact r.dis j k _ _ e3 e4 ne
  · exact ⟨Z, r, Kp.refl _ _ _⟩
theorem Rel.frzE : ∀ (lk : List Nat) {env : Env} {Z : Addr → Prop}, Rel K P H0 ρ0 Z0 env st σ H ρ Z → ∃ Z', Rel K P H0 ρ0 Z0 (frzE env lk) st σ H ρ Z' ∧ Kp H ρ Z H ρ Z'
  | [], env, Z, r => ⟨Z, r, Kp.refl _ _ _⟩
  | i :: is, env, Z, r => by
    obtain ⟨Z1, r1, k1⟩ := r.frz1 i
    obtain ⟨Z2, r2, k2⟩ := Rel.frzE is r1
    exact ⟨Z2, r2, k1.trans k2⟩
end

/-! ### readings -/
section
variable (K : PySem.W.Frag) (P : Pm) (XX : XR) (W : WX)
def WpS (o : Out) (H0 : Hp) (ρ0 : List Addr) (Z0 : Addr → Prop) (σ : L2.St) (H : Hp) (ρ : List Addr) (Z : Addr → Prop) (D : Ends) : Prop := match o with
  | .nx env s => ∀ σ' H' ρ' Z', Rel K P H0 ρ0 Z0 env s σ' H' ρ' Z' → Kp H ρ Z H' ρ' Z' → D.nx σ' H'
  | .bk env s => ∀ σ' H' ρ' Z', Rel K P H0 ρ0 Z0 env s σ' H' ρ' Z' → Kp H ρ Z H' ρ' Z' → D.bk σ' H'
  | .ct env s => ∀ σ' H' ρ' Z', Rel K P H0 ρ0 Z0 env s σ' H' ρ' Z' → Kp H ρ Z H' ρ' Z' → D.ct σ' H'
  | .rt w s => ∀ v H' ρ' Z', RW K P H0 w v H' Z' ρ' → RelS K P s H' ρ' Z' → Nx H0 ρ0 Z0 H' ρ' Z' → D.rt v H'
  | .exn x env s => ∀ cls d σ' H' ρ' Z', XX x cls d H' Z' ρ' → Rel K P H0 ρ0 Z0 env s σ' H' ρ' Z' → Kp H ρ Z H' ρ' Z' → W cls d σ' H'
  | .bad => False
def CanS (f : Env → Sto → Out) : TS := fun D σ H => ∃ (H0 : Hp) (ρ0 : List Addr) (Z0 : Addr → Prop) (env : Env) (st : Sto) (ρ : List Addr) (Z : Addr → Prop), Rel K P H0 ρ0 Z0 env st σ H ρ Z ∧ WpS K P XX W (f env st) H0 ρ0 Z0 σ H ρ Z D
variable (G : Nat → List T → Sto → R Ow) (lf : Nat)
abbrev canS (c : S) : TS := CanS K P XX W fun env st => evS P G lf c env st
abbrev canSs (c : List S) : TS := CanS K P XX W fun env st => evSs P G lf c env st
end
section
variable {K : PySem.W.Frag} {P : Pm} {XX : XR} {W : WX} {G : Nat → List T → Sto → R Ow} {lf : Nat} {X : Cx} {C : CC} {n : Nat}
variable {H0 H H1 : Hp} {Z0 Z Z1 : Addr → Prop} {ρ0 ρ ρ1 : List Addr} {st s : Sto} {env : Env} {σ σ1 : L2.St} {D : Ends}
theorem WpS.from_ {o : Out} (h : WpS K P XX W o H0 ρ0 Z0 σ H ρ Z D) (k : Kp H ρ Z H1 ρ1 Z1) : WpS K P XX W o H0 ρ0 Z0 σ1 H1 ρ1 Z1 D := by
  cases o with
  | nx env s => exact fun σ' H' ρ' Z' h1 h2 => h σ' H' ρ' Z' h1 (k.trans h2)
  | bk env s => exact fun σ' H' ρ' Z' h1 h2 => h σ' H' ρ' Z' h1 (k.trans h2)
  | ct env s => exact fun σ' H' ρ' Z' h1 h2 => h σ' H' ρ' Z' h1 (k.trans h2)
  | rt w s => exact h
  | exn x env s => exact fun c d σ' H' ρ' Z' h0 h1 h2 => h c d σ' H' ρ' Z' h0 h1 (k.trans h2)
  | bad => exact h
/-- an expression, then the rest -/
theorem WpS.out {α β : Type} {k : Kd α β} {r : R α} {f : α → Sto → Out} {Q : β → Hp → Prop} (h : WpS K P XX W (r.out env f) H0 ρ0 Z0 σ H ρ Z D) (F : Rel K P H0 ρ0 Z0 env st σ H ρ Z)
    (q : ∀ a s b H' ρ' Z', k.rel H a b H' Z' ρ' → RelS K P s H' ρ' Z' → Nx H ρ Z H' ρ' Z' → WpS K P XX W (f a s) H0 ρ0 Z0 σ H' ρ' Z' D → Q b H') : Wp K P XX k r H ρ Z Q (fun cls d H' => W cls d σ H') := by
  cases r with
  | ok a s => exact fun b H' ρ' Z' h1 h2 h3 => q a s b H' ρ' Z' h1 h2 h3 (WpS.from_ (show WpS K P XX W (f a s) H0 ρ0 Z0 σ H ρ Z D from h) h3.kp)
  | exn x s => exact fun c d H' ρ' Z' h1 h2 h3 => h c d σ H' ρ' Z' h1 (F.step h3 h2) h3.kp
  | bad => exact h
/-- a statement that first freezes -/
theorem CanS.frz {lk : List Nat} {f g : Env → Sto → Out} (h : CanS K P XX W f D σ H) (e : ∀ env st, f env st = g (frzE env lk) st) : CanS K P XX W g D σ H := by
  obtain ⟨H0, ρ0, Z0, env, st, ρ, Z, F, w⟩ := h
  obtain ⟨Z', F', k⟩ := Rel.frzE lk F
  rw [e] at w
  exact ⟨H0, ρ0, Z0, _, st, ρ, Z', F', w.from_ k⟩
theorem CanS.out {α β : Type} {k : Kd α β} {r : Env → Sto → R α} {g : Env → Sto → Out} {f : Env → α → Sto → Out} {Q : β → Hp → Prop} (h : CanS K P XX W g D σ H) (e : ∀ env st, g env st = (r env st).out env (f env))
    (q : ∀ H0 ρ0 Z0 env st ρ Z a s b H' ρ' Z', Rel K P H0 ρ0 Z0 env st σ H ρ Z → k.rel H a b H' Z' ρ' → RelS K P s H' ρ' Z' → Nx H ρ Z H' ρ' Z' → WpS K P XX W (f env a s) H0 ρ0 Z0 σ H' ρ' Z' D → Q b H') : Can K P XX W k r σ H Q := by
  obtain ⟨H0, ρ0, Z0, env, st, ρ, Z, F, w⟩ := h
  rw [e] at w
  exact ⟨H0, ρ0, Z0, env, st, ρ, Z, F, w.out F fun a s b H' ρ' Z' h1 h2 h3 h4 => q H0 ρ0 Z0 env st ρ Z a s b H' ρ' Z' F h1 h2 h3 h4⟩

/-! ### blocks -/
theorem ss_nil : PSs X [] (canSs K P XX W G lf []) := pssImp pss_nil fun D σ H z => by
  obtain ⟨H0, ρ0, Z0, env, st, ρ, Z, F, w⟩ := z
  exact w σ H ρ Z F (Kp.refl _ _ _)
theorem ss_cons {x : Stmt} {xs : List Stmt} {c : S} {cs : List S} (h : PS X x (canS K P XX W G lf c)) (hs : PSs X xs (canSs K P XX W G lf cs)) : PSs X (x :: xs) (canSs K P XX W G lf (c :: cs)) := pssImp (pss_cons h hs) fun D σ H z => by
  obtain ⟨H0, ρ0, Z0, env, st, ρ, Z, F, w⟩ := z
  refine ⟨H0, ρ0, Z0, env, st, ρ, Z, F, ?_⟩
  show WpS K P XX W (evS P G lf c env st) H0 ρ0 Z0 σ H ρ Z _
  have w : WpS K P XX W ((evS P G lf c env st).seq fun env' s' => evSs P G lf cs env' s') H0 ρ0 Z0 σ H ρ Z D := w
  cases e : evS P G lf c env st with
  | nx env' s' =>
    rw [e] at w
    intro σ' H' ρ' Z' h1 h2
    exact ⟨H0, ρ0, Z0, env', s', ρ', Z', h1, WpS.from_ (show WpS K P XX W (evSs P G lf cs env' s') H0 ρ0 Z0 σ H ρ Z D from w) h2⟩
  | bk env' s' => rw [e] at w; exact w
  | ct env' s' => rw [e] at w; exact w
  | rt w' s' => rw [e] at w; exact w
  | exn x env' s' => rw [e] at w; exact w
  | bad => rw [e] at w; exact w
theorem s_pass {p : Pos} : PS X (.Pass p) (canS K P XX W G lf .pass) := psImp ps_pass fun D σ H z => by
  obtain ⟨H0, ρ0, Z0, env, st, ρ, Z, F, w⟩ := z
  exact w σ H ρ Z F (Kp.refl _ _ _)
theorem s_brk {p : Pos} : PS X (.Break p) (canS K P XX W G lf .brk) := psImp ps_break fun D σ H z => by
  obtain ⟨H0, ρ0, Z0, env, st, ρ, Z, F, w⟩ := z
  exact w σ H ρ Z F (Kp.refl _ _ _)
theorem s_cont {p : Pos} : PS X (.Continue p) (canS K P XX W G lf .cont) := psImp ps_continue fun D σ H z => by
  obtain ⟨H0, ρ0, Z0, env, st, ρ, Z, F, w⟩ := z
  exact w σ H ρ Z F (Kp.refl _ _ _)
theorem s_retN {p : Pos} : PS X (.Return none p) (canS K P XX W G lf .retN) := psImp ps_retN fun D σ H z => by
  obtain ⟨H0, ρ0, Z0, env, st, ρ, Z, F, w⟩ := z
  exact w .non H ρ Z RT.non F.sto F.nx
theorem s_ret {e : Expr} {c : E} {lk : List Nat} {p : Pos} (h : PE X e (canE K P XX W G c)) : PS X (.Return (some e) p) (canS K P XX W G lf (.ret lk c)) := psImp (ps_ret h) fun D σ H z => by
  have z := CanS.frz (lk := lk) (g := fun env st => (evE P G env c st).out env fun w s1 => .rt w s1) z fun env st => rfl
  refine CanS.out (k := kOw K P) (r := fun env st => evE P G env c st) (f := fun env w s1 => .rt w s1) z (fun env st => rfl) fun H0 ρ0 Z0 env st ρ Z w s v H' ρ' Z' F hw S nx w' => ?_
  have nx0 := F.nx.trans nx
  refine w' v H' ρ' Z' ?_ S nx0
  cases w with
  | val t => exact hw
  | own o =>
    obtain ⟨a, h1, h2, h3, h4⟩ := hw
    exact ⟨a, h1, h2, F.nx.there a h3, h4⟩
theorem s_retv {x : Str} {i : Nat} {p p2 : Pos} (hN : X.N[i]? = some x) (hv : Vis X.env.scope x) (hd : (x == ("__debug__" : Str)) = false) (hc : (x == ("__classdict__" : Str)) = false) : PS X (.Return (some (.Name x p2)) p) (canS K P XX W G lf (.retv i)) :=
  psImp (ps_ret (pe_var hN hv hd hc)) fun D σ H z => by
  obtain ⟨H0, ρ0, Z0, env, st, ρ, Z, F, w⟩ := z
  have w : WpS K P XX W (match env[i]? with
      | some (.own o) => .rt (.own o) st
      | some (.val t) => .rt (.val t) st
      | _ => .bad) H0 ρ0 Z0 σ H ρ Z D := w
  cases e : env[i]? with
  | none => rw [e] at w; exact w.elim
  | some q =>
    rw [e] at w
    cases q with
    | no => exact w.elim
    | val t =>
      obtain ⟨v, h1, h2⟩ := F.val i t e
      exact ⟨v, h1, w v H ρ Z h2 F.sto F.nx⟩
    | own o =>
      obtain ⟨a, h1, h2, h3, h4, h5⟩ := F.own i o e
      exact ⟨.ref a, h1, w (.ref a) H ρ Z ⟨a, rfl, h2, h5, h3, h4⟩ F.sto F.nx⟩
theorem s_expr {e : Expr} {c : E} {lk : List Nat} {p : Pos} (h : PE X e (canE K P XX W G c)) (hs : swapsWith e none p.line X.env = pure false) : PS X (.Expr e p) (canS K P XX W G lf (.expr lk c)) := psImp (ps_expr h hs) fun D σ H z => by
  have z := CanS.frz (lk := lk) (g := fun env st => (evE P G env c st).out env fun _ s1 => .nx env s1) z fun env st => rfl
  refine CanS.out (k := kOw K P) (r := fun env st => evE P G env c st) (f := fun env _ s1 => .nx env s1) z (fun env st => rfl) fun H0 ρ0 Z0 env st ρ Z w s v H' ρ' Z' F hw S nx w' => ?_
  exact w' σ H' ρ' Z' (F.step nx S) (Kp.refl _ _ _)
theorem s_if {t : Expr} {a b : List Stmt} {c : E} {ca cb : List S} {lk : List Nat} {p : Pos} (h : PT X t (canB K P XX W G c)) (ha : PSs X a (canSs K P XX W G lf ca)) (hb : PSs X b (canSs K P XX W G lf cb)) : PS X (.If t a b p) (canS K P XX W G lf (.ifs lk c ca cb)) :=
  psImp (ps_if h ha hb) fun D σ H z => by
  have z := CanS.frz (lk := lk) (g := fun env st => (evC P G env (some c) st).out env fun k s1 => if k = true then evSs P G lf ca env s1 else evSs P G lf cb env s1) z fun env st => rfl
  refine CanS.out (k := kEq Bool) (r := fun env st => evC P G env (some c) st) (f := fun env k s1 => if k = true then evSs P G lf ca env s1 else evSs P G lf cb env s1) z (fun env st => rfl) fun H0 ρ0 Z0 env st ρ Z w s v H' ρ' Z' F hw S nx w' => ?_
  cases hw
  cases w with
  | true => exact ⟨H0, ρ0, Z0, env, s, ρ', Z', F.step nx S, w'⟩
  | false => exact ⟨H0, ρ0, Z0, env, s, ρ', Z', F.step nx S, w'⟩

/-! ### stores -/
/-- name = e -/
theorem asg_imp {te : TE} {c : E} {i : Nat} {lk : List Nat} (h : ∀ σ H Q, canE K P XX W G c σ H Q → te σ H Q) {D : Ends} {σ : L2.St} {H : Hp} (z : canS K P XX W G lf (.asg lk i c) D σ H) : tAsg te (gName i) D σ H := by
  have z := CanS.frz (lk := lk) (g := fun env st => (evE P G env c st).out env fun w s1 => .nx (env.set i w.slot) s1) z fun env st => rfl
  refine h σ H _ (CanS.out (k := kOw K P) (r := fun env st => evE P G env c st) (f := fun env w s1 => .nx (env.set i w.slot) s1) z (fun env st => rfl) fun H0 ρ0 Z0 env st ρ Z w s v H' ρ' Z' F hw S nx w' => ?_)
  have hw : RW K P H w v H' Z' ρ' := hw
  exact w' _ H' ρ' Z' (F.setW nx S hw i) (Kp.refl _ _ _)
theorem s_unp {e : Expr} {c : E} {is : List Nat} {lk : List Nat} {es : List Expr} {k : Nat} {p p2 : Pos} (hK : X.K = K) (h : PE X e (canE K P XX W G c)) (hg : PG X (.Tuple es k p2) (gT X.K (.tp is)))
    (hs : swapsWithSole [.Tuple es k p2] e p.line X.env = pure false) (hw : swappedStores [.Tuple es k p2] e X.env = pure none) : PS X (.Assign [.Tuple es k p2] e p) (canS K P XX W G lf (.unp lk is c)) := by
  subst hK
  refine psImp (ps_asg (peFrz h) hg hs hw rfl) fun D σ H z => ?_
  have z := CanS.frz (lk := lk) (g := fun env st => (frzR (evE P G env c st)).out env fun t s1 => match t with
      | .tup ts => if is.length = ts.length then .nx (setAll env is ts) s1 else .bad
      | _ => .bad) z fun env st => rfl
  refine CanS.out (k := kT X.K P) (r := fun env st => frzR (evE P G env c st)) (f := fun env t s1 => match t with
      | .tup ts => if is.length = ts.length then .nx (setAll env is ts) s1 else .bad
      | _ => .bad) z (fun env st => rfl) fun H0 ρ0 Z0 env st ρ Z t s v H' ρ' Z' F hw S nx w' => ?_
  cases t with
  | tup ts =>
    have w' : WpS X.K P XX W (if is.length = ts.length then .nx (setAll env is ts) s else .bad) H0 ρ0 Z0 σ H' ρ' Z' D := w'
    split at w'
    · rename_i hl
      obtain ⟨a, xs, rfl, h1, h2⟩ := (RQ.tup (.inl hw) : ∃ a xs, v = .ref a ∧ SqT X.K H' a xs ∧ RTs X.K P H' Z' ρ' ts xs)
      exact ⟨a, xs, rfl, h1, by rw [← h2.length]; exact hl.symm, Rel.setAll (F.step nx S) h2 hl fun σ' r' _ => w' σ' H' ρ' Z' r' (Kp.refl _ _ _)⟩
    · exact w'.elim
  | _ => exact w'.elim
end
end TW

set_option Elab.async false
set_option linter.all false
set_option maxRecDepth 100000
set_option maxHeartbeats 4000000
/-! Core14: changes in place, loops. -/
namespace TW
open PySem L2

section
variable {K : PySem.W.Frag} {P : Pm} {H0 H H1 : Hp} {Z0 Z Z1 : Addr → Prop} {ρ0 ρ ρ1 : List Addr} {st s : Sto} {env : Env} {σ : L2.St}
/-- an object is written -/
theorem kp_upd {o : O} {a : Addr} (h : RO K P H Z ρ o a) (nz : ¬ Z a) (u : HO) : Kp H ρ Z (upd H a u) ρ Z := by
  refine ⟨fun b w e q => ?_, fun _ z => z, [], by simp⟩
  have : b ≠ a := by
    rintro rfl
    rcases q with q | q
    · exact nz q
    · exact h.nimm e q
  rw [upd_ne this]; exact e
theorem Rel.chg {f : O → Option O} {i : Nat} (r : Rel K P H0 ρ0 Z0 env s σ H ρ Z) (h : chg env s i f ≠ .bad) : ∃ a o o', σ[i]? = some (some (.ref a)) ∧ objAt env s i = some o ∧ RO K P H Z ρ o a ∧ f o = some o' ∧ ∀ u, Kp H ρ Z (upd H a u) ρ Z ∧
    (RO K P (upd H a u) Z ρ o' a → ∃ env' s', chg env s i f = .nx env' s' ∧ Rel K P H0 ρ0 Z0 env' s' σ (upd H a u) ρ Z) := by
  -- what holds of the entry
  have nxA : ∀ {a : Addr} {o : O} (u : HO), RO K P H Z ρ o a → ¬ Z a → (H0 a = none ∨ a ∈ ρ) → Nx H0 ρ0 Z0 (upd H a u) ρ Z := fun {a o} u hr nz q => by
    refine ⟨fun b w e hb => ?_, fun b e => ?_, fun b w e q => (kp_upd hr nz u).imm b w (r.nx.imm b w e q) (q.imp (r.nx.zin b) id), r.nx.zin, r.nx.znew, r.nx.rho⟩
    · have : b ≠ a := by
        rintro rfl
        rcases q with q | q
        · rw [q] at e; cases e
        · obtain ⟨ex, e2, f2⟩ := r.nx.rho
          rw [e2, List.mem_append] at q
          rcases q with q | q
          · exact hb q
          · rw [f2 b q] at e; cases e
      rw [upd_ne this]; exact r.nx.ext b w e hb
    · by_cases hb : b = a
      · subst hb; rw [upd_same] at e; cases e
      · rw [upd_ne hb] at e; exact r.nx.there b e
  cases e : env[i]? with
  | none => exact absurd (by unfold TW.chg; rw [e]) h
  | some x =>
    cases x with
    | no => exact absurd (by unfold TW.chg; rw [e]) h
    | own o =>
      cases ef : f o with
      | none => exact absurd (by unfold TW.chg; rw [e]; simp only [ef]) h
      | some o' =>
        obtain ⟨a, h1, h2, h3, h4, h5⟩ := r.own i o e
        have er : TW.chg env s i f = .nx (env.set i (.own o')) s := by unfold TW.chg; rw [e]; simp only [ef]
        rw [er]
        refine ⟨a, o, o', h1, by unfold TW.objAt; rw [e], h2, ef, fun u => ⟨kp_upd h2 h3 u, fun hr => ⟨env.set i (.own o'), s, rfl, ?_⟩⟩⟩
        have kp := kp_upd h2 h3 u
        have ne : ∀ {b : Addr}, b ∈ ρ → b ≠ a := fun hb e => h4 (e ▸ hb)
        refine ⟨by simp [r.len], fun j t e' => ?_, fun j w e' => ?_, fun j k o1 o2 e1 e2 ne => ?_, ?_, nxA u h2 h3 (.inl h5)⟩
        · rcases set_get e' with ⟨rfl, e9⟩ | ⟨ne, e9⟩
          · cases e9
          · obtain ⟨v, q1, q2⟩ := r.val j _ e9
            exact ⟨v, q1, q2.keep kp⟩
        · rcases set_get e' with ⟨rfl, e9⟩ | ⟨ne, e9⟩
          · cases e9
            exact ⟨a, h1, hr, h3, h4, h5⟩
          · obtain ⟨b, q1, q2, q3, q4, q5⟩ := r.own j _ e9
            have hb : b ≠ a := fun z => r.dis i j _ _ e e9 ne (by rw [h1, q1, z])
            exact ⟨b, q1, q2.keep kp (upd_ne hb), q3, q4, q5⟩
        · rcases set_get e1 with ⟨rfl, e9⟩ | ⟨ne1, e3⟩
          · rcases set_get e2 with ⟨rfl, e8⟩ | ⟨ne2, e4⟩
            · exact absurd rfl ne
            · exact r.dis _ _ _ _ e e4 ne
          · rcases set_get e2 with ⟨rfl, e8⟩ | ⟨ne2, e4⟩
            · exact r.dis _ _ _ _ e3 e ne
            · exact r.dis _ _ _ _ e3 e4 ne
        · exact r.sto.keep kp (fun b hb => upd_ne (ne hb)) r.sto.nz fun b z q => r.sto.zh b z (by
            by_cases hb : b = a
            · subst hb; exact absurd z h3
            · rw [upd_ne hb] at q; exact q)
    | val t =>
      cases t with
      | ref n =>
        cases es : s[n]? with
        | none => exact absurd (by unfold TW.chg; rw [e]; simp only [es]) h
        | some o =>
          cases ef : f o with
          | none => exact absurd (by unfold TW.chg; rw [e]; simp only [es, ef]) h
          | some o' =>
            have er : TW.chg env s i f = .nx env (s.set n o') := by unfold TW.chg; rw [e]; simp only [es, ef]
            rw [er]
            obtain ⟨v, g1, g2⟩ := r.val i _ e
            cases g2 with
            | ref g3 =>
              rename_i a
              obtain ⟨a', g4, h2⟩ := r.sto.at_ n o es
              rw [g3] at g4; cases g4
              have ha : a ∈ ρ := List.mem_of_getElem? g3
              have h3 := r.sto.nz a ha
              refine ⟨a, o, o', g1, by unfold TW.objAt; rw [e]; exact es, h2, ef, fun u => ⟨kp_upd h2 h3 u, fun hr => ⟨env, s.set n o', rfl, ?_⟩⟩⟩
              have kp := kp_upd h2 h3 u
              refine ⟨r.len, fun j t e' => ?_, fun j w e' => ?_, r.dis, ?_, nxA u h2 h3 (.inr ha)⟩
              · obtain ⟨v, q1, q2⟩ := r.val j _ e'
                exact ⟨v, q1, q2.keep kp⟩
              · obtain ⟨b, q1, q2, q3, q4, q5⟩ := r.own j _ e'
                have hb : b ≠ a := fun z => q4 (z ▸ ha)
                exact ⟨b, q1, q2.keep kp (upd_ne hb), q3, q4, q5⟩
              · refine ⟨by rw [List.length_set]; exact r.sto.len, r.sto.nd, fun m w em => ?_, r.sto.nz, fun b z q => r.sto.zh b z (by
                  by_cases hb : b = a
                  · subst hb; exact absurd z h3
                  · rw [upd_ne hb] at q; exact q)⟩
                rcases set_get em with ⟨rfl, e9⟩ | ⟨ne, e9⟩
                · cases e9; exact ⟨a, g3, hr⟩
                · obtain ⟨b, q1, q2⟩ := r.sto.at_ m _ e9
                  refine ⟨b, q1, q2.keep kp (upd_ne fun z => ne ?_)⟩
                  subst z
                  have l1 := (List.getElem?_eq_some_iff.mp g3).1
                  exact (List.getElem?_inj l1 r.sto.nd).mp (g3.trans q1.symm)
      | _ => exact absurd (by unfold TW.chg; rw [e]) h
end

theorem RTk.length {K : PySem.W.Frag} {P : Pm} {H : Hp} {Z : Addr → Prop} {ρ : List Addr} : ∀ {ts : List (Key × T)} {vs : List (Key × V)}, RTk K P H Z ρ ts vs → ts.length = vs.length
  | _, _, .nil => rfl
  | _, _, .cons _ t => congrArg (· + 1) (RTk.length t)
theorem RTt.length {K : PySem.W.Frag} {P : Pm} {H : Hp} {Z : Addr → Prop} {ρ : List Addr} : ∀ {ts : List (List Key × T)} {vs : List (List Key × V)}, RTt K P H Z ρ ts vs → ts.length = vs.length
  | _, _, .nil => rfl
  | _, _, .cons _ t => congrArg (· + 1) (RTt.length t)
section
variable {K : PySem.W.Frag} {P : Pm} {XX : XR} {W : WX} {G : Nat → List T → Sto → R Ow} {lf : Nat} {X : Cx} {C : CC} {n : Nat}
variable {H0 H H1 : Hp} {Z0 Z Z1 : Addr → Prop} {ρ0 ρ ρ1 : List Addr} {st s : Sto} {env : Env} {σ σ1 : L2.St} {D : Ends}
theorem s_dead {x : Stmt} : PS X x (canS K P XX W G lf .dead) := psImp ps_never fun D σ H z => by
  obtain ⟨H0, ρ0, Z0, env, st, ρ, Z, F, w⟩ := z
  exact w
/-- the slot's name stands for a list -/
theorem Rel.isL {i : Nat} (r : Rel K P H0 ρ0 Z0 env s σ H ρ Z) (h : isL env s i = true) : ∃ a xs, σ[i]? = some (some (.ref a)) ∧ H a = some (.lst xs) := by
  unfold TW.isL at h
  split at h
  · rename_i e
    obtain ⟨a, h1, h2, _⟩ := r.own i _ e
    obtain ⟨xs, h3, _⟩ := h2.lst_inv
    exact ⟨a, xs, h1, h3⟩
  · rename_i n e
    split at h
    · rename_i es
      obtain ⟨v, h1, h2⟩ := r.val i _ e
      cases h2 with
      | ref h2 =>
        obtain ⟨a, h3, h4⟩ := r.sto.at_ n _ es
        rw [h2] at h3; cases h3
        obtain ⟨xs, h5, _⟩ := h4.lst_inv
        exact ⟨_, xs, h1, h5⟩
    · cases h
  · cases h
theorem s_app {x : Str} {e : Expr} {c : E} {i : Nat} {lk : List Nat} {p apos cpos pos : Pos} (hK : X.K = K) (hN : X.N[i]? = some x) (hv : Vis X.env.scope x) (hd : (x == ("__debug__" : Str)) = false) (hc : (x == ("__classdict__" : Str)) = false)
    (h : PE X e (canE K P XX W G c)) (hst : starEach [e] X.env = (false, eval e X.env) :: starEach [] X.env) (hline : (apos.endLine == cpos.line) = true) : PS X (.Expr (.Call (.Attribute (.Name x p) "append" apos) [e] [] cpos) pos) (canS K P XX W G lf (.app lk i c)) := by
  subst hK
  refine psImp (ps_expr (pe_bm PySem.F.plainAttrs_list PySem.F.slot_list_append PySem.F.type_list_append mt_append (pe_var hN hv hd hc) (pa_cons (peFrz h) pa_nil hst) rfl (by rw [hst]; rfl) hline hst rfl) rfl) fun D σ H z => ?_
  have z := CanS.frz (lk := lk) (g := fun env st => if isL env st i = true then (frzR (evE P G env c st)).out env fun t s1 => chg env s1 i (appO t) else .bad) z fun env st => rfl
  obtain ⟨H0, ρ0, Z0, env, st, ρ, Z, F, w⟩ := z
  have w : WpS X.K P XX W (if isL env st i = true then (frzR (evE P G env c st)).out env fun t s1 => chg env s1 i (appO t) else .bad) H0 ρ0 Z0 σ H ρ Z D := w
  split at w
  · rename_i hl
    obtain ⟨a, xs, h1, h2⟩ := F.isL hl
    refine ⟨.ref a, h1, .inl ⟨rfl, xs, SqL.of h2⟩, ?_⟩
    refine ⟨H0, ρ0, Z0, env, st, ρ, Z, F, WpS.out (k := kT X.K P) (f := fun t s1 => chg env s1 i (appO t)) w F fun t s v H' ρ' Z' hw S nx w' => ?_⟩
    have F' := F.step nx S
    have nb : chg env s i (appO t) ≠ .bad := fun q => by
      rw [q] at w'; exact w'
    obtain ⟨a', o, o', g1, _, g2, g3, g4⟩ := F'.chg nb
    rw [h1] at g1; cases g1
    cases o with
    | lst ts =>
      simp only [appO] at g3
      split at g3
      · rename_i hz
        cases g3
        obtain ⟨ys, e1, e2⟩ := g2.lst_inv
        refine ⟨a, ys, v, rfl, rfl, e1, by rw [← e2.length]; exact hz, ?_⟩
        obtain ⟨kp, g5⟩ := g4 (.lst (ys ++ [v]))
        obtain ⟨env', s', q1, q2⟩ := g5 (.lst upd_same ((RTs.append e2 (.cons hw .nil)).keep kp _ _))
        rw [q1] at w'
        exact w' σ _ ρ' Z' q2 kp
      · cases g3
    | _ => cases g3
  · exact w.elim
/-- what stands at the place, and the place is a list's or a dict's -/
def rSetT : TSet := fun o i v H Q => rSetL o i v H Q ∨ ∃ a H', o = .ref a ∧ DPut H a i v H' ∧ Q H'
theorem set_T (hu : X.A.units + 1 < cLine) : PSet X rSetT := by
  intro pins s σ H o i v ov iv u Q I r1 r2 r3 h
  rcases h with h | ⟨a, H', rfl, g, q⟩
  · exact set_list pins s σ H o i v ov iv u Q I r1 r2 r3 h
  · cases r1
    exact d_setItem hu I g r2 r3 fun s' I' => ⟨H', I', q⟩
theorem Rel.isOb {i : Nat} (r : Rel K P H0 ρ0 Z0 env s σ H ρ Z) (h : isOb env i = true) : ∃ a, σ[i]? = some (some (.ref a)) := by
  unfold TW.isOb at h
  split at h
  · rename_i e
    obtain ⟨a, h1, _⟩ := r.own i _ e
    exact ⟨a, h1⟩
  · rename_i n e
    obtain ⟨v, h1, h2⟩ := r.val i _ e
    cases h2 with
    | ref h2 => exact ⟨_, h1⟩
  · cases h
theorem s_seti {x : Str} {e k : Expr} {c ck : E} {i : Nat} {lk : List Nat} {p tpos pos : Pos} (hK : X.K = K) (hu : X.A.units + 65 < cLine) (hN : X.N[i]? = some x) (hv : Vis X.env.scope x) (hd : (x == ("__debug__" : Str)) = false) (hc : (x == ("__classdict__" : Str)) = false)
    (h : PE X e (canE K P XX W G c)) (hk : PE X k (canE K P XX W G ck)) (hpl : ∀ v, assign (.Subscript (.Name x p) k tpos) X.env v = (do
      let ov ← holding [v] (eval (.Name x p) X.env)
      let iv ← holding [v, ov] (eval k X.env)
      standAt tpos
      holding [v, ov, iv] (setItem ov iv v)
      release [v, ov, iv] [])) (hs : swapsWith e (some (.Subscript (.Name x p) k tpos)) pos.line X.env = pure false) :
    PS X (.Assign [.Subscript (.Name x p) k tpos] e pos) (canS K P XX W G lf (.seti lk i ck c)) := by
  subst hK
  refine psImp (ps_asg (peFrz h) (pg_sub (pe_var hN hv hd hc) (peFrz hk) (set_T (by omega)) hpl) hs rfl rfl) fun D σ H z => ?_
  have z := CanS.frz (lk := lk) (g := fun env st => if isOb env i = true then (frzR (evE P G env c st)).out env fun t s1 => (frzR (evE P G env ck s1)).out env fun q s2 => chg env s2 i (setiO P q t) else .bad) z fun env st => rfl
  obtain ⟨H0, ρ0, Z0, env, st, ρ, Z, F, w⟩ := z
  have w : WpS X.K P XX W (if isOb env i = true then (frzR (evE P G env c st)).out env fun t s1 => (frzR (evE P G env ck s1)).out env fun q s2 => chg env s2 i (setiO P q t) else .bad) H0 ρ0 Z0 σ H ρ Z D := w
  split at w
  · rename_i hl
    obtain ⟨a, h1⟩ := F.isOb hl
    refine ⟨H0, ρ0, Z0, env, st, ρ, Z, F, WpS.out (k := kT X.K P) (f := fun t s1 => (frzR (evE P G env ck s1)).out env fun q s2 => chg env s2 i (setiO P q t)) w F fun t s v H1 ρ1 Z1 hw S nx w1 => ?_⟩
    have F1 := F.step nx S
    have hw : RT X.K P H1 Z1 ρ1 t v := hw
    refine ⟨.ref a, h1, H0, ρ0, Z0, env, s, ρ1, Z1, F1, WpS.out (k := kT X.K P) (f := fun q s2 => chg env s2 i (setiO P q t)) w1 F1 fun q s2 y H2 ρ2 Z2 hq S2 nx2 w2 => ?_⟩
    have F2 := F1.step nx2 S2
    have hq : RT X.K P H2 Z2 ρ2 q y := hq
    have hw := hw.keep nx2.kp
    have nb : chg env s2 i (setiO P q t) ≠ .bad := fun z => by
      rw [z] at w2; exact w2
    obtain ⟨a', o, o', g1, _, g2, g3, g4⟩ := F2.chg nb
    rw [h1] at g1; cases g1
    cases o with
    | lst ts =>
      cases q with
      | int j =>
        obtain ⟨m, e1, e2⟩ := Option.map_eq_some_iff.mp (show (ixN ts.length j).map (fun m => O.lst (ts.set m t)) = some o' from g3)
        subst e2
        cases hq
        obtain ⟨ys, e3, e4⟩ := g2.lst_inv
        obtain ⟨kp, g5⟩ := g4 (.lst (ys.set m v))
        obtain ⟨env', s', q1, q2⟩ := g5 (.lst upd_same ((RTs.set hw m e4).keep kp _ _))
        rw [q1] at w2
        exact .inl ⟨a, ys, j, m, rfl, rfl, e3, by rw [← e4.length]; exact e1, w2 σ _ ρ2 Z2 q2 kp⟩
      | _ => cases g3
    | dk kvs =>
      have g3 : (if kvs.length < 16777216 then q.key?.map fun q => O.dk (dPut q t kvs) else none) = some o' := g3
      split at g3
      · rename_i hz
        obtain ⟨κ, e1, e2⟩ := Option.map_eq_some_iff.mp g3
        subst e2
        obtain ⟨ys, e3, e4⟩ := g2.dk_inv
        obtain ⟨kp, g5⟩ := g4 (.dK (putK ys κ v))
        obtain ⟨env', s', q1, q2⟩ := g5 (.dk upd_same ((RTk.put hw e4).keep kp _ _))
        rw [q1] at w2
        have hl : kvs.length = ys.length := RTk.length e4
        refine .inr ⟨a, _, rfl, ?_, w2 σ _ ρ2 Z2 q2 kp⟩
        rw [key_rt (.inl hq) e1]
        exact DPut.k e3 (by rw [← hl]; exact hz)
      · cases g3
    | dt kvs =>
      have g3 : (if kvs.length < 16777216 then (q.kt? P).map fun q => O.dt (dPut q t kvs) else none) = some o' := g3
      split at g3
      · rename_i hz
        obtain ⟨κ, e1, e2⟩ := Option.map_eq_some_iff.mp g3
        subst e2
        obtain ⟨ys, e3, e4⟩ := g2.dt_inv
        obtain ⟨b, rfl, e5⟩ := kt_rt (.inl hq) e1
        obtain ⟨kp, g5⟩ := g4 (.dT (putK ys κ v))
        obtain ⟨env', s', q1, q2⟩ := g5 (.dt upd_same ((RTt.put hw e4).keep kp _ _))
        rw [q1] at w2
        have hl : kvs.length = ys.length := RTt.length e4
        exact .inr ⟨a, _, rfl, DPut.t e3 e5 (by rw [← hl]; exact hz), w2 σ _ ρ2 Z2 q2 kp⟩
      · cases g3
  · exact w.elim
end
end TW

set_option Elab.async false
set_option linter.all false
set_option maxRecDepth 100000
set_option maxHeartbeats 4000000
/-! Core15: pop, several names at once, loops. -/
namespace TW
open PySem L2
section
variable {K : PySem.W.Frag} {P : Pm} {XX : XR} {W : WX} {G : Nat → List T → Sto → R Ow} {lf : Nat} {X : Cx} {C : CC} {n : Nat}
variable {H0 H H1 : Hp} {Z0 Z Z1 : Addr → Prop} {ρ0 ρ ρ1 : List Addr} {st s : Sto} {env : Env} {σ σ1 : L2.St} {D : Ends}

/-! ### x = xs.pop() -/
theorem s_popA {x y : Str} {i j : Nat} {p p2 apos cpos pos : Pos} (hK : X.K = K) (nd : X.N.Nodup) (hN : X.N[i]? = some x) (hv : Vis X.env.scope x) (hd : (x == ("__debug__" : Str)) = false) (hc : (x == ("__classdict__" : Str)) = false)
    (hj : X.N[j]? = some y) (hy : Loc X.env.scope y) (hy2 : X.fn y = true ∨ X.env.scope.names.lookup y = some .local) (hline : (apos.endLine == cpos.line) = true) :
    PS X (.Assign [.Name y p2] (.Call (.Attribute (.Name x p) "pop" apos) [] [] cpos) pos) (canS K P XX W G lf (.popA j i)) := by
  subst hK
  refine psImp (ps_set nd hj hy (pe_bm0 PySem.F.plainAttrs_list PySem.F.slot_list_pop PySem.F.type_list_pop mt_pop (pe_var hN hv hd hc) rfl hline) rfl hy2) fun D σ H z => ?_
  obtain ⟨H0, ρ0, Z0, env, st, ρ, Z, F, w⟩ := z
  have w : WpS X.K P XX W (match lastT env st i with
      | some t => (match chg env st i popO with
        | .nx env' s' => .nx (env'.set j (.val t)) s'
        | _ => .bad)
      | none => .bad) H0 ρ0 Z0 σ H ρ Z D := w
  cases el : lastT env st i with
  | none => rw [el] at w; exact w.elim
  | some t =>
    rw [el] at w
    have w : WpS X.K P XX W (match chg env st i popO with
        | .nx env' s' => .nx (env'.set j (.val t)) s'
        | _ => .bad) H0 ρ0 Z0 σ H ρ Z D := w
    have nb : chg env st i popO ≠ .bad := fun q => by
      rw [q] at w; exact w
    obtain ⟨a, o, o', g1, g0, g2, g3, g4⟩ := F.chg nb
    unfold lastT at el
    rw [g0] at el
    cases o with
    | lst ts =>
      have el : ts[ts.length - 1]? = some t := el
      cases g3
      obtain ⟨ys, e1, e2⟩ := g2.lst_inv
      obtain ⟨v, q1, q2⟩ := e2.get el
      obtain ⟨kp, g5⟩ := g4 (.lst ys.dropLast)
      obtain ⟨env', s', q3, q4⟩ := g5 (.lst upd_same (e2.dropLast.keep kp _ _))
      rw [q3] at w
      refine ⟨.ref a, g1, .inl ⟨rfl, ys, SqL.of e1⟩, a, ys, v, rfl, rfl, e1, by rw [← e2.length]; exact q1, ?_⟩
      exact w _ _ ρ Z (q4.set (q2.keep kp) j) kp
    | _ => cases el

/-! ### a, b = x, y -/
inductive RWs (K : PySem.W.Frag) (P : Pm) (H H' : Hp) (Z' : Addr → Prop) (ρ' : List Addr) : List Ow → List V → Prop
  | nil : RWs K P H H' Z' ρ' [] []
  | cons {w : Ow} {v : V} {ws : List Ow} {vs : List V} : RW K P H w v H' Z' ρ' → (∀ (o : O), w = .own o → ∀ (k : Nat) (o' : O), ws[k]? = some (Ow.own o') → vs[k]? ≠ some v) → RWs K P H H' Z' ρ' ws vs → RWs K P H H' Z' ρ' (w :: ws) (v :: vs)
theorem RW.mono {H2 : Hp} {w : Ow} {v : V} {H' : Hp} {Z' : Addr → Prop} {ρ' : List Addr} (m : ∀ p, H2 p = none → H p = none) (h : RW K P H2 w v H' Z' ρ') : RW K P H w v H' Z' ρ' := (kOw K P).mono m h
theorem RWs.mono {H2 : Hp} {H' : Hp} {Z' : Addr → Prop} {ρ' : List Addr} (m : ∀ p, H2 p = none → H p = none) : ∀ {ws : List Ow} {vs : List V}, RWs K P H2 H' Z' ρ' ws vs → RWs K P H H' Z' ρ' ws vs
  | _, _, .nil => .nil
  | _, _, .cons h q t => .cons (RW.mono m h) q (RWs.mono m t)
def kWs (K : PySem.W.Frag) (P : Pm) : Kd (List Ow) (List V) := ⟨fun H ws vs H' Z' ρ' => RWs K P H H' Z' ρ' ws vs, fun m h => RWs.mono m h⟩
abbrev canWs (K : PySem.W.Frag) (P : Pm) (XX : XR) (W : WX) (G : Nat → List T → Sto → R Ow) (c : List E) : TA := Can K P XX W (kWs K P) fun env st => evWs P G env c st
theorem RWs.length {H' : Hp} {Z' : Addr → Prop} {ρ' : List Addr} : ∀ {ws : List Ow} {vs : List V}, RWs K P H H' Z' ρ' ws vs → ws.length = vs.length
  | _, _, .nil => rfl
  | _, _, .cons _ _ t => congrArg (· + 1) (RWs.length t)
theorem RWs.fresh {H' : Hp} {Z' : Addr → Prop} {ρ' : List Addr} : ∀ {ws : List Ow} {vs : List V} {k : Nat} {o : O}, RWs K P H H' Z' ρ' ws vs → ws[k]? = some (.own o) → ∃ a, vs[k]? = some (.ref a) ∧ H a = none
  | _, _, _, _, .nil, e => by simp at e
  | _, _, 0, _, .cons h _ _, e => by
    simp at e; subst e
    obtain ⟨a, rfl, _, h2, _⟩ := h
    exact ⟨a, rfl, h2⟩
  | _, _, k + 1, o, .cons _ _ t, e => by
    obtain ⟨a, h1, h2⟩ := RWs.fresh (k := k) (o := o) t (by simpa using e)
    exact ⟨a, by simpa using h1, h2⟩
theorem sws_nil : PA X [] (canWs K P XX W G []) := paImp pa_nil fun σ H Q z => by
  obtain ⟨H0, ρ0, Z0, env, st, ρ, Z, F, w⟩ := z
  exact w [] H ρ Z .nil F.sto Nx.refl
theorem sws_cons {e : Expr} {es : List Expr} {c : E} {cs : List E} (he : PE X e (canE K P XX W G c)) (hs : PA X es (canWs K P XX W G cs)) (hst : starEach (e :: es) X.env = (false, eval e X.env) :: starEach es X.env) : PA X (e :: es) (canWs K P XX W G (c :: cs)) :=
  paImp (pa_cons he hs hst) fun σ H Q z => by
  obtain ⟨H0, ρ0, Z0, env, st, ρ, Z, F, w⟩ := z
  have w : Wp K P XX (kWs K P) ((evE P G env c st).bind fun x s1 => (evWs P G env cs s1).bind fun xs s2 => .ok (x :: xs) s2) H ρ Z Q (fun cls d H' => W cls d σ H') := w
  refine ⟨H0, ρ0, Z0, env, st, ρ, Z, F, ?_⟩
  show Wp K P XX (kOw K P) (evE P G env c st) H ρ Z _ _
  cases e1 : evE P G env c st with
  | bad => rw [e1] at w; exact w.elim
  | exn x s => rw [e1] at w; exact w
  | ok x s =>
    rw [e1] at w
    intro v H1 ρ1 Z1 h1 S1 n1
    have h1 : RW K P H x v H1 Z1 ρ1 := h1
    refine ⟨H0, ρ0, Z0, env, s, ρ1, Z1, F.step n1 S1, ?_⟩
    have w : Wp K P XX (kWs K P) ((evWs P G env cs s).bind fun xs s2 => .ok (x :: xs) s2) H ρ Z Q (fun cls d H' => W cls d σ H') := w
    show Wp K P XX (kWs K P) (evWs P G env cs s) H1 ρ1 Z1 _ _
    cases e2 : evWs P G env cs s with
    | bad => rw [e2] at w; exact w.elim
    | exn x s => rw [e2] at w; exact fun cls d H' ρ' Z' g1 g2 g3 => w cls d H' ρ' Z' g1 g2 (n1.trans g3)
    | ok xs s2 =>
      rw [e2] at w
      intro vs H2 ρ2 Z2 h2 S2 n2
      have h2 : RWs K P H1 H2 Z2 ρ2 xs vs := h2
      refine w (v :: vs) H2 ρ2 Z2 (.cons ?_ ?_ (h2.mono n1.there)) S2 (n1.trans n2)
      · cases x with
        | val t => exact RT.keep n2.kp _ _ h1
        | own o =>
          obtain ⟨a, rfl, g1, g2, g3, g4⟩ := h1
          refine ⟨a, rfl, g1.keep n2.kp ?_, g2, fun z => ?_, ?_⟩
          · cases e : H1 a with
            | none => exact absurd e g1.ne
            | some u => exact n2.ext a u e g4
          · rcases n2.znew a z with z | z
            · exact g3 z
            · exact g1.ne z
          · obtain ⟨ex, e, f⟩ := n2.rho
            rw [e, List.mem_append]
            rintro (z | z)
            · exact g4 z
            · exact g1.ne (f a z)
      · rintro o rfl k o' ek q
        obtain ⟨a, rfl, g1, g2, g3, g4⟩ := h1
        obtain ⟨b, q1, q2⟩ := h2.fresh ek
        rw [q] at q1
        cases q1
        exact g1.ne q2
/-- values to several slots -/
def setV (σ : L2.St) : List Nat → List V → L2.St
  | i :: is, v :: vs => setV (σ.set i (some v)) is vs
  | _, _ => σ
theorem Rel.setO {H' : Hp} {Z' : Addr → Prop} {ρ' : List Addr} : ∀ {is : List Nat} {ws : List Ow} {vs : List V} {env : Env} {σ : L2.St}, Rel K P H0 ρ0 Z0 env s σ H' ρ' Z' → RWs K P H H' Z' ρ' ws vs → (∀ a, H a = none → H0 a = none) →
    (∀ (j : Nat) (o : O) (k : Nat) (o' : O) (v : V), env[j]? = some (Slot.own o) → ws[k]? = some (.own o') → vs[k]? = some v → σ[j]? ≠ some (some v)) → is.length = ws.length → Rel K P H0 ρ0 Z0 (setO env is ws) s (setV σ is vs) H' ρ' Z'
  | [], _, _, _, _, r, _, _, _, _ => r
  | i :: is, _, _, _, _, r, .nil, _, _, e => by cases e
  | i :: is, _, _, env, σ, r, .cons (w := w) (v := v) (ws := ws) (vs := vs) h q t, m, nd, e => by
    have r1 : Rel K P H0 ρ0 Z0 (env.set i w.slot) s (σ.set i (some v)) H' ρ' Z' := by
      cases w with
      | val x => exact r.set h i
      | own o =>
        obtain ⟨a, rfl, h1, h2, h3, h4⟩ := h
        exact r.own_ h1 h3 h4 (m a h2) (fun j o' e => nd j o' 0 o (.ref a) e rfl rfl) i
    refine Rel.setO (is := is) (ws := ws) (vs := vs) r1 t m (fun j o k o' u e1 e2 e3 => ?_) (by simpa using e)
    have hj : j < σ.length := by
      have := (List.getElem?_eq_some_iff.mp e1).1
      rw [List.length_set, r.len] at this; exact this
    rcases set_get e1 with ⟨rfl, e9⟩ | ⟨ne, e9⟩
    · cases w with
      | val x => cases e9
      | own o2 =>
        rw [List.getElem?_set_self hj]
        intro z
        cases z
        exact q o2 rfl k o' e2 e3
    · rw [List.getElem?_set_ne ne]
      exact nd j o (k + 1) o' u e9 (by simpa using e2) (by simpa using e3)
theorem par_imp {cs : List E} {is lk : List Nat} {D : Ends} {σ : L2.St} {H : Hp} (z : canS K P XX W G lf (.par lk is cs) D σ H) : canWs K P XX W G cs σ H fun vs H1 => vs.length = is.length ∧ D.nx (setV σ is vs) H1 := by
  have z := CanS.frz (lk := lk) (g := fun env st => (evWs P G env cs st).out env fun ws s1 => if is.length = ws.length then .nx (setO env is ws) s1 else .bad) z fun env st => rfl
  refine CanS.out (k := kWs K P) (r := fun env st => evWs P G env cs st) (f := fun env ws s1 => if is.length = ws.length then .nx (setO env is ws) s1 else .bad) z (fun env st => rfl) fun H0 ρ0 Z0 env st ρ Z ws s vs H' ρ' Z' F hw S nx w' => ?_
  have hw : RWs K P H H' Z' ρ' ws vs := hw
  split at w'
  · rename_i hl
    refine ⟨by rw [hl]; exact hw.length.symm, w' _ H' ρ' Z' (Rel.setO (F.step nx S) hw (fun a e => F.nx.there a e) (fun j o k o' v e1 e2 e3 q => ?_) hl) (Kp.refl _ _ _)⟩
    obtain ⟨a, g1, g2, _⟩ := F.own j o e1
    obtain ⟨b, g3, g4⟩ := hw.fresh e2
    rw [e3] at g3
    cases g3
    rw [g1] at q
    cases q
    exact g2.ne g4
  · exact w'.elim
theorem s_par2 {i j : Nat} {x y : Str} {a b : Expr} {ca cb : E} {lk : List Nat} {px py pt pos : Pos} {kt k2 pt2} (hc : X.calm = true) (nd : X.N.Nodup) (hi : X.N[i]? = some x) (hj : X.N[j]? = some y) (hij : i ≠ j)
    (hx : X.env.scope.names.lookup x = some .local) (hy : X.env.scope.names.lookup y = some .local) (ha : PA X [a, b] (canWs K P XX W G [ca, cb]))
    (hw : swappedStores [.Tuple [.Name x px, .Name y py] kt pt] (.Tuple [a, b] k2 pt2) X.env = pure (some [x, y])) :
    PS X (.Assign [.Tuple [.Name x px, .Name y py] kt pt] (.Tuple [a, b] k2 pt2) pos) (canS K P XX W G lf (.par lk [i, j] [ca, cb])) := by
  refine psImp (ps_par hc nd hi hj hij hx hy ha hw rfl) fun D σ H z => ?_
  have z := par_imp z
  obtain ⟨H0, ρ0, Z0, env, st, ρ, Z, F, w⟩ := z
  refine ⟨H0, ρ0, Z0, env, st, ρ, Z, F, w.imp fun vs H1 q => ?_⟩
  obtain ⟨q1, q2⟩ := q
  match vs, q1, q2 with
  | [v, w], _, q2 => exact ⟨v, w, rfl, q2⟩
theorem s_par3 {i j l : Nat} {x y z : Str} {a b c : Expr} {ca cb cc : E} {lk : List Nat} {px py pz pt pos : Pos} {kt k2 pt2} (hc : X.calm = true) (nd : X.N.Nodup) (hi : X.N[i]? = some x) (hj : X.N[j]? = some y) (hl : X.N[l]? = some z) (hij : i ≠ j) (hil : i ≠ l) (hjl : j ≠ l)
    (hx : X.env.scope.names.lookup x = some .local) (hy : X.env.scope.names.lookup y = some .local) (hz : X.env.scope.names.lookup z = some .local) (ha : PA X [a, b, c] (canWs K P XX W G [ca, cb, cc]))
    (hw : swappedStores [.Tuple [.Name x px, .Name y py, .Name z pz] kt pt] (.Tuple [a, b, c] k2 pt2) X.env = pure (some [x, y, z])) :
    PS X (.Assign [.Tuple [.Name x px, .Name y py, .Name z pz] kt pt] (.Tuple [a, b, c] k2 pt2) pos) (canS K P XX W G lf (.par lk [i, j, l] [ca, cb, cc])) := by
  refine psImp (ps_par3 hc nd hi hj hl hij hil hjl hx hy hz ha hw rfl) fun D σ H z => ?_
  have z := par_imp z
  obtain ⟨H0, ρ0, Z0, env, st, ρ, Z, F, w⟩ := z
  refine ⟨H0, ρ0, Z0, env, st, ρ, Z, F, w.imp fun vs H1 q => ?_⟩
  obtain ⟨q1, q2⟩ := q
  match vs, q1, q2 with
  | [v, w, u], _, q2 => exact ⟨v, w, u, rfl, q2⟩

/-! ### while -/
theorem s_whl {t : Expr} {a : List Stmt} {c : E} {ca : List S} {p : Pos} (po : PassesOwn (model X.prog X.w) X.A X.env X.xe) (h : PT X t (canB K P XX W G c)) (ha : PSs X a (canSs K P XX W G lf ca)) : PS X (.While t a [] p) (canS K P XX W G lf (.whl c ca)) :=
  psImp (ps_while po h ha) fun D σ H z => by
  obtain ⟨H0, ρ0, Z0, env, st, ρ, Z, F, w⟩ := z
  refine ⟨fun m σ' H' => ∃ env' st' ρ' Z', Rel K P H0 ρ0 Z0 env' st' σ' H' ρ' Z' ∧
    WpS K P XX W (whGo (fun env s => evC P G env (some c) s) (fun env s => evSs P G lf ca env s) m env' st') H0 ρ0 Z0 σ' H' ρ' Z' D, ⟨lf, env, st, ρ, Z, F, w⟩, fun m σ' H' hW => ?_⟩
  obtain ⟨env', st', ρ', Z', F', w'⟩ := hW
  cases m with
  | zero => exact w'.elim
  | succ m =>
    have w' : WpS K P XX W ((evC P G env' (some c) st').out env' fun k s1 => if k = true then (match evSs P G lf ca env' s1 with
      | .nx env' s' => whGo (fun env s => evC P G env (some c) s) (fun env s => evSs P G lf ca env s) m env' s'
      | .ct env' s' => whGo (fun env s => evC P G env (some c) s) (fun env s => evSs P G lf ca env s) m env' s'
      | .bk env' s' => .nx env' s'
      | o => o) else .nx env' s1) H0 ρ0 Z0 σ' H' ρ' Z' D := w'
    refine ⟨H0, ρ0, Z0, env', st', ρ', Z', F', WpS.out (k := kEq Bool) w' F' fun k s b H1 ρ1 Z1 hb S nx w1 => ?_⟩
    cases hb
    have F1 := F'.step nx S
    cases k with
    | false => exact w1 σ' H1 ρ1 Z1 F1 (Kp.refl _ _ _)
    | true =>
      show ∃ N : L2.St → Hp → Prop, _ ∧ _
      refine ⟨fun σ2 H2 => ∃ env2 st2 ρ2 Z2, Rel K P H0 ρ0 Z0 env2 st2 σ2 H2 ρ2 Z2 ∧
        WpS K P XX W (whGo (fun env s => evC P G env (some c) s) (fun env s => evSs P G lf ca env s) m env2 st2) H0 ρ0 Z0 σ2 H2 ρ2 Z2 D, fun σ2 H2 h2 => ⟨m, Nat.lt_succ_self m, h2⟩, ?_⟩
      refine ⟨H0, ρ0, Z0, env', s, ρ1, Z1, F1, ?_⟩
      show WpS K P XX W (evSs P G lf ca env' s) H0 ρ0 Z0 σ' H1 ρ1 Z1 _
      have w1 : WpS K P XX W (match evSs P G lf ca env' s with
          | .nx env' s' => whGo (fun env s => evC P G env (some c) s) (fun env s => evSs P G lf ca env s) m env' s'
          | .ct env' s' => whGo (fun env s => evC P G env (some c) s) (fun env s => evSs P G lf ca env s) m env' s'
          | .bk env' s' => .nx env' s'
          | o => o) H0 ρ0 Z0 σ' H1 ρ1 Z1 D := w1
      cases e : evSs P G lf ca env' s with
      | nx env2 s2 => rw [e] at w1; exact fun σ2 H2 ρ2 Z2 h1 h2 => ⟨env2, s2, ρ2, Z2, h1, WpS.from_ (show WpS K P XX W (whGo _ _ m env2 s2) H0 ρ0 Z0 σ' H1 ρ1 Z1 D from w1) h2⟩
      | ct env2 s2 => rw [e] at w1; exact fun σ2 H2 ρ2 Z2 h1 h2 => ⟨env2, s2, ρ2, Z2, h1, WpS.from_ (show WpS K P XX W (whGo _ _ m env2 s2) H0 ρ0 Z0 σ' H1 ρ1 Z1 D from w1) h2⟩
      | bk env2 s2 => rw [e] at w1; exact w1
      | rt w2 s2 => rw [e] at w1; exact w1
      | exn x env2 s2 => rw [e] at w1; exact w1
      | bad => rw [e] at w1; exact w1

/-! ### for -/
theorem canW_of {e : Expr} {c : E} (h : PE X e (canE K P XX W G c)) (hc : ∀ i, c ≠ .pk i) : PE X e (canW K P XX W G (flB K P) c) := peImp (peFrz h) fun σ H Q z => by
  obtain ⟨H0, ρ0, Z0, env, st, ρ, Z, r, w⟩ := z
  refine ⟨H0, ρ0, Z0, env, st, ρ, Z, r, ?_⟩
  cases c <;> first | exact w | exact absurd rfl (hc _)
theorem s_for {tg e : Expr} {body : List Stmt} {t : Tg} {it : It} {cb : List S} {lk : List Nat} {p : Pos} (hK : X.K = K) (hc : X.calm = true) (po : PassesOwn (model X.prog X.w) X.A X.env X.xe) (h : PI X tg e (canI K P XX W G (flB K P) it)) (hg : PG X tg (gT K t))
    (hb : PSs X body (canSs K P XX W G lf cb)) (hs : ∀ x, foldedSetIterable e X.env x = pure x) : PS X (.For tg e body [] p) (canS K P XX W G lf (.for_ lk t it cb)) := by
  subst hK
  refine psImp (ps_for po hc h hg hb hs) fun D σ H z => ?_
  have z := CanS.frz (lk := lk) (g := fun env st => (evI P G env it st).out env fun ts s1 => forGo (fun t' env s => match t.put env t' with
      | some env' => evSs P G lf cb env' s
      | none => .bad) ts env s1) z fun env st => rfl
  refine CanS.out (k := kI (flB X.K P)) (r := fun env st => evI P G env it st) (f := fun env ts s1 => forGo (fun t' env s => match t.put env t' with
      | some env' => evSs P G lf cb env' s
      | none => .bad) ts env s1) z (fun env st => rfl) fun H0 ρ0 Z0 env st ρ Z ts s J H1 ρ1 Z1 F hJ S nx w1 => ?_
  obtain ⟨Gd, Y, wk, hst, hy⟩ := hJ
  have F1 := F.step nx S
  refine for_it wk (fun i σ' H' => ∃ env' s' ρ' Z', Rel X.K P H0 ρ0 Z0 env' s' σ' H' ρ' Z' ∧ Kp H1 ρ1 Z1 H' ρ' Z' ∧ WpS X.K P XX W (forGo (fun t' env s => match t.put env t' with
      | some env' => evSs P G lf cb env' s
      | none => .bad) (ts.drop i) env' s') H0 ρ0 Z0 σ' H' ρ' Z' D) ⟨env, s, ρ1, Z1, F1, Kp.refl _ _ _, by rw [List.drop_zero]; exact w1⟩ ?_ ?_ ?_
  · intro i σ' H' hi ⟨env', s', ρ', Z', F', k', w'⟩
    exact hst H' fun a u e q => k'.imm a u e q
  · intro i x σ' H' H2 hi ⟨env', s', ρ', Z', F', k', w'⟩ yy
    obtain ⟨tt, et⟩ : ∃ tt, ts[i]? = some tt := ⟨ts[i], by simp [hi]⟩
    obtain ⟨e3, rt⟩ := hy i tt H' x H2 et yy ρ' Z' k'
    have ed : ts.drop i = tt :: ts.drop (i + 1) := by
      obtain ⟨hl, e⟩ := List.getElem?_eq_some_iff.mp et
      rw [List.drop_eq_getElem_cons hl, e]
    rw [ed] at w'
    have n2 : Nx H' ρ' Z' H2 ρ' Z' ∧ RelS X.K P s' H2 ρ' Z' := by
      rcases e3 with rfl | ⟨q, ys, hq, rfl⟩
      · exact ⟨Nx.refl, F'.sto⟩
      · exact ⟨Nx.new hq, F'.sto.new hq⟩
    obtain ⟨n2, S2⟩ := n2
    have F2 := F'.step n2 S2
    have k2 := k'.trans n2.kp
    have w' : WpS X.K P XX W (match (match t.put env' tt with
        | some env' => evSs P G lf cb env' s'
        | none => .bad) with
      | .nx env' s' => forGo (fun t' env s => match t.put env t' with
        | some env' => evSs P G lf cb env' s
        | none => .bad) (ts.drop (i + 1)) env' s'
      | .ct env' s' => forGo (fun t' env s => match t.put env t' with
        | some env' => evSs P G lf cb env' s
        | none => .bad) (ts.drop (i + 1)) env' s'
      | .bk env' s' => .nx env' s'
      | o => o) H0 ρ0 Z0 σ' H' ρ' Z' D := w'
    cases ep : t.put env' tt with
    | none => rw [ep] at w'; exact w'.elim
    | some env2 =>
      rw [ep] at w'
      have w' : WpS X.K P XX W (match evSs P G lf cb env2 s' with
        | .nx env' s' => forGo (fun t' env s => match t.put env t' with
          | some env' => evSs P G lf cb env' s
          | none => .bad) (ts.drop (i + 1)) env' s'
        | .ct env' s' => forGo (fun t' env s => match t.put env t' with
          | some env' => evSs P G lf cb env' s
          | none => .bad) (ts.drop (i + 1)) env' s'
        | .bk env' s' => .nx env' s'
        | o => o) H0 ρ0 Z0 σ' H' ρ' Z' D := w'
      refine Rel.put F2 rt ep fun σ2 F3 _ => ?_
      refine ⟨H0, ρ0, Z0, env2, s', ρ', Z', F3, ?_⟩
      show WpS X.K P XX W (evSs P G lf cb env2 s') H0 ρ0 Z0 σ2 H2 ρ' Z' _
      have w' := WpS.from_ (σ1 := σ2) w' n2.kp
      cases e : evSs P G lf cb env2 s' with
      | nx env3 s3 => rw [e] at w'; exact fun σ4 H4 ρ4 Z4 h1 h2 => ⟨env3, s3, ρ4, Z4, h1, k2.trans h2, WpS.from_ (show WpS X.K P XX W (forGo _ (ts.drop (i + 1)) env3 s3) H0 ρ0 Z0 σ2 H2 ρ' Z' D from w') h2⟩
      | ct env3 s3 => rw [e] at w'; exact fun σ4 H4 ρ4 Z4 h1 h2 => ⟨env3, s3, ρ4, Z4, h1, k2.trans h2, WpS.from_ (show WpS X.K P XX W (forGo _ (ts.drop (i + 1)) env3 s3) H0 ρ0 Z0 σ2 H2 ρ' Z' D from w') h2⟩
      | bk env3 s3 => rw [e] at w'; exact w'
      | rt w2 s3 => rw [e] at w'; exact w'
      | exn x env3 s3 => rw [e] at w'; exact w'
      | bad => rw [e] at w'; exact w'
  · intro σ' H' ⟨env', s', ρ', Z', F', k', w'⟩
    rw [List.drop_length] at w'
    exact w' σ' H' ρ' Z' F' (Kp.refl _ _ _)
end
end TW

set_option Elab.async false
set_option linter.all false
set_option maxRecDepth 100000
set_option maxHeartbeats 4000000
/-! Core16: the compiler of statements. -/
namespace TW
open PySem L2
/-! ### slots that are handed on -/
mutual
def lkE : E → List Nat
  | .var i => [i]
  | .pk _ => []
  | .con _ => []
  | .bin _ a b => lkE a ++ lkE b
  | .neg a => lkE a
  | .cmp _ a b => lkE a ++ lkE b
  | .chn _ _ a b c => lkE a ++ (lkE b ++ lkE c)
  | .and a b => lkE a ++ lkE b
  | .or a b => lkE a ++ lkE b
  | .not a => lkE a
  | .ifx c a b => lkE c ++ (lkE a ++ lkE b)
  | .tup es => lkEs es
  | .lst es => lkEs es
  | .ix a b => lkE a ++ lkE b
  | .sl a lo hi => lkE a ++ (lkO lo ++ lkO hi)
  | .rev a => lkE a
  | .dct _ es => lkEs es
  | .mkr e => lkE e
  | .call _ es => lkEs es
  | .blt _ e => lkE e
  | .blt2 _ e e2 => lkE e ++ lkE e2
  | .lc _ elt _ it cond => lkE elt ++ (lkI it ++ lkO cond)
def lkEs : List E → List Nat
  | [] => []
  | e :: es => lkE e ++ lkEs es
def lkO : Option E → List Nat
  | none => []
  | some e => lkE e
def lkI : It → List Nat
  | .seq e => lkE e
  | .rng1 e => lkE e
  | .rng2 a b => lkE a ++ lkE b
  | .rng3 a b c => lkE a ++ (lkE b ++ lkE c)
  | .enum e => lkE e
  | .zip a b => lkE a ++ lkE b
end
def mk1 {α : Type} (o : Option α) (f : α → S) : S := match o with
  | some a => f a
  | none => .dead
def isComp : Expr → Bool
  | .ListComp _ _ _ _ => true
  | .SetComp _ _ _ _ => true
  | .DictComp _ _ _ _ _ => true
  | _ => false
/-- the order of stores of a, b = x, y -/
def swS (sc : Scope) (ts vs : List Expr) : Option (Option (List Str)) :=
  if (!(ts.length == 2 || ts.length == 3) || vs.length != ts.length) = true then some none
  else
    if ((ts.filterMap fun
      | .Name id pos => if sc.names.lookup id == some .local && pos.line == (ts.head?.map (·.pos.line)).getD 0 then some id else none
      | _ => none).length != ts.length || (ts.filterMap fun
      | .Name id pos => if sc.names.lookup id == some .local && pos.line == (ts.head?.map (·.pos.line)).getD 0 then some id else none
      | _ => none).eraseDups.length != (ts.filterMap fun
      | .Name id pos => if sc.names.lookup id == some .local && pos.line == (ts.head?.map (·.pos.line)).getD 0 then some id else none
      | _ => none).length) = true then some none
    else if vs.all (foldedForSure 8) = true then some none
    else if vs.all (constantsAlone 8) = true then none
    else some (some (ts.filterMap fun
      | .Name id pos => if sc.names.lookup id == some .local && pos.line == (ts.head?.map (·.pos.line)).getD 0 then some id else none
      | _ => none))
/-- a comprehension that goes to the name y -/
def swB (sc : Scope) (scope : Scope) (y : Str) (py pos : Pos) : Bool :=
  decide (sc.names.lookup y = some .local) && (py.line == pos.line) && !(scope.names.any fun (n, k) => n == y && (k == .local || k == .cell))
section
variable (C : CC) (dtg : DTag)
/-- what a for walks -/
def cJ (n : Nat) (sc : Scope) (two : Bool) (e : Expr) : Option It := match e with
  | .Call f args kw pos => (match f, kw, args with
    | .Name x _, [], [a] => if isB C sc x then (if x = "range" then (cE C dtg n sc a).map .rng1 else if x = "enumerate" then (if two then (cE C dtg n sc a).map .enum else none)
        else (cE C dtg n sc (.Call f args kw pos)).map .seq) else (cE C dtg n sc (.Call f args kw pos)).map .seq
    | .Name x _, [], [a, b] => if isB C sc x then (if x = "range" then opt2 (cE C dtg n sc a) (cE C dtg n sc b) .rng2 else if x = "zip" then (if two then opt2 (cE C dtg n sc a) (cE C dtg n sc b) .zip else none)
        else (cE C dtg n sc (.Call f args kw pos)).map .seq) else (cE C dtg n sc (.Call f args kw pos)).map .seq
    | .Name x _, [], [a, b, c] => if isB C sc x then (if x = "range" then opt3 (cE C dtg n sc a) (cE C dtg n sc b) (cE C dtg n sc c) .rng3 else (cE C dtg n sc (.Call f args kw pos)).map .seq) else (cE C dtg n sc (.Call f args kw pos)).map .seq
    | _, _, _ => (cE C dtg n sc (.Call f args kw pos)).map .seq)
  | .Set _ _ _ => none
  | e => (cE C dtg n sc e).map .seq
def cX (n : Nat) (sc : Scope) (e : Expr) : S := match e with
  | .Call f args kw cpos => (match f with
    | .Attribute o a apos => (match o, args, kw with
      | .Name x _, [e1], [] => if a = "append" then (if (vis sc x && (apos.endLine == cpos.line)) = true then (match ixOf x C.N 0, cE C dtg n sc e1 with
          | some i, some c => .app (lkE c) i c
          | _, _ => .dead) else .dead) else .dead
      | _, _, _ => .dead)
    | f => mk1 (cE C dtg n sc (.Call f args kw cpos)) fun c => .expr (lkE c) c)
  | e => if isComp e = true then .dead else mk1 (cE C dtg n sc e) fun c => .expr (lkE c) c
/-- x = e -/
def cAn (n : Nat) (sc : Scope) (i : Nat) (e : Expr) : S := mk1 (cE C dtg n sc e) fun c => .asg (lkE c) i (mkW (C.rfs.contains i) c)
def cA (n : Nat) (sc : Scope) (tg e : Expr) : S := match tg with
  | .Name y py => if okL sc y = true then (match ixOf y C.N 0 with
    | some i => (match e with
      | .Call f args kw cpos => (match f, args, kw with
        | .Attribute o a apos, [], [] => (match o with
          | .Name x _ => if a = "pop" then (if (vis sc x && (apos.endLine == cpos.line)) = true then (match ixOf x C.N 0 with
              | some j => .popA i j
              | none => .dead) else .dead) else .dead
          | _ => .dead)
        | _, _, _ => cAn C dtg n sc i e)
      | .ListComp elt gens scope pos => cAn C dtg n sc i e
      | e => if isComp e = true then .dead else cAn C dtg n sc i e)
    | none => .dead) else .dead
  | .Tuple ts _ _ => (match tgNames C.N (okL sc) ts with
    | some is => (match e with
      | .Tuple vs _ _ => (match swS sc ts vs with
        | some none => mk1 (cE C dtg n sc e) fun c => .unp (lkE c) is c
        | some (some _) => if decide is.Nodup = true then mk1 (cEs C dtg n sc (is.map fun i => C.rfs.contains i) vs) fun cs => .par (lkEs cs) is cs else .dead
        | none => .dead)
      | e => mk1 (cE C dtg n sc e) fun c => .unp (lkE c) is c)
    | none => .dead)
  | .Subscript o k _ => (match o with
    | .Name x _ => if vis sc x = true then (match ixOf x C.N 0, cE C dtg n sc k, cE C dtg n sc e with
      | some i, some ck, some c => .seti (lkE ck ++ lkE c) i ck c
      | _, _, _ => .dead) else .dead
    | _ => .dead)
  | _ => .dead
mutual
def cS : Nat → Scope → Stmt → S
  | 0, _, _ => .dead
  | n + 1, sc, st => match st with
    | .Pass _ => .pass
    | .Break _ => .brk
    | .Continue _ => .cont
    | .Return v _ => (match v with
      | none => .retN
      | some e => (match e with
        | .Name x _ => if vis sc x = true then (match ixOf x C.N 0 with
          | some i => .retv i
          | none => .dead) else mk1 (cE C dtg n sc e) fun c => .ret (lkE c) c
        | e => mk1 (cE C dtg n sc e) fun c => .ret (lkE c) c))
    | .Expr e _ => cX C dtg n sc e
    | .If t a b _ => mk1 (cE C dtg n sc t) fun c => .ifs (lkE c) c (cSs n sc a) (cSs n sc b)
    | .While t a el _ => (match el with
      | [] => mk1 (cE C dtg n sc t) fun c => .whl c (cSs n sc a)
      | _ => .dead)
    | .For tg it a el _ => (match el with
      | [] => mk1 (cTg C.N (okL sc) tg) fun t => mk1 (cJ C dtg n sc t.two it) fun i => .for_ (lkI i) t i (cSs n sc a)
      | _ => .dead)
    | .Assign tgs e _ => (match tgs with
      | [tg] => cA C dtg n sc tg e
      | _ => .dead)
    | _ => .dead
def cSs : Nat → Scope → List Stmt → List S
  | 0, _, _ => [.dead]
  | _ + 1, _, [] => []
  | n + 1, sc, x :: xs => cS n sc x :: cSs n sc xs
end
end

/-! ### soundness -/
theorem swS_ok {sc : Scope} {ts vs : List Expr} {env : PySem.Env} {k k2 : Nat} {p p2 : Pos} {r : Option (List Str)} (h : swS sc ts vs = some r) (he : env.scope = sc) (hk : sc.kind = .function) (hv : vs.all notStar = true) :
    swappedStores [.Tuple ts k p] (.Tuple vs k2 p2) env = pure r := by
  have hb : env.blockKind = .function := by unfold PySem.Env.blockKind; rw [he, hk]; rfl
  have hst : (vs.any fun | .Starred .. => true | _ => false) = false := by
    rw [List.any_eq_false]
    intro x hx
    have := List.all_eq_true.mp hv x hx
    cases x <;> first | (simp; done) | exact absurd this (by simp [notStar])
  have hk : ∀ x, env.kindOf x = sc.names.lookup x := fun x => by show env.scope.names.lookup x = _; rw [he]
  have hne : (ScopeKind.function != ScopeKind.function) = false := rfl
  unfold swS at h
  unfold swappedStores
  simp only [hb, hst, hk, hne, Bool.or_false]
  split at h
  · rename_i h1
    cases h
    rw [if_pos h1]
  · rename_i h1
    rw [if_neg h1]
    refine Eq.trans (if_neg ?_) ?_
    · intro q; exact Bool.noConfusion (hst.symm.trans q)
    split at h
    · rename_i h2
      cases h
      refine Eq.trans (if_pos ?_) rfl
      exact h2
    · rename_i h2
      refine Eq.trans (if_neg ?_) ?_
      · exact h2
      split at h
      · rename_i h3
        cases h
        refine Eq.trans (if_pos ?_) rfl
        exact h3
      · rename_i h3
        refine Eq.trans (if_neg ?_) ?_
        · exact h3
        split at h
        · cases h
        · rename_i h4
          cases h
          refine Eq.trans (if_neg ?_) rfl
          exact h4
section
variable {C : CC} {dtg : DTag} {K : PySem.W.Frag} {P : Pm} {XX : XR} {G : Nat → List T → Sto → R Ow} {lf k n : Nat}
end
end TW

set_option Elab.async false
set_option linter.all false
set_option maxRecDepth 100000
set_option maxHeartbeats 4000000
/-! Core17: the compiled statements run as the text does. -/
namespace TW
open PySem L2
theorem swS_names {sc : Scope} {ts vs : List Expr} {l : List Str} (h : swS sc ts vs = some (some l)) : l.length = ts.length ∧ (ts.length = 2 ∨ ts.length = 3) ∧ vs.length = ts.length ∧ l = ts.filterMap fun
      | .Name id pos => if sc.names.lookup id == some .local && pos.line == (ts.head?.map (·.pos.line)).getD 0 then some id else none
      | _ => none := by
  unfold swS at h
  split at h
  · cases h
  · rename_i h1
    split at h
    · cases h
    · rename_i h2
      split at h
      · cases h
      · split at h
        · cases h
        · cases h
          simp only [Bool.or_eq_true, Bool.not_eq_true', not_or, Bool.not_eq_false, bne_iff_ne, ne_eq, Decidable.not_not, beq_iff_eq] at h1 h2
          exact ⟨h2.1, by simpa using h1.1, h1.2, rfl⟩
theorem swS_2 {sc : Scope} {x y : Str} {px py : Pos} {vs : List Expr} {l : List Str} (h : swS sc [.Name x px, .Name y py] vs = some (some l)) : l = [x, y] := by
  obtain ⟨h1, _, _, h2⟩ := swS_names h
  rw [h2] at h1
  rw [h2]
  simp only [List.filterMap_cons, List.filterMap_nil] at h1 ⊢
  split at h1 <;> split at h1 <;> simp_all
theorem swS_3 {sc : Scope} {x y z : Str} {px py pz : Pos} {vs : List Expr} {l : List Str} (h : swS sc [.Name x px, .Name y py, .Name z pz] vs = some (some l)) : l = [x, y, z] := by
  obtain ⟨h1, _, _, h2⟩ := swS_names h
  rw [h2] at h1
  rw [h2]
  simp only [List.filterMap_cons, List.filterMap_nil] at h1 ⊢
  split at h1 <;> split at h1 <;> split at h1 <;> simp_all
theorem swS_mem {sc : Scope} {ts vs : List Expr} {l : List Str} (h : swS sc ts vs = some (some l)) {x : Str} (hx : x ∈ l) : sc.names.lookup x = some .local := by
  obtain ⟨_, _, _, h2⟩ := swS_names h
  rw [h2] at hx
  obtain ⟨e, _, he⟩ := List.mem_filterMap.mp hx
  cases e with
  | Name id pos =>
    have he : (if (sc.names.lookup id == some .local && pos.line == (ts.head?.map (·.pos.line)).getD 0) = true then some id else none) = some x := he
    split at he
    · rename_i hc
      cases he
      exact eq_of_beq (Bool.and_eq_true_iff.mp hc).1
    · cases he
  | _ => cases he
theorem notC_sw {e : Expr} (h : isComp e = false) (t : Option Expr) (l : Nat) (env : PySem.Env) : swapsWith e t l env = pure false := by
  cases e <;> first | rfl | cases h
theorem sole_tup {ts : List Expr} {k : Nat} {p : Pos} {e : Expr} {l : Nat} {env : PySem.Env} : swapsWithSole [.Tuple ts k p] e l env = pure false := by
  show swapsWith e (some (.Tuple ts k p)) l env = pure false
  cases e <;> rfl
theorem sw_sub {o k : Expr} {p : Pos} {e : Expr} {l : Nat} {env : PySem.Env} : swapsWith e (some (.Subscript o k p)) l env = pure false := by
  cases e <;> rfl
theorem sw_lc {elt : Expr} {gs : List Comprehension} {scope sc : Scope} {pos py : Pos} {y : Str} {l : Nat} {env : PySem.Env} (he : env.scope = sc) (hk : sc.kind = .function) (hb : swB sc scope y py pos = true) : swapsWith (.ListComp elt gs scope pos) (some (.Name y py)) l env = pure true := by
  unfold swB at hb
  simp only [Bool.and_eq_true, decide_eq_true_eq, Bool.not_eq_true'] at hb
  exact sw_true (by rw [he]; exact hk) (by rw [he]; exact hb.1.1) hb.1.2 hb.2
theorem sw_lcF {elt : Expr} {gs : List Comprehension} {scope sc : Scope} {pos py : Pos} {y : Str} {l : Nat} {env : PySem.Env} (he : env.scope = sc) (hk : sc.kind = .function) (hb : swB sc scope y py pos = false) : swapsWith (.ListComp elt gs scope pos) (some (.Name y py)) l env = pure false := by
  have hb1 : env.blockKind = .function := by unfold PySem.Env.blockKind; rw [he, hk]; rfl
  have hk1 : env.kindOf y = sc.names.lookup y := by show env.scope.names.lookup y = _; rw [he]
  unfold swB at hb
  unfold swapsWith
  simp only [hb1, hk1, Expr.pos]
  show pure (((ScopeKind.function == ScopeKind.function) && (sc.names.lookup y == some .local) && (py.line == pos.line)) && !(scope.names.any fun (n, k) => n == y && (k == .local || k == .cell))) = pure false
  congr 1
  rw [show (ScopeKind.function == ScopeKind.function) = true from rfl, Bool.true_and, show (sc.names.lookup y == some NameKind.local) = decide (sc.names.lookup y = some .local) from by
    by_cases h : sc.names.lookup y = some .local
    · simp [h]
    · simp [h]]
  exact hb
theorem not_tup_st {ts : List Expr} {k : Nat} {p : Pos} {e : Expr} {env : PySem.Env} (h : ∀ vs k2 p2, e ≠ .Tuple vs k2 p2) : swappedStores [.Tuple ts k p] e env = pure none := by
  cases e <;> first | rfl | exact absurd rfl (h _ _ _)
section
variable {C : CC} {dtg : DTag} {K : PySem.W.Frag} {P : Pm} {XX : XR} {G : Nat → List T → Sto → R Ow} {lf k n : Nat}
theorem cE_noSlice {n : Nat} {sc : Scope} {e : Expr} {c : E} (h : cE C dtg n sc e = some c) {o : Expr} {p : Pos} {env : PySem.Env} (v : Value) : assign (.Subscript o e p) env v = (do
      let ov ← holding [v] (eval o env)
      let iv ← holding [v, ov] (eval e env)
      standAt p
      holding [v, ov, iv] (setItem ov iv v)
      release [v, ov, iv] []) := by
  cases n with
  | zero => simp [cE] at h
  | succ n => cases e <;> first | rfl | simp [cE] at h
variable {X : Cx} {W : WX} {sc : Scope}
theorem okL_ok (hs : X.env.scope = sc) (hfn : ∀ x, X.fn x = true) : ∀ x, okL sc x = true → Loc X.env.scope x ∧ (X.fn x = true ∨ X.env.scope.names.lookup x = some .local) := fun x h => by
  rw [hs]
  unfold okL at h
  rw [Bool.or_eq_true, decide_eq_true_eq, decide_eq_true_eq] at h
  exact ⟨h, .inl (hfn x)⟩
theorem cJ_fold {two : Bool} {e : Expr} {c : It} (h : cJ C dtg n sc two e = some c) (env : PySem.Env) (x : Value) : foldedSetIterable e env x = pure x := by
  cases e <;> first | rfl | (unfold cJ at h; cases h)
theorem j_seq {e : Expr} {c : It} (cx : Ctx K P XX C G k X W) (hs : X.env.scope = sc) (h : (cE C dtg n sc e).map It.seq = some c) (tg : Expr) : PI X tg e (canI K P XX W G (flB K P) c) := by
  obtain ⟨c', h1, rfl⟩ := Option.map_eq_some_iff.mp h
  obtain ⟨h2, h3⟩ := (sound (K := K) (P := P) (XX := XX) (G := G) (k := k) n).1.e sc e c' h1
  exact si_seq (f := flB K P) cx.K (canW_of (h3 X W cx hs).1 h2)
theorem j_ok {two : Bool} {tg e : Expr} {c : It} (cx : Ctx K P XX C G k X W) (hs : X.env.scope = sc) (h : cJ C dtg n sc two e = some c) (ht : two = true → ∃ elts kk tpos, tg = .Tuple elts kk tpos) : PI X tg e (canI K P XX W G (flB K P) c) := by
  have s := (sound (C := C) (dtg := dtg) (K := K) (P := P) (XX := XX) (G := G) (k := k) n).1
  have fin : ∀ {e : Expr}, (cE C dtg n sc e).map It.seq = some c → PI X tg e (canI K P XX W G (flB K P) c) := fun h => j_seq cx hs h tg
  cases e with
  | Set _ _ _ => simp [cJ] at h
  | Call f args kw pos =>
    simp only [cJ] at h
    split at h
    · rename_i x p a
      split at h
      · rename_i hb
        obtain ⟨g1, g2, g3⟩ := b_ok cx hb hs
        split at h
        · rename_i e; subst e
          obtain ⟨c', h1, rfl⟩ := Option.map_eq_some_iff.mp h
          exact si_rng1 g1 g3 ((s.e sc a c' h1).2 X W cx hs).1 (star_one (cE_star h1) _ _)
        · split at h
          · rename_i e; subst e
            split at h
            · rename_i tw
              obtain ⟨elts, kk, tpos, rfl⟩ := ht tw
              obtain ⟨c', h1, rfl⟩ := Option.map_eq_some_iff.mp h
              exact si_enum (f := flB K P) cx.K g1 g3 (canW_of ((s.e sc a c' h1).2 X W cx hs).1 (s.e sc a c' h1).1) (star_one (cE_star h1) _ _)
            · cases h
          · exact fin h
      · exact fin h
    · rename_i x p a b
      split at h
      · rename_i hb
        obtain ⟨g1, g2, g3⟩ := b_ok cx hb hs
        split at h
        · rename_i e; subst e
          obtain ⟨c1, c2, h1, h2, rfl⟩ := opt2_some h
          have s1 := star_one (cE_star h1)
          have s2 := star_one (cE_star h2)
          exact si_rng2 g1 g3 ((s.e sc a c1 h1).2 X W cx hs).1 ((s.e sc b c2 h2).2 X W cx hs).1 (by rw [s1, s2]; rfl) (by rw [s2]; rfl)
        · split at h
          · rename_i e; subst e
            split at h
            · rename_i tw
              obtain ⟨elts, kk, tpos, rfl⟩ := ht tw
              obtain ⟨c1, c2, h1, h2, rfl⟩ := opt2_some h
              have s1 := star_one (cE_star h1)
              have s2 := star_one (cE_star h2)
              exact si_zip (f := flB K P) cx.K g1 g3 (canW_of ((s.e sc a c1 h1).2 X W cx hs).1 (s.e sc a c1 h1).1) (canW_of ((s.e sc b c2 h2).2 X W cx hs).1 (s.e sc b c2 h2).1) (s1 _ _) (s2 _ _) (star_any (by rw [List.all_cons, cE_star h2]; rfl))
            · cases h
          · exact fin h
      · exact fin h
    · rename_i x p a b d
      split at h
      · rename_i hb
        obtain ⟨g1, g2, g3⟩ := b_ok cx hb hs
        split at h
        · rename_i e; subst e
          obtain ⟨c1, c2, c3, h1, h2, h3, rfl⟩ := opt3_some h
          have s1 := star_one (cE_star h1)
          have s2 := star_one (cE_star h2)
          have s3 := star_one (cE_star h3)
          exact si_rng3 g1 g3 ((s.e sc a c1 h1).2 X W cx hs).1 ((s.e sc b c2 h2).2 X W cx hs).1 ((s.e sc d c3 h3).2 X W cx hs).1 (by rw [s1, s2, s3]; rfl) (by rw [s2, s3]; rfl) (by rw [s3]; rfl)
        · exact fin h
      · exact fin h
    · exact fin h
  | _ => exact fin (by simpa only [cJ] using h)
/-- a statement whose code may be lacking -/
theorem mk1_ok {α : Type} {o : Option α} {f : α → S} {x : Stmt} (h : ∀ a, o = some a → PS X x (canS K P XX W G lf (f a))) : PS X x (canS K P XX W G lf (mk1 o f)) := by
  cases o with
  | none => exact s_dead
  | some a => exact h a rfl
/-- with a name in the store, or without -/
theorem asgW_ok {te : TE} {c : E} {i : Nat} {lk : List Nat} {b : Bool} {x : Stmt} (h : ∀ σ H Q, canE K P XX W G c σ H Q → te σ H Q) (hp : PS X x (tAsg te (gName i))) : PS X x (canS K P XX W G lf (.asg lk i (mkW b c))) := by
  refine psImp hp fun D σ H z => ?_
  cases b with
  | false => exact asg_imp h z
  | true => exact asg_imp (c := .mkr c) (fun σ H Q z => h σ H Q (mkr_imp z)) z
theorem expr_ok {e : Expr} {p : Pos} (cx : Ctx K P XX C G k X W) (hs : X.env.scope = sc) (hc : isComp e = false) : PS X (.Expr e p) (canS K P XX W G lf (mk1 (cE C dtg n sc e) fun c => .expr (lkE c) c)) :=
  mk1_ok fun c h => s_expr (((sound (K := K) (P := P) (XX := XX) (G := G) (k := k) n).1.e sc e c h).2 X W cx hs).1 (notC_sw hc _ _ _)
theorem cX_ok {e : Expr} {p : Pos} (cx : Ctx K P XX C G k X W) (hs : X.env.scope = sc) : PS X (.Expr e p) (canS K P XX W G lf (cX C dtg n sc e)) := by
  by_cases q : ∃ f args kw cpos, e = .Call f args kw cpos
  · obtain ⟨f, args, kw, cpos, rfl⟩ := q
    by_cases qf : ∃ o a apos, f = .Attribute o a apos
    · obtain ⟨o, a, apos, rfl⟩ := qf
      simp only [cX]
      split
      · rename_i x px e1
        split
        · rename_i ea; subst ea
          split
          · rename_i hv
            obtain ⟨hv, hl⟩ := Bool.and_eq_true_iff.mp hv
            split
            · rename_i i c h1 h2
              obtain ⟨v1, v2, v3⟩ := vis_ok hv
              exact s_app cx.K (by rw [cx.N]; exact ixOf_at h1) (by rw [hs]; exact v1) v2 v3 (((sound (K := K) (P := P) (XX := XX) (G := G) (k := k) n).1.e sc e1 c h2).2 X W cx hs).1 (star_one (cE_star h2) _ _) hl
            · exact s_dead
          · exact s_dead
        · exact s_dead
      · exact s_dead
    · have : cX C dtg n sc (.Call f args kw cpos) = mk1 (cE C dtg n sc (.Call f args kw cpos)) fun c => .expr (lkE c) c := by
        cases f <;> first | exact absurd ⟨_, _, _, rfl⟩ qf | rfl
      rw [this]
      exact expr_ok cx hs rfl
  · have : cX C dtg n sc e = if isComp e = true then .dead else mk1 (cE C dtg n sc e) fun c => .expr (lkE c) c := by
      cases e <;> first | exact absurd ⟨_, _, _, _, rfl⟩ q | rfl
    rw [this]
    split
    · exact s_dead
    · rename_i hc
      exact expr_ok cx hs (Bool.eq_false_iff.mpr hc)
theorem cAn_ok {e : Expr} {y : Str} {py pos : Pos} {i : Nat} (cx : Ctx K P XX C G k X W) (hs : X.env.scope = sc) (hfn : ∀ x, X.fn x = true) (hy : okL sc y = true) (hi : ixOf y C.N 0 = some i) (hc : ∀ l, swapsWith e (some (.Name y py)) l X.env = pure false) : PS X (.Assign [.Name y py] e pos) (canS K P XX W G lf (cAn C dtg n sc i e)) := by
  refine mk1_ok fun c h => ?_
  obtain ⟨l1, l2⟩ := okL_ok hs hfn y hy
  exact asgW_ok (fun _ _ _ z => z) (ps_set cx.nd (by rw [cx.N]; exact ixOf_at hi) l1 (((sound (K := K) (P := P) (XX := XX) (G := G) (k := k) n).1.e sc e c h).2 X W cx hs).1 (hc _) l2)
theorem cAlc_ok {elt : Expr} {gens : List Comprehension} {scope : Scope} {p2 : Pos} {y : Str} {py pos : Pos} {i : Nat} (cx : Ctx K P XX C G k X W) (hs : X.env.scope = sc) (hk : sc.kind = .function) (hi : ixOf y C.N 0 = some i) (hb : swB sc scope y py p2 = true) :
    PS X (.Assign [.Name y py] (.ListComp elt gens scope p2) pos) (canS K P XX W G lf (cAn C dtg n sc i (.ListComp elt gens scope p2))) := by
  refine mk1_ok fun c h => ?_
  cases n with
  | zero => simp [cE] at h
  | succ n =>
    obtain ⟨_, te, h1, _, h3⟩ := step_lc (sound (K := K) (P := P) (XX := XX) (G := G) (k := k) n).1 h cx hs
    exact asgW_ok h1 (h3 (by rw [cx.N]; exact ixOf_at hi) (by
      rw [hs]
      unfold swB at hb
      simp only [Bool.and_eq_true, decide_eq_true_eq] at hb
      exact hb.1.1) (sw_lc hs hk hb))
theorem unp_ok {ts : List Expr} {kt : Nat} {pt pos : Pos} {e : Expr} {is : List Nat} (cx : Ctx K P XX C G k X W) (hs : X.env.scope = sc) (hfn : ∀ x, X.fn x = true) (hi : tgNames C.N (okL sc) ts = some is) (hw : ∀ c, cE C dtg n sc e = some c → swappedStores [.Tuple ts kt pt] e X.env = pure none) :
    PS X (.Assign [.Tuple ts kt pt] e pos) (canS K P XX W G lf (mk1 (cE C dtg n sc e) fun c => .unp (lkE c) is c)) := by
  refine mk1_ok fun c h => ?_
  refine s_unp cx.K (((sound (K := K) (P := P) (XX := XX) (G := G) (k := k) n).1.e sc e c h).2 X W cx hs).1 ?_ sole_tup (hw c h)
  exact (cTg_ok cx.calm cx.N cx.nd (okL_ok hs hfn) (show cTg C.N (okL sc) (.Tuple ts kt pt) = some (.tp is) by simp [cTg, hi])).1
theorem ws_ok (cx : Ctx K P XX C G k X W) (hs : X.env.scope = sc) : ∀ (n : Nat) {fl : List Bool} {es : List Expr} {cs : List E}, cEs C dtg n sc fl es = some cs → es.all notStar = true ∧ es.length = cs.length ∧ PA X es (canWs K P XX W G cs)
  | 0, _, _, _, h => by simp [cEs] at h
  | n + 1, fl, [], cs, h => by cases h; exact ⟨rfl, rfl, sws_nil⟩
  | n + 1, fl, e :: es, cs, h => by
    obtain ⟨c, cs', h1, h2, rfl⟩ := opt2_some (show opt2 ((cE C dtg n sc e).map (mkW (fl.headD false))) (cEs C dtg n sc fl.tail es) (· :: ·) = some cs from h)
    obtain ⟨c0, h3, rfl⟩ := Option.map_eq_some_iff.mp h1
    obtain ⟨a1, a2, a3⟩ := ws_ok cx hs n h2
    have st := cE_star h3
    refine ⟨by rw [List.all_cons, st, a1]; rfl, by simp [a2], sws_cons ?_ a3 (star_one st es _)⟩
    have h := (((sound (K := K) (P := P) (XX := XX) (G := G) (k := k) n).1.e sc e c0 h3).2 X W cx hs).1
    cases fl.headD false with
    | false => exact h
    | true => exact peImp h fun _ _ _ => mkr_imp
omit X W in
theorem tgN {N : List Str} {ok : Str → Bool} {e : Expr} {es : List Expr} {is : List Nat} (h : tgNames N ok (e :: es) = some is) : ∃ x p i is', e = .Name x p ∧ is = i :: is' ∧ ixOf x N 0 = some i ∧ ok x = true ∧ tgNames N ok es = some is' := by
  cases e with
  | Name x p =>
    simp only [tgNames] at h
    split at h
    · rename_i hx
      split at h
      · rename_i i is' h1 h2
        cases h
        exact ⟨x, p, i, is', rfl, rfl, h1, hx, h2⟩
      · cases h
    · cases h
  | _ => simp [tgNames] at h
theorem tg2 {N : List Str} {ok : Str → Bool} {ts : List Expr} {is : List Nat} (h : tgNames N ok ts = some is) (hl : ts.length = 2) : ∃ x px y py i j, ts = [.Name x px, .Name y py] ∧ is = [i, j] ∧ ixOf x N 0 = some i ∧ ixOf y N 0 = some j ∧ ok x = true ∧ ok y = true := by
  match ts, hl with
  | [a, b], _ =>
    obtain ⟨x, px, i, is1, rfl, rfl, g1, g2, h⟩ := tgN h
    obtain ⟨y, py, j, is2, rfl, rfl, g3, g4, h⟩ := tgN h
    cases h
    exact ⟨x, px, y, py, i, j, rfl, rfl, g1, g3, g2, g4⟩
theorem tg3 {N : List Str} {ok : Str → Bool} {ts : List Expr} {is : List Nat} (h : tgNames N ok ts = some is) (hl : ts.length = 3) : ∃ x px y py z pz i j l, ts = [.Name x px, .Name y py, .Name z pz] ∧ is = [i, j, l] ∧ ixOf x N 0 = some i ∧ ixOf y N 0 = some j ∧ ixOf z N 0 = some l ∧ ok x = true ∧ ok y = true ∧ ok z = true := by
  match ts, hl with
  | [a, b, c], _ =>
    obtain ⟨x, px, i, is1, rfl, rfl, g1, g2, h⟩ := tgN h
    obtain ⟨y, py, j, is2, rfl, rfl, g3, g4, h⟩ := tgN h
    obtain ⟨z, pz, l, is3, rfl, rfl, g5, g6, h⟩ := tgN h
    cases h
    exact ⟨x, px, y, py, z, pz, i, j, l, rfl, rfl, g1, g3, g5, g2, g4, g6⟩
theorem cA_ok {tg e : Expr} {pos : Pos} (cx : Ctx K P XX C G k X W) (hs : X.env.scope = sc) (hfn : ∀ x, X.fn x = true) (hk : sc.kind = .function) : PS X (.Assign [tg] e pos) (canS K P XX W G lf (cA C dtg n sc tg e)) := by
  cases tg with
  | Name y py =>
    simp only [cA]
    split
    · rename_i hy
      split
      · rename_i i hi
        split
        · split
          · split
            · split
              · rename_i ea; subst ea
                split
                · rename_i hv
                  obtain ⟨hv, hl⟩ := Bool.and_eq_true_iff.mp hv
                  split
                  · rename_i j hj
                    obtain ⟨v1, v2, v3⟩ := vis_ok hv
                    exact s_popA cx.K cx.nd (by rw [cx.N]; exact ixOf_at hj) (by rw [hs]; exact v1) v2 v3 (by rw [cx.N]; exact ixOf_at hi) (okL_ok hs hfn y hy).1 (okL_ok hs hfn y hy).2 hl
                  · exact s_dead
                · exact s_dead
              · exact s_dead
            · exact s_dead
          · exact cAn_ok cx hs hfn hy hi fun l => notC_sw rfl _ _ _
        · rename_i elt gens scope p2
          cases hb : swB sc scope y py p2 with
          | true => exact cAlc_ok cx hs hk hi hb
          | false => exact cAn_ok cx hs hfn hy hi fun l => sw_lcF hs hk hb
        · split
          · exact s_dead
          · rename_i hc
            exact cAn_ok cx hs hfn hy hi fun l => notC_sw (Bool.eq_false_iff.mpr hc) _ _ _
      · exact s_dead
    · exact s_dead
  | Tuple ts kt pt =>
    simp only [cA]
    split
    · rename_i is hi
      split
      · rename_i vs k2 p2
        split
        · rename_i hsw
          refine unp_ok cx hs hfn hi fun c h => ?_
          cases n with
          | zero => simp [cE] at h
          | succ n =>
            simp only [cE] at h
            obtain ⟨cs, h1, rfl⟩ := Option.map_eq_some_iff.mp h
            obtain ⟨a1, _, _⟩ := (sound (K := K) (P := P) (XX := XX) (G := G) (k := k) n).1.es sc _ vs cs h1
            exact swS_ok hsw hs hk a1
        · rename_i l hsw
          split
          · rename_i hnd
            have hnd := of_decide_eq_true hnd
            refine mk1_ok fun cs h => ?_
            obtain ⟨a1, a2, a3⟩ := ws_ok (K := K) (P := P) (XX := XX) (G := G) (k := k) cx hs n h
            obtain ⟨_, hl, hvl, _⟩ := swS_names hsw
            have hw := swS_ok (k := kt) (k2 := k2) (p := pt) (p2 := p2) hsw hs hk a1
            rcases hl with hl | hl
            · obtain ⟨x, px, y, py, i, j, rfl, rfl, g1, g2, g3, g4⟩ := tg2 hi hl
              match vs, hvl, cs, a2, a3, hw, hsw with
              | [a, b], _, [ca, cb], _, a3, hw, hsw =>
                rw [swS_2 hsw] at hw
                have gl := fun {x} => swS_mem (x := x) hsw
                rw [swS_2 hsw] at gl
                exact s_par2 cx.calm cx.nd (by rw [cx.N]; exact ixOf_at g1) (by rw [cx.N]; exact ixOf_at g2) (by simpa using hnd) (by rw [hs]; exact gl (by simp)) (by rw [hs]; exact gl (by simp)) a3 hw
            · obtain ⟨x, px, y, py, z, pz, i, j, l2, rfl, rfl, g1, g2, g5, g3, g4, g6⟩ := tg3 hi hl
              match vs, hvl, cs, a2, a3, hw, hsw with
              | [a, b, c], _, [ca, cb, cc], _, a3, hw, hsw =>
                rw [swS_3 hsw] at hw
                have hnd : ¬ (i = j ∨ i = l2) ∧ ¬ j = l2 := by simpa using hnd
                have gl := fun {x} => swS_mem (x := x) hsw
                rw [swS_3 hsw] at gl
                exact s_par3 cx.calm cx.nd (by rw [cx.N]; exact ixOf_at g1) (by rw [cx.N]; exact ixOf_at g2) (by rw [cx.N]; exact ixOf_at g5) (fun q => hnd.1 (.inl q)) (fun q => hnd.1 (.inr q)) hnd.2 (by rw [hs]; exact gl (by simp)) (by rw [hs]; exact gl (by simp)) (by rw [hs]; exact gl (by simp)) a3 hw
          · exact s_dead
        · exact s_dead
      · rename_i hne
        exact unp_ok cx hs hfn hi fun c h => not_tup_st fun vs k2 p2 q => hne vs k2 p2 q
    · exact s_dead
  | Subscript o kk tpos =>
    simp only [cA]
    split
    · rename_i x px
      split
      · rename_i hv
        split
        · rename_i i ck c h1 h2 h3
          obtain ⟨v1, v2, v3⟩ := vis_ok hv
          have s := (sound (C := C) (dtg := dtg) (K := K) (P := P) (XX := XX) (G := G) (k := k) n).1
          exact s_seti cx.K cx.hu (by rw [cx.N]; exact ixOf_at h1) (by rw [hs]; exact v1) v2 v3 ((s.e sc e c h3).2 X W cx hs).1 ((s.e sc kk ck h2).2 X W cx hs).1 (cE_noSlice h2) sw_sub
        · exact s_dead
      · exact s_dead
    · exact s_dead
  | _ => exact s_dead
theorem soundS (cx : Ctx K P XX C G k X W) (hs : X.env.scope = sc) (hfn : ∀ x, X.fn x = true) (hk : sc.kind = .function) : ∀ n, (∀ st, PS X st (canS K P XX W G lf (cS C dtg n sc st))) ∧ ∀ sts, PSs X sts (canSs K P XX W G lf (cSs C dtg n sc sts))
  | 0 => by
    refine ⟨fun st => s_dead, fun sts => pssImp pss_never fun D σ H z => ?_⟩
    obtain ⟨H0, ρ0, Z0, env, st, ρ, Z, F, w⟩ := z
    exact w
  | n + 1 => by
    obtain ⟨i1, i2⟩ := soundS cx hs hfn hk n
    have s := (sound (C := C) (dtg := dtg) (K := K) (P := P) (XX := XX) (G := G) (k := k) n).1
    refine ⟨fun st => ?_, fun sts => ?_⟩
    · cases st with
      | Pass p => exact s_pass
      | Break p => exact s_brk
      | Continue p => exact s_cont
      | Return v p =>
        cases v with
        | none => exact s_retN
        | some e =>
          by_cases q : ∃ x p, e = .Name x p
          · obtain ⟨x, p, rfl⟩ := q
            simp only [cS]
            split
            · rename_i hv
              split
              · rename_i i hi
                obtain ⟨v1, v2, v3⟩ := vis_ok hv
                exact s_retv (by rw [cx.N]; exact ixOf_at hi) (by rw [hs]; exact v1) v2 v3
              · exact s_dead
            · exact mk1_ok fun c h => s_ret ((s.e sc _ c h).2 X W cx hs).1
          · have : cS C dtg (n + 1) sc (.Return (some e) p) = mk1 (cE C dtg n sc e) fun c => .ret (lkE c) c := by
              cases e <;> first | exact absurd ⟨_, _, rfl⟩ q | rfl
            rw [this]
            exact mk1_ok fun c h => s_ret ((s.e sc _ c h).2 X W cx hs).1
      | Expr e p => exact cX_ok cx hs
      | If t a b p => exact mk1_ok fun c h => s_if ((s.e sc _ c h).2 X W cx hs).2 (i2 a) (i2 b)
      | While t a el p =>
        cases el with
        | nil => exact mk1_ok fun c h => s_whl cx.po ((s.e sc _ c h).2 X W cx hs).2 (i2 a)
        | cons _ _ => exact s_dead
      | For tg it a el p =>
        cases el with
        | nil =>
          refine mk1_ok fun t h => mk1_ok fun i h2 => ?_
          obtain ⟨t1, t2⟩ := cTg_ok cx.calm cx.N cx.nd (okL_ok hs hfn) h
          exact s_for cx.K cx.calm cx.po (j_ok cx hs h2 t2) (by rw [cx.K] at t1; exact t1) (i2 a) (cJ_fold h2 _)
        | cons _ _ => exact s_dead
      | Assign tgs e p =>
        cases tgs with
        | nil => exact s_dead
        | cons tg r =>
          cases r with
          | nil => exact cA_ok cx hs hfn hk
          | cons _ _ => exact s_dead
      | _ => exact s_dead
    · cases sts with
      | nil => exact ss_nil
      | cons x xs => exact ss_cons (i1 x) (i2 xs)
end
end TW

set_option Elab.async false
set_option linter.all false
set_option maxRecDepth 100000
set_option maxHeartbeats 4000000
/-! Core18: defs, calls, the law. -/
namespace TW
open PySem L2

/-- one def of the text -/
structure Def where
  name : Str
  ps : List Str
  N : List Str
  params : Arguments
  body : List Stmt
  scope : Scope
  dtg : List (Nat × Nat) := []
  rfs : List Nat := []
  /-- the module's name for it -/
  glob : Str := name
def dtgOf (l : List (Nat × Nat)) : DTag := fun p => l.contains (p.line, p.col)
def CC.at (C : CC) (d : Def) : CC := { C with N := d.N, rfs := d.rfs }
def codeOf (C : CC) (d : Def) : Fn := ⟨d.ps.length, d.N.length, cSs (C.at d) (dtgOf d.dtg) 200 d.scope d.body⟩

section
variable {K : PySem.W.Frag} {P : Pm} {XX : XR}
/-- a frame's start -/
theorem rel_start {H : Hp} {Z : Addr → Prop} {ρ : List Addr} {N : List Str} {ts : List T} {vs : List V} {st : Sto} (h : RTs K P H Z ρ ts vs) (S : RelS K P st H ρ Z) (hl : vs.length ≤ N.length) : Rel K P H ρ Z (startE N.length ts) st (L2.start N vs) H ρ Z := by
  have e := h.length
  refine ⟨by simp [startE, L2.start, e], fun i t ei => ?_, fun i o ei => ?_, fun i j o o' ei _ _ => ?_, S, Nx.refl⟩
  · unfold startE at ei
    by_cases hi : i < ts.length
    · rw [List.getElem?_append_left (by simpa using hi), List.getElem?_map] at ei
      obtain ⟨u, h1, h2⟩ := Option.map_eq_some_iff.mp ei
      cases h2
      obtain ⟨v, h3, h4⟩ := h.get h1
      refine ⟨v, ?_, h4⟩
      unfold L2.start
      rw [List.getElem?_append_left (by simp; omega), List.getElem?_map, h3]
      rfl
    · rw [List.getElem?_append_right (by simpa using hi), List.getElem?_replicate] at ei
      split at ei <;> cases ei
  · exfalso
    unfold startE at ei
    by_cases hi : i < ts.length
    · rw [List.getElem?_append_left (by simpa using hi), List.getElem?_map] at ei
      obtain ⟨u, h1, h2⟩ := Option.map_eq_some_iff.mp ei
      cases h2
    · rw [List.getElem?_append_right (by simpa using hi), List.getElem?_replicate] at ei
      split at ei <;> cases ei
  · exfalso
    unfold startE at ei
    by_cases hi : i < ts.length
    · rw [List.getElem?_append_left (by simpa using hi), List.getElem?_map] at ei
      obtain ⟨u, h1, h2⟩ := Option.map_eq_some_iff.mp ei
      cases h2
    · rw [List.getElem?_append_right (by simpa using hi), List.getElem?_replicate] at ei
      split at ei <;> cases ei
theorem res_wps {o : Out} {H : Hp} {ρ : List Addr} {Z : Addr → Prop} {σ : L2.St} {Q : VK} {E : XK} (h : Wp K P XX (kOw K P) o.res H ρ Z Q E) :
    WpS K P XX (fun cls d _ H => E cls d H) o H ρ Z σ H ρ Z { nx := fun _ H' => Q .non H', rt := Q } := by
  cases o with
  | nx env s => exact fun σ' H' ρ' Z' r _ => h .non H' ρ' Z' RT.non r.sto r.nx
  | rt w s => exact fun v H' ρ' Z' h1 h2 h3 => h v H' ρ' Z' h1 h2 h3
  | exn x env s => exact fun c d σ' H' ρ' Z' h1 r _ => h c d H' ρ' Z' h1 r.sto r.nx
  | bk _ _ => exact h.elim
  | ct _ _ => exact h.elim
  | bad => exact h.elim
end

section
variable {Pg : Program} {w : World} {K : PySem.W.Frag} {mg : Str → Option Value} {base : Heap} {P : Pm} {XX : XR} {C : CC} {ds : List Def} {lf : Nat}
/-- what is known of the module -/
structure Known (K : PySem.W.Frag) (mg : Str → Option Value) (P : Pm) (XX : XR) (C : CC) (ds : List Def) : Prop where
  fns : C.fns = ds.map Def.glob
  defs : ∀ (i : Nat) (d : Def), ds[i]? = some d → ∃ f fd, mg d.glob = some (.ref f) ∧ FunD K d.name d.name d.params d.body d.scope [] [] f fd ∧ Binds K fd d.ps [] ∧ FnScope d.N d.ps d.scope
  bl : ∀ x ∈ C.bl, mg x = none
  cons : ∀ x t, C.cons.lookup x = some t → ∃ u v, mg x = some u ∧ RelV v u ∧ ∀ H Z ρ, RT K P H Z ρ t v
  exc : ∀ i x, C.exc[i]? = some x → ∃ Ca, mg x = some (.ref Ca) ∧ PySem.W.excIn K Ca HandSPX.veTail "ValueError.__new__" = true ∧ PySem.W.keepIn K (.ref Ca) = true ∧ (∀ X : Cx, X.K = K → Raises X (.ref Ca)) ∧ ∀ H Z ρ, XX ⟨i, none⟩ (.ref Ca) none H Z ρ
theorem pre_len {N ps : List Str} (h : N.take ps.length = ps) : ps.length ≤ N.length := by
  have := congrArg List.length h
  rw [List.length_take] at this
  omega
theorem fn_ok (kn : Known K mg P XX C ds) : ∀ (n : Nat) (i : Nat) (d : Def), ds[i]? = some d → ∃ f fd, mg d.glob = some (.ref f) ∧ FunD K d.name d.name d.params d.body d.scope [] [] f fd ∧ Binds K fd d.ps [] ∧
    FnOk Pg w K mg base (L2.CX Pg w) n f fd d.ps (spOf K P XX (run P (ds.map (codeOf C)) lf n i) d.ps.length)
  | 0, i, d, h => by
    obtain ⟨f, fd, h1, h2, h3, h4⟩ := kn.defs i d h
    refine ⟨f, fd, h1, h2, h3, fun vs H Q E q => q.1, fun A outer s H args us vs Q E _ _ _ _ q => ?_⟩
    obtain ⟨_, ts, st, ρ, Z, _, _, q⟩ := q
    exact q.elim
  | n + 1, i, d, h => by
    obtain ⟨f, fd, h1, h2, h3, h4⟩ := kn.defs i d h
    refine ⟨f, fd, h1, h2, h3, FunD.ok h2 h4 (fun vs H Q E q => q.1) fun cdv A outer s H vs Q E hr q => ?_⟩
    have cx : Ctx K P XX (C.at d) (run P (ds.map (codeOf C)) lf n) n (cxOf (L2.CX Pg w) Pg w K mg base d.N d.name d.scope f cdv A outer s H E) (fun cls d _ H => E cls d H) := {
      K := rfl
      N := rfl
      calm := rfl
      nd := h4.nd
      tk := takes_of rfl rfl rfl rfl
      po := passes_of (K := fun e s'' => L2.CX Pg w outer H s E e s'') rfl
      room := hr
      fns := fun j x hj => by
        have hj : C.fns[j]? = some x := hj
        rw [kn.fns, List.getElem?_map] at hj
        obtain ⟨d', g1, rfl⟩ := Option.map_eq_some_iff.mp hj
        obtain ⟨f', fd', g2, g3, g4, g5⟩ := fn_ok kn n j d' g1
        refine ⟨f', fd', d'.ps, d'.ps.length, g2, g3.kp, g4, g5, fun ts st hl => ?_⟩
        cases n with
        | zero => rfl
        | succ n =>
          have : (ds.map (codeOf C))[j]? = some (codeOf C d') := by rw [List.getElem?_map, g1]; rfl
          simp only [run, this]
          exact if_neg hl
      bl := kn.bl
      cons := kn.cons
      exc := fun j x hj => by
        obtain ⟨Ca, g1, g2, g3, g4, g5⟩ := kn.exc j x hj
        exact ⟨Ca, g1, g2, g3, g4 _ rfl, g5⟩ }
    refine ⟨_, (soundS (lf := lf) (dtg := dtgOf d.dtg) cx rfl (fun _ => rfl) h4.kind 200).2 d.body, ?_⟩
    obtain ⟨hl, ts, st, ρ, Z, r1, r2, q⟩ := q
    have e : (ds.map (codeOf C))[i]? = some (codeOf C d) := by rw [List.getElem?_map, h]; rfl
    have tl : ts.length = d.ps.length := r1.length.trans hl
    have q : Wp K P XX (kOw K P) (evSs P (run P (ds.map (codeOf C)) lf n) lf (codeOf C d).body (startE d.N.length ts) st).res H ρ Z Q E := by
      have : run P (ds.map (codeOf C)) lf (n + 1) i ts st = (evSs P (run P (ds.map (codeOf C)) lf n) lf (codeOf C d).body (startE d.N.length ts) st).res := by
        simp only [run, e]
        exact if_pos tl
      rw [← this]; exact q
    exact ⟨H, ρ, Z, startE d.N.length ts, st, ρ, Z, rel_start r1 r2 (by have := pre_len h4.pre; omega), res_wps q⟩
/-- the law's promise -/
def spLaw (K : PySem.W.Frag) : Sp := fun vs H Q _ => ∃ (a : Addr) (ns : List Int), vs = [.ref a] ∧ ns.length ≤ 63 ∧ SqL K H a (ns.map V.int) ∧ ∀ H', Q (.bl true) H'
theorem law_ok (kn : Known K mg P XX C ds) {L n : Nat} {d : Def} (hL : ds[L]? = some d) {x : Str} (hx : d.ps = [x]) (hrun : ∀ ns : List Int, ns.length ≤ 63 → ∃ lf s, run P (ds.map (codeOf C)) lf n L [.scr ns] [] = .ok (.val (.bl true)) s) :
    ∃ f fd, mg d.glob = some (.ref f) ∧ FunD K d.name d.name d.params d.body d.scope [] [] f fd ∧ FnOk Pg w K mg base L2.CX0 n f fd [x] (spLaw K) := by
  obtain ⟨f, fd, h1, h2, h3, h4⟩ := kn.defs L d hL
  refine ⟨f, fd, h1, h2, ⟨fun vs H Q E ⟨a, ns, e, _⟩ => by rw [e]; rfl, fun A outer s H args us vs Q E hr he hb hv q => ?_⟩⟩
  obtain ⟨a, ns, rfl, hl, hS, hQ⟩ := q
  obtain ⟨lf, s2, er⟩ := hrun ns hl
  obtain ⟨f', fd', g1, g2, g3, g4⟩ := fn_ok (Pg := Pg) (w := w) (base := base) (lf := lf) kn n L d hL
  rw [h1] at g1; cases g1
  have efd : fd' = fd := by
    obtain ⟨oc, od, dV, kV, doc, pm, an, cdv, ct, osl, rfl, lk, _⟩ := h2.ex
    obtain ⟨oc', od', dV', kV', doc', pm', an', cdv', ct', osl', rfl, lk', _⟩ := g2.ex
    rw [lk] at lk'
    cases lk'
    rfl
  subst efd
  rw [← hx] at hb
  have sp : ∃ Z, RT K P H Z [] (.scr ns) (.ref a) ∧ RelS K P [] H [] Z := by
    rcases hS with hS | hS
    · refine ⟨fun b => b = a, .scr hS rfl, rfl, List.nodup_nil, fun m o e => by simp at e, fun b hb => by simp at hb, fun b hb => ?_⟩
      subst hb
      rcases hS with hS | ⟨o, hS⟩
      · rw [hS]; exact fun q => nomatch q
      · rw [hS]; exact fun q => nomatch q
    · exact ⟨fun _ => False, .scrK hS, rfl, List.nodup_nil, fun m o e => by simp at e, fun b hb => by simp at hb, fun b hb => hb.elim⟩
  obtain ⟨Z, r1, r2⟩ := sp
  refine PySem.codeAny_mono (g4.run A outer s H args us [.ref a] Q (fun _ _ _ => False) hr he hb hv ⟨by rw [hx]; rfl, [.scr ns], [], [], Z, .cons r1 .nil, r2, ?_⟩) fun r s' hr => ?_
  · rw [er]
    intro v H' ρ' Z' h1 _ _
    cases h1
    exact hQ H'
  · unfold CR at hr ⊢
    split at hr
    · exact hr
    · exact hr
    · obtain ⟨_, _, _, _, _, _, _, _, _, _, _, _, h⟩ := hr
      exact h.elim
end

/-! ### the head's facts -/
/-- a value of the module: what K holds of it -/
def conB (K : PySem.W.Frag) (P : Pm) : Nat → T → Value → Bool
  | 0, _, _ => false
  | n + 1, t, v => match t, v with
    | .non, .none => true
    | .bl b, .bool c => b == c
    | .int i, .int j _ => decide (i = j)
    | .str x, .str y _ => decide (x = y)
    | .tup ts, .ref a => (match keys? ts with
      | some ks => !P.kOk ks
      | none => true) && (match K.lookup a with
      | some ⟨.type c, _, .seq its _, _⟩ => decide (c = "tuple") && (decide (its.size ≤ sizeLine) && (decide (ts.length = its.toList.length) && (ts.zip its.toList).all fun p => conB K P n p.1 p.2))
      | _ => false)
    | _, _ => false
theorem conBs_ok {K : PySem.W.Frag} {P : Pm} {n : Nat} (ih : ∀ t u, conB K P n t u = true → ∃ v, RelV v u ∧ ∀ H Z ρ, RT K P H Z ρ t v) : ∀ (ts : List T) (us : List Value), ts.length = us.length → ((ts.zip us).all fun p => conB K P n p.1 p.2) = true → ∃ vs, Vals vs us ∧ ∀ H Z ρ, RTs K P H Z ρ ts vs
  | [], [], _, _ => ⟨[], .nil, fun _ _ _ => .nil⟩
  | [], _ :: _, e, _ => by cases e
  | _ :: _, [], e, _ => by cases e
  | t :: ts, u :: us, e, h => by
    rw [List.zip_cons_cons, List.all_cons, Bool.and_eq_true] at h
    obtain ⟨v, h1, h2⟩ := ih t u h.1
    obtain ⟨vs, h3, h4⟩ := conBs_ok ih ts us (by simpa using e) h.2
    exact ⟨v :: vs, .cons h1 h3, fun H Z ρ => .cons (h2 H Z ρ) (h4 H Z ρ)⟩
theorem conB_ok {K : PySem.W.Frag} {P : Pm} : ∀ (n : Nat) (t : T) (u : Value), conB K P n t u = true → ∃ v, RelV v u ∧ ∀ H Z ρ, RT K P H Z ρ t v
  | 0, _, _, h => by cases h
  | n + 1, t, u, h => by
    cases t with
    | non => cases u with
      | none => exact ⟨.non, rfl, fun _ _ _ => .non⟩
      | _ => cases h
    | bl b => cases u with
      | bool c =>
        have e : b = c := eq_of_beq (show (b == c) = true from h)
        subst e
        exact ⟨.bl b, rfl, fun _ _ _ => .bl b⟩
      | _ => cases h
    | int i => cases u with
      | int j t =>
        have e : i = j := of_decide_eq_true h
        subst e
        exact ⟨.int i, ⟨t, rfl⟩, fun _ _ _ => .int i⟩
      | _ => cases h
    | str x => cases u with
      | str y t =>
        have e : x = y := of_decide_eq_true h
        subst e
        exact ⟨.str x, ⟨t, rfl⟩, fun _ _ _ => .str x⟩
      | _ => cases h
    | tup ts => cases u with
      | ref a =>
        obtain ⟨h1, h2⟩ := Bool.and_eq_true_iff.mp (show ((match keys? ts with
          | some ks => !P.kOk ks
          | none => true) && (match K.lookup a with
          | some ⟨.type c, _, .seq its _, _⟩ => decide (c = "tuple") && (decide (its.size ≤ sizeLine) && (decide (ts.length = its.toList.length) && (ts.zip its.toList).all fun p => conB K P n p.1 p.2))
          | _ => false)) = true from h)
        cases q : K.lookup a with
        | none => rw [q] at h2; cases h2
        | some o =>
          obtain ⟨oc, od, dt, osl⟩ := o
          rw [q] at h2
          cases oc with
          | type c =>
            cases dt with
            | seq its m =>
              obtain ⟨h3, h4⟩ := Bool.and_eq_true_iff.mp (show (decide (c = "tuple") && (decide (its.size ≤ sizeLine) && (decide (ts.length = its.toList.length) && (ts.zip its.toList).all fun p => conB K P n p.1 p.2))) = true from h2)
              obtain ⟨h5, h6⟩ := Bool.and_eq_true_iff.mp h4
              obtain ⟨h7, h8⟩ := Bool.and_eq_true_iff.mp h6
              obtain ⟨vs, h9, h10⟩ := conBs_ok (conB_ok n) ts its.toList (of_decide_eq_true h7) h8
              refine ⟨.ref a, rfl, fun H Z ρ => .tupK ⟨_, its, m, q, congrArg Value.type (of_decide_eq_true h3), rfl, of_decide_eq_true h5, h9⟩ (h10 H Z ρ) fun ks hk => ?_⟩
              rw [hk] at h1
              simpa using h1
            | _ => cases h2
          | _ => cases dt <;> cases h2
      | _ => cases h
    | _ => cases u <;> cases h
def conF (K : PySem.W.Frag) (P : Pm) (q : Str × T) : Bool := match PySem.W.nsIn K mainGlobals q.1 with
  | some (some v) => conB K P 12 q.2 v
  | _ => false
theorem conF_ok {K : PySem.W.Frag} {P : Pm} {h : Heap} {mg : Str → Option Value} (X : K.In h) (G : h.Ns mainGlobals mg) {q : Str × T} (c : conF K P q = true) : ∃ u v, mg q.1 = some u ∧ RelV v u ∧ ∀ H Z ρ, RT K P H Z ρ q.2 v := by
  unfold conF at c
  split at c
  · rename_i v e
    obtain ⟨w, h1, h2⟩ := conB_ok 12 _ _ c
    exact ⟨v, w, PySem.W.mg_of X G e, h1, h2⟩
  · cases c
/-- the head's Hook -/
def Def.dd (d : Def) : He.DefD := ⟨(d.glob, none), d.name, d.name, d.params, d.body, d.scope, [], []⟩
structure Tell where
  ds : List Def
  bl : List Str
  cons : List (Str × T)
  P : Pm
def Tell.ok (t : Tell) (K : PySem.W.Frag) : Bool := (t.ds.all fun d => (He.Fa.glo d.glob).ok K && d.dd.ok K) && ((t.bl.all fun x => (He.Fa.free x).ok K) && t.cons.all fun q => conF K t.P q)
def obsT (t : Tell) (K : PySem.W.Frag) : He.AlD := (t.ok K, t.ds.map fun d => He.fnW K (d.glob, none))
def valT (t : Tell) : He.AlD := (true, t.ds.map fun d => d.dd.val)
def Says (t : Tell) (K : PySem.W.Frag) : Prop := obsT t K = valT t
def obsTG (n : Nat) (t : Tell) (g : Addr → Option Obj) : He.AlD := obsT t (He.frG g (He.asD g n))
def hookT (n : Nat) (t : Tell) : PySem.W.Hook where
  α := He.AlD
  obs := fun s => obsTG n t s.heap.get?
  val := fun _ => valT t
  says := fun _ h => ∃ K : PySem.W.Frag, K.In h ∧ Says t K
  of := fun _ _ e => ⟨_, He.frG_in, e⟩
  keeps := fun _ _ _ ⟨K, hK, c⟩ k => ⟨K, PySem.W.Frag.In.keeps hK k, c⟩
theorem obsTG_eq {n : Nat} {t : Tell} {g : Addr → Option Obj} {s : Shared} (h : ∀ a, g a = s.heap.get? a) : obsTG n t g = (hookT n t).obs s := by
  have e : g = s.heap.get? := funext h
  rw [e] <;> rfl
theorem Says.known {t : Tell} {K : PySem.W.Frag} {h : Heap} {mg : Str → Option Value} (X : K.In h) (G : h.Ns mainGlobals mg) (c : Says t K) {C : CC} {XX : XR} (hf : C.fns = t.ds.map Def.glob) (hb : C.bl = t.bl) (hc : C.cons = t.cons) (he : C.exc = [])
    (sc : ∀ d ∈ t.ds, FnScope d.N d.ps d.scope) (bd : ∀ d ∈ t.ds, ∀ {f fd}, FunD K d.name d.name d.params d.body d.scope [] [] f fd → Binds K fd d.ps []) : Known K mg t.P XX C t.ds := by
  obtain ⟨c1, c2⟩ := Bool.and_eq_true_iff.mp (show t.ok K = true from congrArg (fun z : He.AlD => z.1) c)
  obtain ⟨c2, c3⟩ := Bool.and_eq_true_iff.mp c2
  refine ⟨hf, fun i d hd => ?_, fun x hx => ?_, fun x u hx => ?_, fun i x hx => by rw [he] at hx; simp at hx⟩
  · have hm := List.mem_of_getElem? hd
    obtain ⟨g1, g2⟩ := Bool.and_eq_true_iff.mp (List.all_eq_true.mp c1 d hm)
    have e : (t.ds.map fun d => He.fnW K (d.glob, none)) = t.ds.map fun d => d.dd.val := congrArg (fun z : He.AlD => z.2) c
    have e2 : (t.ds.map fun d => He.fnW K (d.glob, none))[i]? = (t.ds.map fun d => d.dd.val)[i]? := by rw [e]
    rw [List.getElem?_map, List.getElem?_map, hd] at e2
    obtain ⟨fd, F⟩ := He.DefD.funD (d := d.dd) (Option.some.inj e2) g2
    exact ⟨_, fd, He.glo_ok X G g1, F, bd d hm F, sc d hm⟩
  · rw [hb] at hx
    exact He.free_ok X G (List.all_eq_true.mp c2 x hx)
  · rw [hc] at hx
    have : (x, u) ∈ t.cons := by
      have := List.lookup_eq_some_iff.mp hx
      obtain ⟨l1, l2, e, _⟩ := this
      rw [e]; simp
    exact conF_ok X G (List.all_eq_true.mp c3 (x, u) this)
end TW

set_option Elab.async false
set_option linter.all false
set_option maxRecDepth 100000
set_option maxHeartbeats 4000000
/-! CoreV: the evaluator's rules as equations, for simp. -/
namespace TW
open PySem L2
section
variable {P : Pm} {Γ : List Fn} {lf n : Nat} {α β : Type}
theorem run_at {i : Nat} {ts : List T} {s : Sto} {c : Fn} (h : Γ[i]? = some c) (hl : ts.length = c.par) : run P Γ lf (n + 1) i ts s = (evSs P (run P Γ lf n) lf c.body (startE c.size ts) s).res := by
  simp only [run, h]
  exact if_pos hl
@[simp] theorem R_bind_ok (a : α) (s : Sto) (f : α → Sto → R β) : (R.ok a s).bind f = f a s := rfl
@[simp] theorem R_bind_bad (f : α → Sto → R β) : (R.bad : R α).bind f = .bad := rfl
@[simp] theorem R_bind_exn (x : Xn) (s : Sto) (f : α → Sto → R β) : (R.exn x s : R α).bind f = .exn x s := rfl
@[simp] theorem R_of_some (a : α) (s : Sto) : R.of (some a) s = .ok a s := rfl
@[simp] theorem R_of_none (s : Sto) : (R.of (none : Option α) s) = .bad := rfl
@[simp] theorem R_out_ok (a : α) (s : Sto) (env : Env) (f : α → Sto → Out) : (R.ok a s).out env f = f a s := rfl
@[simp] theorem frzR_ok (w : Ow) (s : Sto) : frzR (.ok w s) = .ok w.frz s := rfl
@[simp] theorem frz_val (t : T) : (Ow.val t).frz = t := rfl
@[simp] theorem frz_own (o : O) : (Ow.own o).frz = o.frz := rfl
@[simp] theorem frzO_lst (t : List T) : (O.lst t).frz = .lst t := rfl
@[simp] theorem frzO_dk (t : List (Key × T)) : (O.dk t).frz = .dk t := rfl
@[simp] theorem frzO_dt (t : List (List Key × T)) : (O.dt t).frz = .dt t := rfl
@[simp] theorem slot_val (t : T) : (Ow.val t).slot = .val t := rfl
@[simp] theorem slot_own (o : O) : (Ow.own o).slot = .own o := rfl
@[simp] theorem slotT_val (t : T) : slotT (some (.val t)) = some t := rfl
@[simp] theorem slotP_val (t : T) : slotP (some (.val t)) = some t := rfl
@[simp] theorem slotP_own (o : O) : slotP (some (.own o)) = some o.frz := rfl
@[simp] theorem bool_bl (b : Bool) : bool? (.bl b) = some b := rfl
@[simp] theorem int_int (b : Int) : int? (.int b) = some b := rfl
@[simp] theorem seq_nx (env : Env) (s : Sto) (f : Env → Sto → Out) : (Out.nx env s).seq f = f env s := rfl
@[simp] theorem seq_rt (w : Ow) (s : Sto) (f : Env → Sto → Out) : (Out.rt w s).seq f = .rt w s := rfl
@[simp] theorem seq_bk (env : Env) (s : Sto) (f : Env → Sto → Out) : (Out.bk env s).seq f = .bk env s := rfl
@[simp] theorem seq_ct (env : Env) (s : Sto) (f : Env → Sto → Out) : (Out.ct env s).seq f = .ct env s := rfl
@[simp] theorem seq_bad (f : Env → Sto → Out) : (Out.bad).seq f = .bad := rfl
@[simp] theorem res_rt (w : Ow) (s : Sto) : (Out.rt w s).res = .ok w s := rfl
@[simp] theorem res_nx (env : Env) (s : Sto) : (Out.nx env s).res = .ok (.val .non) s := rfl
theorem opd_e {env : Env} {e : E} {r : R Ow} {s : Sto} (h : ∀ i, e ≠ .pk i) : opd env e r s = frzR r := by
  cases e <;> first | rfl | exact absurd rfl (h _)
@[simp] theorem startE_nil (n : Nat) : startE n [] = List.replicate n .no := by simp [startE]
theorem startE_def (n : Nat) (ts : List T) : startE n ts = ts.map .val ++ List.replicate (n - ts.length) .no := rfl
@[simp] theorem frzE_nil (env : Env) : frzE env [] = env := rfl
@[simp] theorem frzE_cons (env : Env) (i : Nat) (is : List Nat) : frzE env (i :: is) = frzE (frz1 env i) is := rfl
theorem frz1_val {env : Env} {i : Nat} {t : T} (h : env[i]? = some (.val t)) : frz1 env i = env := by unfold frz1; rw [h]
@[simp] theorem ite_seq {c : Prop} [Decidable c] (a b : Out) (f : Env → Sto → Out) : (if c then a else b).seq f = if c then a.seq f else b.seq f := by split <;> rfl
@[simp] theorem ite_res {c : Prop} [Decidable c] (a b : Out) : (if c then a else b).res = if c then a.res else b.res := by split <;> rfl
@[simp] theorem ite_bind {α β : Type} {c : Prop} [Decidable c] (a b : R α) (f : α → Sto → R β) : (if c then a else b).bind f = if c then a.bind f else b.bind f := by split <;> rfl
@[simp] theorem ite_out {α : Type} {c : Prop} [Decidable c] (a b : R α) (env : Env) (f : α → Sto → Out) : (if c then a else b).out env f = if c then a.out env f else b.out env f := by split <;> rfl
@[simp] theorem ite_frz {c : Prop} [Decidable c] (a b : R Ow) : frzR (if c then a else b) = if c then frzR a else frzR b := by split <;> rfl
/-! ### what may be compared -/
def okT (d : Nat) (t : T) : Prop := t.toD.canLay0 = true ∧ t.toD.depth ≤ d
theorem okT.okD {d : Nat} {t : T} (h : okT d t) (hd : d ≤ 64) : okD t = true := by
  unfold TW.okD SeqAt.shaped
  rw [h.1, Bool.true_and, decide_eq_true_eq]
  have := h.2
  omega
theorem okT_int (d : Nat) (i : Int) : okT d (.int i) := ⟨rfl, Nat.zero_le _⟩
theorem okT_bl (d : Nat) (i : Bool) : okT d (.bl i) := ⟨rfl, Nat.zero_le _⟩
theorem okT_non (d : Nat) : okT d .non := ⟨rfl, Nat.zero_le _⟩
theorem okTs : ∀ {ts : List T} {d : Nat}, (∀ t ∈ ts, okT d t) → PyData.canLayAll0 (toDs ts) = true ∧ PyData.depthAll (toDs ts) ≤ d
  | [], _, _ => ⟨rfl, Nat.zero_le _⟩
  | t :: ts, d, h => by
    obtain ⟨h1, h2⟩ := okTs (ts := ts) (d := d) fun u hu => h u (List.mem_cons_of_mem _ hu)
    obtain ⟨h3, h4⟩ := h t List.mem_cons_self
    refine ⟨?_, ?_⟩
    · show (PyData.canLay0 t.toD && PyData.canLayAll0 (toDs ts)) = true
      rw [h3, h1]; rfl
    · show max (PyData.depth t.toD) (PyData.depthAll (toDs ts)) ≤ d
      exact Nat.max_le.mpr ⟨h4, h2⟩
theorem okT_tup {ts : List T} {d : Nat} (h : ∀ t ∈ ts, okT d t) : okT (d + 1) (.tup ts) := by
  obtain ⟨h1, h2⟩ := okTs h
  exact ⟨h1, Nat.succ_le_succ h2⟩
theorem okTs_mem : ∀ {ts : List T} {d : Nat} {t : T}, PyData.canLayAll0 (toDs ts) = true → PyData.depthAll (toDs ts) ≤ d → t ∈ ts → okT d t
  | u :: ts, d, t, h1, h2, ht => by
    have h1 : (PyData.canLay0 u.toD && PyData.canLayAll0 (toDs ts)) = true := h1
    have h2 : max (PyData.depth u.toD) (PyData.depthAll (toDs ts)) ≤ d := h2
    rw [Bool.and_eq_true] at h1
    rcases List.mem_cons.mp ht with rfl | ht
    · exact ⟨h1.1, by omega⟩
    · exact okTs_mem h1.2 (by omega) ht
theorem okT_mem {ts : List T} {d : Nat} (h : okT (d + 1) (.tup ts)) {t : T} (ht : t ∈ ts) : okT d t := okTs_mem h.1 (by
  have h2 : PyData.depthAll (toDs ts) + 1 ≤ d + 1 := h.2
  omega) ht
theorem okT_lst {ts : List T} {d : Nat} (h : ∀ t ∈ ts, okT d t) : okT (d + 1) (.lst ts) := by
  obtain ⟨h1, h2⟩ := okTs h
  exact ⟨h1, Nat.succ_le_succ h2⟩
theorem okT.mono {d e : Nat} {t : T} (h : okT d t) (hd : d ≤ e) : okT e t := ⟨h.1, Nat.le_trans h.2 hd⟩
/-- no object of the store -/
def T.noRef : T → Bool
  | .ref _ => false
  | _ => true
theorem top_noRef {t : T} (h : t.noRef = true) (st : Sto) : t.top st = t := by
  cases t <;> first | rfl | cases h
theorem eqO_of {st : Sto} {a b : T} (ha : okT 64 a) (hb : okT 64 b) (na : a.noRef = true) (nb : b.noRef = true) : eqO st a b = some (eqT a b) := by
  unfold eqO
  rw [top_noRef na, top_noRef nb, ha.okD (Nat.le_refl _), hb.okD (Nat.le_refl _)]
  rfl
/-- == of ints, texts -/
@[simp] theorem eqT_int (a b : Int) : eqT (.int a) (.int b) = decide (a = b) := by
  show (a == b) = _
  by_cases h : a = b <;> simp [h]
@[simp] theorem eqT_str (a b : Str) : eqT (.str a) (.str b) = decide (a = b) := by
  show (a == b) = _
  by_cases h : a = b <;> simp [h]
@[simp] theorem eqT_bl (a b : Bool) : eqT (.bl a) (.bl b) = decide (a = b) := by
  show (a == b) = _
  by_cases h : a = b <;> simp [h]
theorem eqT_str_int (a : Str) (b : Int) : eqT (.str a) (.int b) = false := rfl
theorem eqT_int_str (a : Str) (b : Int) : eqT (.int b) (.str a) = false := rfl
@[simp] theorem eqO_int (st : Sto) (a b : Int) : eqO st (.int a) (.int b) = some (decide (a = b)) := by
  rw [eqO_of (okT_int _ _) (okT_int _ _) rfl rfl, eqT_int]
def eqTs : List T → List T → Bool
  | [], [] => true
  | a :: as, b :: bs => eqT a b && eqTs as bs
  | _, _ => false
theorem eqvAll_ts : ∀ as bs : List T, PyData.eqvAll (toDs as) (toDs bs) = eqTs as bs
  | [], [] => rfl
  | [], _ :: _ => rfl
  | _ :: _, [] => rfl
  | a :: as, b :: bs => by
    show (PyData.eqv a.toD b.toD && PyData.eqvAll (toDs as) (toDs bs)) = _
    rw [eqvAll_ts as bs]
    rfl
theorem eqT_tup (as bs : List T) : eqT (.tup as) (.tup bs) = eqTs as bs := eqvAll_ts as bs
theorem eqT_lst (as bs : List T) : eqT (.lst as) (.lst bs) = eqTs as bs := eqvAll_ts as bs
theorem eqTs_nil (as : List T) : eqTs as [] = as.isEmpty := by cases as <;> rfl
theorem eqTs_ints : ∀ as bs : List Int, eqTs (as.map .int) (bs.map .int) = decide (as = bs)
  | [], [] => rfl
  | [], _ :: _ => rfl
  | _ :: _, [] => rfl
  | a :: as, b :: bs => by
    show (eqT (.int a) (.int b) && eqTs (as.map .int) (bs.map .int)) = _
    rw [eqT_int, eqTs_ints as bs]
    by_cases h : a = b <;> by_cases h2 : as = bs <;> simp [h, h2]
end
/-! ### ints that are naturals -/
theorem intOp_shr (a b : Nat) : intOp .shr (a : Int) (b : Int) = some ((a >>> b : Nat) : Int) := by
  simp [intOp, Nat.shiftRight_eq_div_pow]
theorem intOp_band (a b : Nat) : intOp .band (a : Int) (b : Int) = some ((a &&& b : Nat) : Int) := by
  show some (Builtin.bitAnd _ _) = _
  rw [PySem.W.os_band]
theorem intOp_bor (a b : Nat) : intOp .bor (a : Int) (b : Int) = some ((a ||| b : Nat) : Int) := by
  show some (Builtin.bitOr _ _) = _
  rw [bitOr_nn (Int.natCast_nonneg a) (Int.natCast_nonneg b), Int.toNat_natCast, Int.toNat_natCast]

/-! ### the rules, for simp -/
section
variable {P : Pm} {G : Nat → List T → Sto → R Ow} {lf : Nat} {env : Env} {s : Sto}
@[simp] theorem e_var (i : Nat) : evE P G env (.var i) s = R.of ((slotT env[i]?).map .val) s := rfl
@[simp] theorem e_con (t : T) : evE P G env (.con t) s = .ok (.val t) s := rfl
@[simp] theorem e_neg (a : E) : evE P G env (.neg a) s = (frzR (evE P G env a s)).bind fun x s1 => R.of ((int? x).map fun i => .val (.int (-i))) s1 := rfl
@[simp] theorem e_and (a b : E) : evE P G env (.and a b) s = (frzR (evE P G env a s)).bind fun x s1 => (R.of (bool? x) s1).bind fun k s1 => if k = true then evE P G env b s1 else .ok (.val (.bl false)) s1 := rfl
@[simp] theorem e_or (a b : E) : evE P G env (.or a b) s = (frzR (evE P G env a s)).bind fun x s1 => (R.of (bool? x) s1).bind fun k s1 => if k = true then .ok (.val (.bl true)) s1 else evE P G env b s1 := rfl
@[simp] theorem e_not (a : E) : evE P G env (.not a) s = (frzR (evE P G env a s)).bind fun x s1 => R.of ((bool? x).map fun k => .val (.bl (!k))) s1 := rfl
@[simp] theorem e_ifx (c a b : E) : evE P G env (.ifx c a b) s = (frzR (evE P G env c s)).bind fun x s1 => (R.of (bool? x) s1).bind fun k s1 => if k = true then evE P G env a s1 else evE P G env b s1 := rfl
@[simp] theorem e_tup (es : List E) : evE P G env (.tup es) s = (evEs P G env es s).bind fun xs s1 => if fits xs.length then .ok (.val (.tup xs)) s1 else .bad := rfl
@[simp] theorem e_lst (es : List E) : evE P G env (.lst es) s = (evEs P G env es s).bind fun xs s1 => if fits xs.length then .ok (.own (.lst xs)) s1 else .bad := rfl
@[simp] theorem e_mkr (e : E) : evE P G env (.mkr e) s = (evE P G env e s).bind fun w s1 => (match w with
      | .own o => .ok (.val (.ref s1.length)) (s1 ++ [o])
      | .val t => .ok (.val t) s1) := rfl
@[simp] theorem e_call (f : Nat) (es : List E) : evE P G env (.call f es) s = (evEs P G env es s).bind fun xs s1 => G f xs s1 := rfl
@[simp] theorem e_dct (es : List E) : evE P G env (.dct false es) s = (evEs P G env es s).bind fun xs s1 => R.of ((dkAll xs []).map fun kvs => .own (.dk kvs)) s1 := rfl
@[simp] theorem e_dctT : evE P G env (.dct true []) s = .ok (.own (.dt [])) s := rfl
@[simp] theorem e_bin (op : Bop) (a b : E) : evE P G env (.bin op a b) s = (opd env a (evE P G env a s) s).bind fun x s1 => (opd env b (evE P G env b s1) s1).bind fun y s2 => R.of (opBin s2 op x y) s2 := rfl
@[simp] theorem e_cmp (op : Cop) (a b : E) : evE P G env (.cmp op a b) s = (opd env a (evE P G env a s) s).bind fun x s1 => (opd env b (evE P G env b s1) s1).bind fun y s2 => R.of ((opCmp P s2 op x y).map fun k => .val (.bl k)) s2 := rfl
@[simp] theorem e_chn (o1 o2 : Cop) (a b c : E) : evE P G env (.chn o1 o2 a b c) s = (opd env a (evE P G env a s) s).bind fun x s1 => (opd env b (evE P G env b s1) s1).bind fun y s2 => (R.of (opCmp P s2 o1 x y) s2).bind fun k s2 =>
      if k = true then (opd env c (evE P G env c s2) s2).bind fun z s3 => R.of ((opCmp P s3 o2 y z).map fun k => .val (.bl k)) s3 else .ok (.val (.bl false)) s2 := rfl
@[simp] theorem e_ix (a b : E) : evE P G env (.ix a b) s = (opd env a (evE P G env a s) s).bind fun x s1 => (frzR (evE P G env b s1)).bind fun y s2 => R.of ((ixT P s2 x y).map .val) s2 := rfl
@[simp] theorem e_sl (a : E) (lo hi : Option E) : evE P G env (.sl a lo hi) s = (opd env a (evE P G env a s) s).bind fun x s1 => (evO P G env lo s1).bind fun l s2 => (evO P G env hi s2).bind fun h s3 => R.of (slT s3 x l h) s3 := rfl
@[simp] theorem e_rev (a : E) : evE P G env (.rev a) s = (opd env a (evE P G env a s) s).bind fun x s1 => R.of (revT s1 x) s1 := rfl
@[simp] theorem rev_tup (st : Sto) (ts : List T) : revT st (.tup ts) = some (.val (.tup ts.reverse)) := rfl
@[simp] theorem rev_lst (st : Sto) (ts : List T) : revT st (.lst ts) = some (.own (.lst ts.reverse)) := rfl
@[simp] theorem e_blt (b : Blt) (e : E) : evE P G env (.blt b e) s = (opd env e (evE P G env e s) s).bind fun x s1 => R.of (bltT s1 b x) s1 := rfl
@[simp] theorem e_blt2 (b : Blt) (e e2 : E) : evE P G env (.blt2 b e e2) s = (frzR (evE P G env e s)).bind fun x s1 => (frzR (evE P G env e2 s1)).bind fun y s2 => R.of (bltT2 b x y) s2 := rfl
@[simp] theorem e_lc (own : List Nat) (elt : E) (tg : Tg) (it : TW.It) (cond : Option E) : evE P G env (.lc own elt tg it cond) s = (evI P G env it s).bind fun ts s1 => (lcGo (fun t s => match tg.put (wipeE env own) t with
      | some env' => (evC P G env' cond s).bind fun k s2 => if k = true then (frzR (evE P G env' elt s2)).bind fun y s3 => .ok (some y) s3 else .ok none s2
      | none => .bad) ts [] s1).bind fun xs s2 => .ok (.own (.lst xs)) s2 := rfl
@[simp] theorem xes_nil : evEs P G env [] s = .ok [] s := rfl
@[simp] theorem xes_cons (e : E) (es : List E) : evEs P G env (e :: es) s = (frzR (evE P G env e s)).bind fun x s1 => (evEs P G env es s1).bind fun xs s2 => .ok (x :: xs) s2 := rfl
@[simp] theorem xo_none : evO P G env none s = .ok none s := rfl
@[simp] theorem xo_some (e : E) : evO P G env (some e) s = (frzR (evE P G env e s)).bind fun x s1 => R.of ((int? x).map some) s1 := rfl
@[simp] theorem xc_none : evC P G env none s = .ok true s := rfl
@[simp] theorem xc_some (e : E) : evC P G env (some e) s = (frzR (evE P G env e s)).bind fun x s1 => R.of (bool? x) s1 := rfl
@[simp] theorem xi_seq (e : E) : evI P G env (.seq e) s = (opd env e (evE P G env e s) s).bind fun x s1 => R.of x.itr? s1 := rfl
@[simp] theorem xi_rng1 (e : E) : evI P G env (.rng1 e) s = (frzR (evE P G env e s)).bind fun x s1 => (R.of (int? x) s1).bind fun j s1 => if small62 j then .ok (rngT 0 j) s1 else .bad := rfl
@[simp] theorem xi_rng2 (a b : E) : evI P G env (.rng2 a b) s = (frzR (evE P G env a s)).bind fun x s1 => (frzR (evE P G env b s1)).bind fun y s2 => (R.of (int? x) s2).bind fun i s2 => (R.of (int? y) s2).bind fun j s2 =>
      if small62 i && small62 j then .ok (rngT i j) s2 else .bad := rfl
@[simp] theorem xi_rng3 (a b c : E) : evI P G env (.rng3 a b c) s = (frzR (evE P G env a s)).bind fun x s1 => (frzR (evE P G env b s1)).bind fun y s2 => (frzR (evE P G env c s2)).bind fun z s3 => (R.of (int? x) s3).bind fun i s3 => (R.of (int? y) s3).bind fun j s3 => (R.of (int? z) s3).bind fun k s3 =>
      if okC i j k then .ok (rngC i j k) s3 else .bad := rfl
@[simp] theorem xi_enum (e : E) : evI P G env (.enum e) s = (opd env e (evE P G env e s) s).bind fun x s1 => R.of (x.itr?.map (enumT 0)) s1 := rfl
@[simp] theorem xi_zip (a b : E) : evI P G env (.zip a b) s = (opd env a (evE P G env a s) s).bind fun x s1 => (opd env b (evE P G env b s1) s1).bind fun y s2 => R.of (zip? x y) s2 := rfl
@[simp] theorem xws_nil : evWs P G env [] s = .ok [] s := rfl
@[simp] theorem xws_cons (e : E) (es : List E) : evWs P G env (e :: es) s = (evE P G env e s).bind fun x s1 => (evWs P G env es s1).bind fun xs s2 => .ok (x :: xs) s2 := rfl
@[simp] theorem opd_pk (i : Nat) (r : R Ow) : opd env (.pk i) r s = R.of (slotP env[i]?) s := rfl
@[simp] theorem xs_asg (lk : List Nat) (i : Nat) (e : E) : evS P G lf (.asg lk i e) env s = (evE P G (frzE env lk) e s).out (frzE env lk) fun w s1 => .nx ((frzE env lk).set i w.slot) s1 := rfl
@[simp] theorem xs_unp (lk is : List Nat) (e : E) : evS P G lf (.unp lk is e) env s = (frzR (evE P G (frzE env lk) e s)).out (frzE env lk) fun t s1 => match t with
      | .tup ts => if is.length = ts.length then .nx (setAll (frzE env lk) is ts) s1 else .bad
      | _ => .bad := rfl
@[simp] theorem xs_par (lk is : List Nat) (es : List E) : evS P G lf (.par lk is es) env s = (evWs P G (frzE env lk) es s).out (frzE env lk) fun ws s1 => if is.length = ws.length then .nx (setO (frzE env lk) is ws) s1 else .bad := rfl
@[simp] theorem xs_app (lk : List Nat) (i : Nat) (e : E) : evS P G lf (.app lk i e) env s = if isL (frzE env lk) s i = true then (frzR (evE P G (frzE env lk) e s)).out (frzE env lk) fun t s1 => chg (frzE env lk) s1 i (appO t) else .bad := rfl
@[simp] theorem xs_popA (j i : Nat) : evS P G lf (.popA j i) env s = match lastT env s i with
      | some t => (match chg env s i popO with
        | .nx env' s' => .nx (env'.set j (.val t)) s'
        | _ => .bad)
      | none => .bad := rfl
@[simp] theorem xs_seti (lk : List Nat) (i : Nat) (k e : E) : evS P G lf (.seti lk i k e) env s = if isOb (frzE env lk) i = true then (frzR (evE P G (frzE env lk) e s)).out (frzE env lk) fun t s1 => (frzR (evE P G (frzE env lk) k s1)).out (frzE env lk) fun q s2 => chg (frzE env lk) s2 i (setiO P q t) else .bad := rfl
@[simp] theorem xs_ifs (lk : List Nat) (c : E) (a b : List TW.S) : evS P G lf (.ifs lk c a b) env s = (evC P G (frzE env lk) (some c) s).out (frzE env lk) fun k s1 => if k = true then evSs P G lf a (frzE env lk) s1 else evSs P G lf b (frzE env lk) s1 := rfl
@[simp] theorem xs_whl (c : E) (a : List TW.S) : evS P G lf (.whl c a) env s = whGo (fun env s => evC P G env (some c) s) (fun env s => evSs P G lf a env s) lf env s := rfl
@[simp] theorem xs_for (lk : List Nat) (tg : Tg) (it : TW.It) (a : List TW.S) : evS P G lf (.for_ lk tg it a) env s = (evI P G (frzE env lk) it s).out (frzE env lk) fun ts s1 => forGo (fun t env s => match tg.put env t with
      | some env' => evSs P G lf a env' s
      | none => .bad) ts (frzE env lk) s1 := rfl
@[simp] theorem xs_ret (lk : List Nat) (e : E) : evS P G lf (.ret lk e) env s = (evE P G (frzE env lk) e s).out (frzE env lk) fun w s1 => .rt w s1 := rfl
@[simp] theorem xs_retv (i : Nat) : evS P G lf (.retv i) env s = match env[i]? with
      | some (.own o) => .rt (.own o) s
      | some (.val t) => .rt (.val t) s
      | _ => .bad := rfl
@[simp] theorem xs_retN : evS P G lf .retN env s = .rt (.val .non) s := rfl
@[simp] theorem xs_brk : evS P G lf .brk env s = .bk env s := rfl
@[simp] theorem xs_cont : evS P G lf .cont env s = .ct env s := rfl
@[simp] theorem xs_pass : evS P G lf .pass env s = .nx env s := rfl
@[simp] theorem xs_expr (lk : List Nat) (e : E) : evS P G lf (.expr lk e) env s = (evE P G (frzE env lk) e s).out (frzE env lk) fun _ s1 => .nx (frzE env lk) s1 := rfl
@[simp] theorem xss_nil : evSs P G lf [] env s = .nx env s := rfl
@[simp] theorem xss_cons (a : TW.S) (r : List TW.S) : evSs P G lf (a :: r) env s = (evS P G lf a env s).seq fun env' s' => evSs P G lf r env' s' := rfl
@[simp] theorem put_nm (i : Nat) (t : T) : Tg.put env (.nm i) t = some (env.set i (.val t)) := rfl
@[simp] theorem put_tp (is : List Nat) (ts : List T) : Tg.put env (.tp is) (.tup ts) = if is.length = ts.length then some (setAll env is ts) else none := rfl
@[simp] theorem setAll_cons (i : Nat) (is : List Nat) (t : T) (ts : List T) : setAll env (i :: is) (t :: ts) = setAll (env.set i (.val t)) is ts := rfl
@[simp] theorem setAll_nil (ts : List T) : setAll env [] ts = env := by cases ts <;> rfl
@[simp] theorem setO_cons (i : Nat) (is : List Nat) (t : Ow) (ts : List Ow) : setO env (i :: is) (t :: ts) = setO (env.set i t.slot) is ts := rfl
@[simp] theorem setO_nil (ts : List Ow) : setO env [] ts = env := by cases ts <;> rfl
@[simp] theorem wipe_nil : wipeE env [] = env := rfl
@[simp] theorem wipe_cons (v : Nat) (vs : List Nat) : wipeE env (v :: vs) = (wipeE env vs).set v .no := rfl
@[simp] theorem itr_tup (ts : List T) : (T.tup ts).itr? = some ts := rfl
@[simp] theorem itr_lst (ts : List T) : (T.lst ts).itr? = some ts := rfl
@[simp] theorem key_int (i : Int) : (T.int i).key? = some (.inl i) := rfl
@[simp] theorem key_str (i : Str) : (T.str i).key? = some (.inr i) := rfl
@[simp] theorem ob_lst (st : Sto) (ts : List T) : (T.lst ts).obj? st = some (.lst ts) := rfl
@[simp] theorem ob_ref (st : Sto) (m : Nat) : (T.ref m).obj? st = st[m]? := rfl
@[simp] theorem ix_tup (st : Sto) (ts : List T) (i : Int) : ixT P st (.tup ts) (.int i) = atI ts i := rfl
@[simp] theorem ix_lst (st : Sto) (ts : List T) (i : Int) : ixT P st (.lst ts) (.int i) = atI ts i := rfl
@[simp] theorem sl_tup (st : Sto) (ts : List T) (a b : Option Int) : slT st (.tup ts) a b = some (.val (.tup (cutT ts a b))) := rfl
@[simp] theorem sl_lst (st : Sto) (ts : List T) (a b : Option Int) : slT st (.lst ts) a b = some (.own (.lst (cutT ts a b))) := rfl
@[simp] theorem b_lenT (st : Sto) (ts : List T) : bltT st .len (.tup ts) = some (.val (.int ts.length)) := rfl
@[simp] theorem b_lenL (st : Sto) (ts : List T) : bltT st .len (.lst ts) = some (.val (.int ts.length)) := rfl
@[simp] theorem b_tupT (st : Sto) (ts : List T) : bltT st .tupleOf (.tup ts) = some (.val (.tup ts)) := rfl
@[simp] theorem b_tupL (st : Sto) (ts : List T) : bltT st .tupleOf (.lst ts) = some (.val (.tup ts)) := rfl
@[simp] theorem b_lstT (st : Sto) (ts : List T) : bltT st .listOf (.tup ts) = some (.own (.lst ts)) := rfl
@[simp] theorem b_lstL (st : Sto) (ts : List T) : bltT st .listOf (.lst ts) = some (.own (.lst ts)) := rfl
@[simp] theorem b_int (st : Sto) (i : Int) : bltT st .intOf (.int i) = some (.val (.int i)) := rfl
@[simp] theorem b_isIntI (st : Sto) (i : Int) : bltT st .isInt (.int i) = some (.val (.bl true)) := rfl
@[simp] theorem b_isBoolI (st : Sto) (i : Int) : bltT st .isBool (.int i) = some (.val (.bl false)) := rfl
@[simp] theorem b_isStrS (st : Sto) (i : Str) : bltT st .isStr (.str i) = some (.val (.bl true)) := rfl
@[simp] theorem b_isTupT (st : Sto) (i : List T) : bltT st .isTuple (.tup i) = some (.val (.bl true)) := rfl
theorem bls_of (bs : List Bool) : bls? (bs.map .bl) = some bs := by
  induction bs with
  | nil => rfl
  | cons b bs ih => simp [bls?, ih]
theorem ints_of (bs : List Int) : ints? (bs.map .int) = some bs := by
  induction bs with
  | nil => rfl
  | cons b bs ih => simp [ints?, ih]
@[simp] theorem b_anyL (st : Sto) (bs : List Bool) : bltT st .any (.lst (bs.map .bl)) = some (.val (.bl (bs.any id))) := by
  show ((some (bs.map T.bl)).bind bls?).map _ = _
  rw [Option.bind_some, bls_of]
  rfl
@[simp] theorem b_allL (st : Sto) (bs : List Bool) : bltT st .all (.lst (bs.map .bl)) = some (.val (.bl (bs.all id))) := by
  show ((some (bs.map T.bl)).bind bls?).map _ = _
  rw [Option.bind_some, bls_of]
  rfl
theorem b_any {α : Type} (st : Sto) (l : List α) (f : α → Bool) : bltT st .any (.lst (l.map fun a => T.bl (f a))) = some (.val (.bl (l.any f))) := by
  rw [show (l.map fun a => T.bl (f a)) = (l.map f).map .bl by simp [List.map_map, Function.comp_def], b_anyL, List.any_map]
  rfl
theorem b_all {α : Type} (st : Sto) (l : List α) (f : α → Bool) : bltT st .all (.lst (l.map fun a => T.bl (f a))) = some (.val (.bl (l.all f))) := by
  rw [show (l.map fun a => T.bl (f a)) = (l.map f).map .bl by simp [List.map_map, Function.comp_def], b_allL, List.all_map]
  rfl
@[simp] theorem opBin_int (st : Sto) (op : Bop) (a b : Int) (h1 : op ≠ .add) (h2 : op ≠ .mul) : opBin st op (.int a) (.int b) = (intOp op a b).map fun i => .val (.int i) := by
  cases op <;> first | rfl | exact absurd rfl h1 | exact absurd rfl h2
@[simp] theorem opBin_addI (st : Sto) (a b : Int) : opBin st .add (.int a) (.int b) = some (.val (.int (a + b))) := rfl
@[simp] theorem opBin_addT (st : Sto) (a b : List T) : opBin st .add (.tup a) (.tup b) = if fits (a.length + b.length) then some (.val (.tup (a ++ b))) else none := rfl
@[simp] theorem opBin_addL (st : Sto) (a b : List T) : opBin st .add (.lst a) (.lst b) = if fits (a.length + b.length) then some (.own (.lst (a ++ b))) else none := rfl
@[simp] theorem opCmp_eq (st : Sto) (a b : T) : opCmp P st .eq a b = eqO st a b := rfl
@[simp] theorem opCmp_ne (st : Sto) (a b : T) : opCmp P st .ne a b = (eqO st a b).map (!·) := rfl
@[simp] theorem opCmp_inn (st : Sto) (a b : T) : opCmp P st .inn a b = inT P st a b := rfl
@[simp] theorem opCmp_nin (st : Sto) (a b : T) : opCmp P st .nin a b = (inT P st a b).map (!·) := rfl
@[simp] theorem opCmp_lt (st : Sto) (a b : Int) : opCmp P st .lt (.int a) (.int b) = some (decide (a < b)) := rfl
@[simp] theorem opCmp_le (st : Sto) (a b : Int) : opCmp P st .le (.int a) (.int b) = some (decide (a ≤ b)) := rfl
@[simp] theorem opCmp_gt (st : Sto) (a b : Int) : opCmp P st .gt (.int a) (.int b) = some (decide (b < a)) := rfl
@[simp] theorem opCmp_ge (st : Sto) (a b : Int) : opCmp P st .ge (.int a) (.int b) = some (decide (b ≤ a)) := rfl
@[simp] theorem frz1_nil (i : Nat) : frz1 [] i = [] := rfl
@[simp] theorem frz1_val0 (t : T) (l : Env) : frz1 (.val t :: l) 0 = .val t :: l := rfl
@[simp] theorem frz1_no0 (l : Env) : frz1 (.no :: l) 0 = .no :: l := rfl
@[simp] theorem frz1_own0 (o : O) (l : Env) : frz1 (.own o :: l) 0 = .val o.frz :: l := rfl
/-- a slot that holds a value, or nothing yet -/
def sl : Option T → Slot
  | none => .no
  | some t => .val t
@[simp] theorem sl_s (t : T) : sl (some t) = .val t := rfl
@[simp] theorem sl_n : sl none = .no := rfl
@[simp] theorem intOp_sub (a b : Int) : intOp .sub a b = some (a - b) := rfl
@[simp] theorem frz1_sl0 (j : Option T) (l : Env) : frz1 (sl j :: l) 0 = sl j :: l := by cases j <;> rfl
@[simp] theorem frz1_succ (a : Slot) (l : Env) (i : Nat) : frz1 (a :: l) (i + 1) = a :: frz1 l i := by
  unfold frz1
  rw [List.getElem?_cons_succ]
  cases l[i]? with
  | none => rfl
  | some y => cases y <;> rfl
theorem atI_at {α : Type} {l : List α} {k : Nat} {a : α} (h : l[k]? = some a) : atI l (k : Int) = some a := by
  have hl := (List.getElem?_eq_some_iff.mp h).1
  unfold atI ixN
  rw [if_pos (by omega), if_pos (by omega)]
  simpa using h
@[simp] theorem atI_0 {α : Type} (a : α) (l : List α) : atI (a :: l) 0 = some a := atI_at (k := 0) rfl
@[simp] theorem atI_1 {α : Type} (a b : α) (l : List α) : atI (a :: b :: l) 1 = some b := atI_at (k := 1) rfl
@[simp] theorem atI_2 {α : Type} (a b c : α) (l : List α) : atI (a :: b :: c :: l) 2 = some c := atI_at (k := 2) rfl
@[simp] theorem atI_3 {α : Type} (a b c d : α) (l : List α) : atI (a :: b :: c :: d :: l) 3 = some d := atI_at (k := 3) rfl
theorem strOk_lit {a : Str} (ha : (T.str a).toD.canLay0 = true) : okT 64 (.str a) := ⟨ha, Nat.zero_le _⟩
theorem eqO_str (st : Sto) {a b : Str} (ha : (T.str a).toD.canLay0 = true) (hb : (T.str b).toD.canLay0 = true) : eqO st (.str a) (.str b) = some (decide (a = b)) := by
  rw [eqO_of (strOk_lit ha) (strOk_lit hb) rfl rfl, eqT_str]
theorem fits_of {n : Nat} (h : n ≤ 16777216) : fits n = true := decide_eq_true h
end
/-! ### loops -/
@[simp] theorem forGo_nil (b : T → Env → Sto → Out) (env : Env) (s : Sto) : forGo b [] env s = .nx env s := rfl
section
variable {α β : Type}
/-- a comprehension that leaves the store: the items of l, those that p lets through, by h -/
theorem lcGo_filter {f : T → Sto → R (Option T)} {g : α → T} {p : α → Bool} {h : α → T} {s : Sto} : ∀ {l : List α} {acc : List T}, (∀ a ∈ l, f (g a) s = if p a = true then .ok (some (h a)) s else .ok none s) → acc.length + l.length ≤ 16777216 →
    lcGo f (l.map g) acc s = .ok (acc ++ (l.filter p).map h) s
  | [], acc, _, _ => by simp [lcGo]
  | a :: l, acc, hf, hl => by
    have h1 := hf a List.mem_cons_self
    have h2 : ∀ b ∈ l, f (g b) s = if p b = true then .ok (some (h b)) s else .ok none s := fun b hb => hf b (List.mem_cons_of_mem _ hb)
    rw [List.length_cons] at hl
    rw [List.map_cons, lcGo, h1]
    cases hp : p a with
    | true =>
      simp only [if_true]
      show (if acc.length < 16777216 then lcGo f (l.map g) (acc ++ [h a]) s else .bad) = _
      rw [if_pos (by omega), lcGo_filter h2 (by simp; omega), List.filter_cons_of_pos hp]
      simp
    | false =>
      simp only [Bool.false_eq_true, if_false]
      show lcGo f (l.map g) acc s = _
      rw [lcGo_filter h2 (by omega), List.filter_cons_of_neg (by simp [hp])]
theorem lcGo_map {f : T → Sto → R (Option T)} {g : α → T} {h : α → T} {s : Sto} {l : List α} {acc : List T} (hf : ∀ a ∈ l, f (g a) s = .ok (some (h a)) s) (hl : acc.length + l.length ≤ 16777216) :
    lcGo f (l.map g) acc s = .ok (acc ++ l.map h) s := by
  rw [lcGo_filter (p := fun _ => true) (h := h) (fun a ha => by simp [hf a ha]) hl, List.filter_eq_self.mpr fun _ _ => rfl]
/-- n times a draw -/
def rep {γ δ : Type} (h : γ → δ × γ) : Nat → γ → List δ × γ
  | 0, c => ([], c)
  | n + 1, c => ((h c).1 :: (rep h n (h c).2).1, (rep h n (h c).2).2)
theorem lcGo_rep {γ δ : Type} {f : T → Sto → R (Option T)} {g : δ → T} {h : γ → δ × γ} {S : γ → Sto} (I : γ → Prop) (hI : ∀ c, I c → I (h c).2) (hf : ∀ t c, I c → f t (S c) = .ok (some (g (h c).1)) (S (h c).2)) : ∀ {l : List T} {acc : List T} {c : γ}, I c → acc.length + l.length ≤ 16777216 →
    lcGo f l acc (S c) = .ok (acc ++ (rep h l.length c).1.map g) (S (rep h l.length c).2)
  | [], acc, c, _, _ => by simp [lcGo, rep]
  | t :: l, acc, c, i, hl => by
    rw [List.length_cons] at hl
    rw [lcGo, hf t c i]
    show (if acc.length < 16777216 then lcGo f l (acc ++ [g (h c).1]) (S (h c).2) else .bad) = _
    rw [if_pos (by omega), lcGo_rep I hI hf (hI c i) (by simp; omega)]
    simp [rep]
/-- a comprehension, its items by a state -/
theorem lcGo_foldS {δ : Type} {f : T → Sto → R (Option T)} {g : α → T} {S : δ → Sto} {h : δ → α → T} {k : δ → α → δ} (I : List α → δ → Prop) (hf : ∀ a rest st, I (a :: rest) st → f (g a) (S st) = .ok (some (h st a)) (S (k st a)) ∧ I rest (k st a)) : ∀ {l : List α} {acc : List T} {st : δ}, I l st → acc.length + l.length ≤ 16777216 →
    lcGo f (l.map g) acc (S st) = .ok (l.foldl (fun q a => (q.1 ++ [h q.2 a], k q.2 a)) (acc, st)).1 (S (l.foldl (fun q a => (q.1 ++ [h q.2 a], k q.2 a)) (acc, st)).2)
  | [], acc, st, _, _ => rfl
  | a :: l, acc, st, i, hl => by
    obtain ⟨h1, h2⟩ := hf a l st i
    rw [List.length_cons] at hl
    rw [List.map_cons, lcGo, h1]
    show (if acc.length < 16777216 then lcGo f (l.map g) (acc ++ [h st a]) (S (k st a)) else .bad) = _
    rw [if_pos (by omega), lcGo_foldS I hf h2 (by simp; omega)]
    rfl
/-- a comprehension that changes the store within I, its values are good -/
theorem lcGo_ex {f : T → Sto → R (Option T)} {g : α → T} {I : Sto → Prop} {Gd : T → Prop} : ∀ {l : List α} {acc : List T} {s : Sto}, (∀ a ∈ l, ∀ s, I s → ∃ r s', f (g a) s = .ok (some r) s' ∧ I s' ∧ Gd r) → I s → acc.length + l.length ≤ 16777216 →
    ∃ rs s', lcGo f (l.map g) acc s = .ok (acc ++ rs) s' ∧ I s' ∧ (∀ r ∈ rs, Gd r) ∧ rs.length = l.length
  | [], acc, s, _, hi, _ => ⟨[], s, by simp [lcGo], hi, by simp, rfl⟩
  | a :: l, acc, s, hf, hi, hl => by
    obtain ⟨r, s1, h1, h2, h3⟩ := hf a List.mem_cons_self s hi
    rw [List.length_cons] at hl
    obtain ⟨rs, s2, h4, h5, h6, h7⟩ := lcGo_ex (l := l) (acc := acc ++ [r]) (fun b hb => hf b (List.mem_cons_of_mem _ hb)) h2 (by simp; omega)
    refine ⟨r :: rs, s2, ?_, h5, fun q hq => ?_, by simp [h7]⟩
    · rw [List.map_cons, lcGo, h1]
      show (if acc.length < 16777216 then lcGo f (l.map g) (acc ++ [r]) s1 else .bad) = _
      rw [if_pos (by omega), h4]
      simp
    · rcases List.mem_cons.mp hq with rfl | hq
      · exact h3
      · exact h6 q hq
/-- a loop: E acc j is the frame, j what the turns leave behind -/
theorem forGo_fold {γ : Type} {b : T → Env → Sto → Out} {g : α → T} {E : β → γ → Env} {step : β → α → β} {s : Sto} : ∀ {l : List α} {acc : β} {j : γ}, (∀ a ∈ l, ∀ acc j, ∃ j', b (g a) (E acc j) s = .nx (E (step acc a) j') s) →
    ∃ j', forGo b (l.map g) (E acc j) s = .nx (E (l.foldl step acc) j') s
  | [], acc, j, _ => ⟨j, rfl⟩
  | a :: l, acc, j, h => by
    obtain ⟨j1, h1⟩ := h a List.mem_cons_self acc j
    obtain ⟨j2, h2⟩ := forGo_fold (l := l) (acc := step acc a) (j := j1) fun c hc => h c (List.mem_cons_of_mem _ hc)
    refine ⟨j2, ?_⟩
    rw [List.map_cons, forGo, h1]
    exact h2
/-- the same, with what is left behind told -/
theorem forGo_foldE {b : T → Env → Sto → Out} {g : α → T} {E : β → Env} {step : β → α → β} {s : Sto} : ∀ {l : List α} {acc : β}, (∀ a ∈ l, ∀ acc, b (g a) (E acc) s = .nx (E (step acc a)) s) → forGo b (l.map g) (E acc) s = .nx (E (l.foldl step acc)) s
  | [], acc, _ => rfl
  | a :: l, acc, h => by
    rw [List.map_cons, forGo, h a List.mem_cons_self acc]
    exact forGo_foldE fun c hc => h c (List.mem_cons_of_mem _ hc)
theorem forGo_foldI {b : T → Env → Sto → Out} {g : α → T} {E : β → Env} {step : β → α → β} {s : Sto} (I : β → Prop) : ∀ {l : List α} {acc : β}, (∀ a ∈ l, ∀ acc, I acc → b (g a) (E acc) s = .nx (E (step acc a)) s) → (∀ a ∈ l, ∀ acc, I acc → I (step acc a)) → I acc → forGo b (l.map g) (E acc) s = .nx (E (l.foldl step acc)) s
  | [], acc, _, _, _ => rfl
  | a :: l, acc, h, hI, i => by
    rw [List.map_cons, forGo, h a List.mem_cons_self acc i]
    exact forGo_foldI I (fun c hc => h c (List.mem_cons_of_mem _ hc)) (fun c hc => hI c (List.mem_cons_of_mem _ hc)) (hI a List.mem_cons_self acc i)
theorem forGo_foldR {b : T → Env → Sto → Out} {g : α → T} {E : β → Env} {step : β → α → β} {s : Sto} (I : List α → β → Prop) (h : ∀ a rest acc, I (a :: rest) acc → b (g a) (E acc) s = .nx (E (step acc a)) s ∧ I rest (step acc a)) : ∀ {l : List α} {acc : β}, I l acc → forGo b (l.map g) (E acc) s = .nx (E (l.foldl step acc)) s
  | [], acc, _ => rfl
  | a :: l, acc, i => by
    obtain ⟨h1, h2⟩ := h a l acc i
    rw [List.map_cons, forGo, h1]
    exact forGo_foldR I h h2
/-- .. that may return -/
theorem forGo_anyD {b : T → Env → Sto → Out} {g : α → T} {E : β → Env} {p : α → Bool} {w : Ow} {step : β → α → β} {s : Sto} : ∀ {l : List α} {acc : β}, (∀ a ∈ l, ∀ acc, b (g a) (E acc) s = if p a = true then .rt w s else .nx (E (step acc a)) s) →
    forGo b (l.map g) (E acc) s = if l.any p = true then .rt w s else .nx (E (l.foldl step acc)) s
  | [], acc, _ => rfl
  | a :: l, acc, h => by
    rw [List.map_cons, forGo, h a List.mem_cons_self acc, List.any_cons]
    cases hp : p a with
    | true => simp
    | false =>
      simp only [Bool.false_or, Bool.false_eq_true, if_false]
      exact forGo_anyD fun c hc => h c (List.mem_cons_of_mem _ hc)
/-- .. that changes the store -/
theorem forGo_foldS {b : T → Env → Sto → Out} {g : α → T} {E : β → Env} {S : β → Sto} {step : β → α → β} (I : List α → β → Prop) (h : ∀ a rest acc, I (a :: rest) acc → b (g a) (E acc) (S acc) = .nx (E (step acc a)) (S (step acc a)) ∧ I rest (step acc a)) : ∀ {l : List α} {acc : β}, I l acc → forGo b (l.map g) (E acc) (S acc) = .nx (E (l.foldl step acc)) (S (l.foldl step acc))
  | [], acc, _ => rfl
  | a :: l, acc, i => by
    obtain ⟨h1, h2⟩ := h a l acc i
    rw [List.map_cons, forGo, h1]
    exact forGo_foldS I h h2
theorem foldl_fst {γ : Type} {f : β → α → β} {k : β × γ → α → γ} : ∀ (l : List α) (y : β) (z : γ), (l.foldl (fun p a => (f p.1 a, k p a)) (y, z)).1 = l.foldl f y
  | [], _, _ => rfl
  | a :: l, y, z => foldl_fst l _ _
/-- n times f -/
def iter (f : β → β) : Nat → β → β
  | 0, b => b
  | n + 1, b => iter f n (f b)
/-- a loop that ends by a return -/
theorem whGo_iter {c : Env → Sto → R Bool} {b : Env → Sto → Out} {E : β → Env} {next : β → β} {stop : β → Bool} {w : β → Ow} {I : β → Prop} {s : Sto} (hc : ∀ acc, I acc → c (E acc) s = .ok true s)
    (hb : ∀ acc, I acc → b (E acc) s = if stop acc = true then .rt (w acc) s else .nx (E (next acc)) s) (hI : ∀ acc, I acc → I (next acc)) :
    ∀ (k lf : Nat) (acc : β), I acc → k < lf → (∀ j, j < k → stop (iter next j acc) = false) → stop (iter next k acc) = true → whGo c b lf (E acc) s = .rt (w (iter next k acc)) s
  | k, 0, acc, _, h, _, _ => by omega
  | 0, lf + 1, acc, i, _, _, h => by
    have h : stop acc = true := h
    rw [whGo, hc acc i]
    show (match b (E acc) s with
      | .nx env' s' => whGo c b lf env' s'
      | .ct env' s' => whGo c b lf env' s'
      | .bk env' s' => .nx env' s'
      | o => o) = _
    rw [hb acc i, if_pos h]
    rfl
  | k + 1, lf + 1, acc, i, hk, hj, h => by
    have h0 : stop acc = false := hj 0 (by omega)
    rw [whGo, hc acc i]
    show (match b (E acc) s with
      | .nx env' s' => whGo c b lf env' s'
      | .ct env' s' => whGo c b lf env' s'
      | .bk env' s' => .nx env' s'
      | o => o) = _
    rw [hb acc i, if_neg (by rw [h0]; exact Bool.false_ne_true)]
    exact whGo_iter hc hb hI k lf (next acc) (hI acc i) (by omega) (fun j hj' => hj (j + 1) (by omega)) h
/-- the least one -/
theorem least {p : Nat → Prop} : ∀ (k : Nat), p k → ∃ j, j ≤ k ∧ p j ∧ ∀ i, i < j → ¬ p i := by
  intro k
  induction k using Nat.strongRecOn with
  | ind k ih =>
    intro h
    by_cases q : ∃ i, i < k ∧ p i
    · obtain ⟨i, hi, pi⟩ := q
      obtain ⟨j, h1, h2, h3⟩ := ih i hi pi
      exact ⟨j, by omega, h2, h3⟩
    · exact ⟨k, Nat.le_refl _, h, fun i hi pi => q ⟨i, hi, pi⟩⟩
/-- a loop within an invariant -/
theorem forGo_inv {b : T → Env → Sto → Out} {g : α → T} {I : Nat → Env → Sto → Prop} : ∀ {l : List α} {k : Nat} {env : Env} {s : Sto}, (∀ i a, l[i]? = some a → ∀ env s, I (k + i) env s → ∃ env' s', b (g a) env s = .nx env' s' ∧ I (k + i + 1) env' s') → I k env s →
    ∃ env' s', forGo b (l.map g) env s = .nx env' s' ∧ I (k + l.length) env' s'
  | [], k, env, s, _, hi => ⟨env, s, rfl, hi⟩
  | a :: l, k, env, s, h, hi => by
    obtain ⟨env1, s1, h1, h2⟩ := h 0 a rfl env s hi
    obtain ⟨env2, s2, h3, h4⟩ := forGo_inv (l := l) (k := k + 1) (fun i c hc env s hi => by
      have := h (i + 1) c (by simpa using hc) env s (by rw [show k + (i + 1) = k + 1 + i by omega]; exact hi)
      rw [show k + (i + 1) = k + 1 + i by omega] at this
      exact this) h2
    refine ⟨env2, s2, ?_, by rw [List.length_cons, show k + (l.length + 1) = k + 1 + l.length by omega]; exact h4⟩
    rw [List.map_cons, forGo, h1]
    exact h3
/-- a loop that returns w at the first item that p holds of -/
theorem forGo_any {γ : Type} {b : T → Env → Sto → Out} {g : α → T} {E : γ → Env} {p : α → Bool} {w : Ow} {s : Sto} : ∀ {l : List α} {j : γ}, (∀ a ∈ l, ∀ j, if p a = true then b (g a) (E j) s = .rt w s else ∃ j', b (g a) (E j) s = .nx (E j') s) →
    if l.any p = true then forGo b (l.map g) (E j) s = .rt w s else ∃ j', forGo b (l.map g) (E j) s = .nx (E j') s
  | [], j, _ => ⟨j, rfl⟩
  | a :: l, j, h => by
    have h1 := h a List.mem_cons_self j
    rw [List.any_cons]
    cases hp : p a with
    | true =>
      rw [hp, if_pos rfl] at h1
      rw [Bool.true_or, if_pos rfl, List.map_cons, forGo, h1]
    | false =>
      rw [hp, if_neg Bool.false_ne_true] at h1
      obtain ⟨j1, h1⟩ := h1
      have h2 := forGo_any (l := l) (j := j1) fun c hc => h c (List.mem_cons_of_mem _ hc)
      rw [Bool.false_or, List.map_cons, forGo, h1]
      exact h2
end
end TW

set_option Elab.async false
set_option linter.all false
set_option maxRecDepth 100000
/-! The compiled defs, by names. -/
namespace Tw
open PySem L2 TW
/-- where each def stands -/
structure Ix where
  f_is_whole : Nat := 0
  f_is_tuple_of : Nat := 0
  f_has : Nat := 0
  f_members : Nat := 0
  f_fits_hypothesis : Nat := 0
  f_fits_hypotheses : Nat := 0
  f_does_forbid : Nat := 0
  f_leads : Nat := 0
  f_image : Nat := 0
  f_need_hypotheses : Nat := 0
  f_fits_name : Nat := 0
  f_is_plain_step : Nat := 0
  f_blocks_of : Nat := 0
  f_left_of : Nat := 0
  f_steps_in : Nat := 0
  f_calls_in : Nat := 0
  f_actions_in : Nat := 0
  f_fits_plain : Nat := 0
  f_need_plain : Nat := 0
  f_united : Nat := 0
  f_chosen : Nat := 0
  f_rounds : Nat := 0
  f_step_table : Nat := 0
  f_table_by : Nat := 0
  f_need_both : Nat := 0
  f_ends_from : Nat := 0
  f_law_cup : Nat := 0
  f_law_roll : Nat := 0
  f_law_some : Nat := 0
  f_law_has : Nat := 0
  f_law_blocks : Nat := 0
  f_law_steps : Nat := 0
  f_law_leads : Nat := 0
  f_law_set : Nat := 0
  f_law_step : Nat := 0
  f_law_block : Nat := 0
  f_law_hypotheses : Nat := 0
  f_law_drawn : Nat := 0
  f_law_labelled : Nat := 0
  f_law_rests : Nat := 0
  f_law_going : Nat := 0
  f_law_walks : Nat := 0
  f_law_set_of : Nat := 0
  f_law_ends : Nat := 0
  f_law_table : Nat := 0
  f_need_whole : Nat := 0
  f_need_set : Nat := 0
  f_is_within : Nat := 0
  f_leads_by : Nat := 0
  f_need_all : Nat := 0
  f_strongest : Nat := 0
  f_weakest : Nat := 0
  f_does_lead : Nat := 0
  f_law_members : Nat := 0
  f_law_within : Nat := 0
  f_law_union : Nat := 0
  f_fits_chain : Nat := 0
  f_takes_chain : Nat := 0
  f_joined : Nat := 0
  f_laid : Nat := 0
  f_rows_of : Nat := 0
  f_next_point : Nat := 0
  f_gone : Nat := 0
  f_points_of : Nat := 0
  f_go_from : Nat := 0
  f_goes_in : Nat := 0
  f_goings_in : Nat := 0
  f_actions_in_places : Nat := 0
  f_pushed : Nat := 0
  f_least_sets : Nat := 0
  f_are_closed : Nat := 0
  f_fits_sets : Nat := 0
  f_place_sets : Nat := 0
  f_takes_places : Nat := 0
  f_law_image : Nat := 0
  f_law_closed : Nat := 0
def cc_is_whole (x : Ix) : TW.Fn := ⟨3, 3, [.ret [] (.and (.blt .isInt (.pk 0)) (.and (.not (.blt .isBool (.pk 0))) (.chn .le .le (.pk 1) (.pk 0) (.pk 2))))]⟩
def cc_is_tuple_of (x : Ix) : TW.Fn := ⟨3, 3, [.ret [] (.and (.blt .isTuple (.pk 0)) (.chn .le .le (.pk 1) (.blt .len (.pk 0)) (.pk 2)))]⟩
def cc_has (x : Ix) : TW.Fn := ⟨2, 2, [.ret [] (.cmp .eq (.bin .band (.bin .shr (.pk 0) (.pk 1)) (.con (.int 1))) (.con (.int 1)))]⟩
def cc_members (x : Ix) : TW.Fn := ⟨1, 2, [.ret [1, 0, 1] (.lc [1] (.var 1) (.nm 1) (.rng1 (.con (.int 8))) (some (.call x.f_has [.var 0, .var 1])))]⟩
def cc_fits_hypothesis (x : Ix) : TW.Fn := ⟨1, 2, [.ifs [0] (.or (.not (.call x.f_is_tuple_of [.var 0, .con (.int 3), .con (.int 4)])) (.or (.not (.blt .isStr (.ix (.pk 0) (.con (.int 0))))) (.not (.call x.f_is_whole [.ix (.pk 0) (.con (.int 1)), .con (.int 0), .bin .sub (.con (.int 5)) (.con (.int 1))])))) [.ret [] (.con (.bl false))] [], .ifs [] (.cmp .eq (.ix (.pk 0) (.con (.int 0))) (.con (.str "keep"))) [.ret [] (.and (.cmp .eq (.blt .len (.pk 0)) (.con (.int 3))) (.call x.f_is_whole [.ix (.pk 0) (.con (.int 2)), .con (.int 0), .bin .sub (.con (.int 3)) (.con (.int 1))]))] [], .ret [1] (.and (.cmp .eq (.ix (.pk 0) (.con (.int 0))) (.con (.str "forbid"))) (.and (.cmp .eq (.blt .len (.pk 0)) (.con (.int 4))) (.blt .all (.lc [1] (.call x.f_is_whole [.var 1, .con (.int 0), .con (.int 255)]) (.nm 1) (.seq (.sl (.pk 0) (some (.con (.int 2))) none)) none))))]⟩
def cc_fits_hypotheses (x : Ix) : TW.Fn := ⟨1, 2, [.ret [0, 1] (.and (.call x.f_is_tuple_of [.var 0, .con (.int 0), .con (.int 5)]) (.blt .all (.lc [1] (.call x.f_fits_hypothesis [.var 1]) (.nm 1) (.seq (.pk 0)) none)))]⟩
def cc_does_forbid (x : Ix) : TW.Fn := ⟨4, 4, [.ifs [] (.cmp .ne (.ix (.pk 0) (.con (.int 1))) (.pk 1)) [.ret [] (.con (.bl false))] [], .ifs [] (.cmp .eq (.ix (.pk 0) (.con (.int 0))) (.con (.str "keep"))) [.ret [] (.cmp .ne (.bin .band (.bin .shr (.pk 2) (.ix (.pk 0) (.con (.int 2)))) (.con (.int 1))) (.bin .band (.bin .shr (.pk 3) (.ix (.pk 0) (.con (.int 2)))) (.con (.int 1))))] [], .ret [2, 3] (.and (.call x.f_has [.ix (.pk 0) (.con (.int 2)), .var 2]) (.call x.f_has [.ix (.pk 0) (.con (.int 3)), .var 3]))]⟩
def cc_leads (x : Ix) : TW.Fn := ⟨4, 5, [.ret [4, 1, 2, 3] (.not (.blt .any (.lc [4] (.call x.f_does_forbid [.var 4, .var 1, .var 2, .var 3]) (.nm 4) (.seq (.pk 0)) none)))]⟩
def cc_image (x : Ix) : TW.Fn := ⟨3, 6, [.asg [] 3 (.con (.int 0)), .for_ [] (.nm 4) (.rng1 (.con (.int 8))) [.ifs [0, 1, 5, 4, 2] (.blt .any (.lc [5] (.call x.f_leads [.var 0, .var 1, .var 5, .var 4]) (.nm 5) (.seq (.call x.f_members [.var 2])) none)) [.asg [] 3 (.bin .bor (.pk 3) (.bin .shl (.con (.int 1)) (.pk 4)))] []], .retv 3]⟩
def cc_need_hypotheses (x : Ix) : TW.Fn := ⟨1, 1, [.ifs [0] (.not (.call x.f_fits_hypotheses [.var 0])) [.dead] []]⟩
def cc_fits_name (x : Ix) : TW.Fn := ⟨1, 1, [.ret [] (.and (.blt .isStr (.pk 0)) (.and (.cmp .eq (.blt .len (.pk 0)) (.con (.int 1))) (.cmp .inn (.pk 0) (.con (.str "ABCDEFGH")))))]⟩
def cc_is_plain_step (x : Ix) : TW.Fn := ⟨1, 1, [.ifs [] (.cmp .inn (.ix (.pk 0) (.con (.int 0))) (.tup [.con (.str "abort"), .con (.str "skip")])) [.ret [] (.cmp .eq (.blt .len (.pk 0)) (.con (.int 1)))] [], .ifs [] (.cmp .ne (.blt .len (.pk 0)) (.con (.int 2))) [.ret [] (.con (.bl false))] [], .ifs [] (.cmp .eq (.ix (.pk 0) (.con (.int 0))) (.con (.str "do"))) [.ret [] (.call x.f_is_whole [.ix (.pk 0) (.con (.int 1)), .con (.int 0), .bin .sub (.con (.int 5)) (.con (.int 1))])] [], .ret [] (.or (.and (.cmp .eq (.ix (.pk 0) (.con (.int 0))) (.con (.str "assert"))) (.call x.f_is_whole [.ix (.pk 0) (.con (.int 1)), .con (.int 0), .con (.int 255)])) (.and (.cmp .eq (.ix (.pk 0) (.con (.int 0))) (.con (.str "call"))) (.call x.f_fits_name [.ix (.pk 0) (.con (.int 1))])))]⟩
def cc_blocks_of (x : Ix) : TW.Fn := ⟨1, 1, [.ifs [] (.and (.cmp .eq (.ix (.pk 0) (.con (.int 0))) (.con (.str "if"))) (.cmp .eq (.blt .len (.pk 0)) (.con (.int 4)))) [.ret [] (.sl (.pk 0) (some (.con (.int 2))) none)] [], .ret [] (.ifx (.and (.cmp .eq (.ix (.pk 0) (.con (.int 0))) (.con (.str "while"))) (.cmp .eq (.blt .len (.pk 0)) (.con (.int 3)))) (.sl (.pk 0) (some (.con (.int 2))) none) (.tup []))]⟩
def cc_left_of (x : Ix) : TW.Fn := ⟨3, 6, [.ifs [0, 2] (.or (.cmp .eq (.pk 1) (.con (.int 0))) (.not (.call x.f_is_tuple_of [.var 0, .con (.int 1), .var 2]))) [.ret [] (.neg (.con (.int 1)))] [], .for_ [0] (.nm 3) (.seq (.var 0)) [.ifs [3] (.or (.cmp .eq (.pk 2) (.con (.int 0))) (.or (.not (.call x.f_is_tuple_of [.var 3, .con (.int 1), .con (.int 4)])) (.not (.blt .isStr (.ix (.pk 3) (.con (.int 0))))))) [.ret [] (.neg (.con (.int 1)))] [], .asg [] 2 (.bin .sub (.pk 2) (.con (.int 1))), .asg [3] 4 (.call x.f_blocks_of [.var 3]), .ifs [3] (.or (.and (.cmp .eq (.pk 4) (.tup [])) (.not (.call x.f_is_plain_step [.var 3]))) (.and (.cmp .ne (.pk 4) (.tup [])) (.not (.call x.f_is_whole [.ix (.pk 3) (.con (.int 1)), .con (.int 0), .con (.int 255)])))) [.ret [] (.neg (.con (.int 1)))] [], .for_ [4] (.nm 5) (.seq (.var 4)) [.asg [5, 2] 2 (.ifx (.cmp .ge (.pk 2) (.con (.int 0))) (.call x.f_left_of [.var 5, .bin .sub (.pk 1) (.con (.int 1)), .var 2]) (.neg (.con (.int 1))))], .ifs [] (.cmp .lt (.pk 2) (.con (.int 0))) [.ret [] (.neg (.con (.int 1)))] []], .retv 2]⟩
def cc_steps_in (x : Ix) : TW.Fn := ⟨1, 4, [.asg [] 1 (.lst []), .for_ [0] (.nm 2) (.seq (.var 0)) [.app [2] 1 (.var 2), .for_ [2] (.nm 3) (.seq (.call x.f_blocks_of [.var 2])) [.asg [3] 1 (.bin .add (.pk 1) (.call x.f_steps_in [.var 3]))]], .retv 1]⟩
def cc_calls_in (x : Ix) : TW.Fn := ⟨1, 2, [.ret [0] (.lc [1] (.ix (.pk 1) (.con (.int 1))) (.nm 1) (.seq (.call x.f_steps_in [.var 0])) (some (.cmp .eq (.ix (.pk 1) (.con (.int 0))) (.con (.str "call")))))]⟩
def cc_actions_in (x : Ix) : TW.Fn := ⟨1, 2, [.ret [0] (.lc [1] (.ix (.pk 1) (.con (.int 1))) (.nm 1) (.seq (.call x.f_steps_in [.var 0])) (some (.cmp .eq (.ix (.pk 1) (.con (.int 0))) (.con (.str "do")))))]⟩
def cc_fits_plain (x : Ix) : TW.Fn := ⟨1, 1, [.ifs [0, 0] (.or (.cmp .lt (.call x.f_left_of [.var 0, .con (.int 40), .con (.int 200)]) (.con (.int 0))) (.cmp .ne (.call x.f_calls_in [.var 0]) (.lst []))) [.ret [] (.con (.bl false))] [], .ret [0] (.cmp .le (.blt .len (.call x.f_actions_in [.var 0])) (.con (.int 24)))]⟩
def cc_need_plain (x : Ix) : TW.Fn := ⟨1, 1, [.ifs [0] (.not (.call x.f_fits_plain [.var 0])) [.dead] []]⟩
def cc_united (x : Ix) : TW.Fn := ⟨2, 4, [.asg [] 2 (.con (.int 0)), .for_ [1] (.nm 3) (.seq (.call x.f_members [.var 1])) [.asg [3] 2 (.bin .bor (.pk 2) (.ix (.pk 0) (.var 3)))], .retv 2]⟩
def cc_chosen (x : Ix) : TW.Fn := ⟨3, 4, [.ret [0, 3, 3, 3] (.blt .tupleOf (.lc [3] (.ifx (.call x.f_has [.var 0, .var 3]) (.ix (.pk 1) (.var 3)) (.ix (.pk 2) (.var 3))) (.nm 3) (.rng1 (.con (.int 8))) none))]⟩
def cc_rounds (x : Ix) : TW.Fn := ⟨2, 5, [.asg [0] 2 (.call x.f_chosen [.var 0, .con (.tup [.int 0, .int 0, .int 0, .int 0, .int 0, .int 0, .int 0, .int 0]), .con (.tup [.int 1, .int 2, .int 4, .int 8, .int 16, .int 32, .int 64, .int 128])]), .whl (.con (.bl true)) [.asg [0, 2, 4] 3 (.call x.f_chosen [.var 0, .blt .tupleOf (.lc [4] (.call x.f_united [.var 2, .ix (.pk 1) (.var 4)]) (.nm 4) (.rng1 (.con (.int 8))) none), .con (.tup [.int 1, .int 2, .int 4, .int 8, .int 16, .int 32, .int 64, .int 128])]), .ifs [] (.cmp .eq (.pk 3) (.pk 2)) [.retv 2] [], .asg [3] 2 (.var 3)]]⟩
def cc_step_table (x : Ix) : TW.Fn := ⟨2, 3, [.ifs [] (.cmp .eq (.ix (.pk 0) (.con (.int 0))) (.con (.str "skip"))) [.ret [] (.con (.tup [.int 1, .int 2, .int 4, .int 8, .int 16, .int 32, .int 64, .int 128]))] [], .ifs [] (.cmp .eq (.ix (.pk 0) (.con (.int 0))) (.con (.str "abort"))) [.ret [] (.con (.tup [.int 0, .int 0, .int 0, .int 0, .int 0, .int 0, .int 0, .int 0]))] [], .ifs [] (.cmp .eq (.ix (.pk 0) (.con (.int 0))) (.con (.str "do"))) [.ret [1] (.blt .tupleOf (.lc [2] (.call x.f_image [.var 1, .ix (.pk 0) (.con (.int 1)), .bin .shl (.con (.int 1)) (.pk 2)]) (.nm 2) (.rng1 (.con (.int 8))) none))] [], .ifs [] (.cmp .eq (.ix (.pk 0) (.con (.int 0))) (.con (.str "assert"))) [.ret [] (.call x.f_chosen [.ix (.pk 0) (.con (.int 1)), .con (.tup [.int 1, .int 2, .int 4, .int 8, .int 16, .int 32, .int 64, .int 128]), .con (.tup [.int 0, .int 0, .int 0, .int 0, .int 0, .int 0, .int 0, .int 0])])] [], .ifs [] (.cmp .eq (.ix (.pk 0) (.con (.int 0))) (.con (.str "if"))) [.ret [1, 1] (.call x.f_chosen [.ix (.pk 0) (.con (.int 1)), .call x.f_table_by [.ix (.pk 0) (.con (.int 2)), .var 1], .call x.f_table_by [.ix (.pk 0) (.con (.int 3)), .var 1]])] [], .ret [1] (.call x.f_rounds [.ix (.pk 0) (.con (.int 1)), .call x.f_table_by [.ix (.pk 0) (.con (.int 2)), .var 1]])]⟩
def cc_table_by (x : Ix) : TW.Fn := ⟨2, 6, [.asg [] 2 (.con (.tup [.int 1, .int 2, .int 4, .int 8, .int 16, .int 32, .int 64, .int 128])), .for_ [0] (.nm 3) (.seq (.var 0)) [.asg [3, 1] 4 (.call x.f_step_table [.var 3, .var 1]), .asg [4, 5] 2 (.blt .tupleOf (.lc [5] (.call x.f_united [.var 4, .var 5]) (.nm 5) (.seq (.pk 2)) none))], .retv 2]⟩
def cc_need_both (x : Ix) : TW.Fn := ⟨2, 2, [.expr [0] (.call x.f_need_plain [.var 0]), .expr [1] (.call x.f_need_hypotheses [.var 1])]⟩
def cc_ends_from (x : Ix) : TW.Fn := ⟨2, 2, [.expr [0, 1] (.call x.f_need_both [.var 0, .var 1]), .ret [0, 1] (.call x.f_table_by [.var 0, .var 1])]⟩
def cc_law_cup (x : Ix) : TW.Fn := ⟨1, 2, [.asg [] 1 (.blt .abs (.ix (.bin .add (.blt .listOf (.pk 0)) (.lst [.con (.int 0)])) (.con (.int 0)))), .ret [] (.lst [.ifx (.cmp .ge (.pk 1) (.bin .pow (.con (.int 10)) (.con (.int 18)))) (.bin .fdiv (.pk 1) (.con (.int 103))) (.con (.int 0)), .bin .add (.bin .mod (.blt .intOf (.bin .add (.bin .mul (.pk 1) (.con (.int 331))) (.con (.int 2729)))) (.con (.int 2077503071))) (.con (.int 199))])]⟩
def cc_law_roll (x : Ix) : TW.Fn := ⟨2, 4, [.ifs [] (.cmp .gt (.ix (.pk 0) (.con (.int 0))) (.con (.int 0))) [.asg [] 2 (.bin .mod (.blt .intOf (.ix (.pk 0) (.con (.int 0)))) (.pk 1)), .seti [] 0 (.con (.int 0)) (.bin .fdiv (.ix (.pk 0) (.con (.int 0))) (.pk 1)), .retv 2] [], .seti [] 0 (.con (.int 1)) (.bin .mod (.blt .intOf (.bin .add (.bin .mul (.ix (.pk 0) (.con (.int 1))) (.con (.int 31139))) (.con (.int 8081)))) (.con (.int 2147483543))), .asg [] 3 (.bin .mod (.blt .intOf (.bin .mul (.ix (.pk 0) (.con (.int 1))) (.bin .add (.ix (.pk 0) (.con (.int 1))) (.con (.int 271))))) (.con (.int 2147483587))), .ret [] (.bin .mod (.blt .intOf (.bin .fdiv (.pk 3) (.con (.int 863)))) (.pk 1))]⟩
def cc_law_some (x : Ix) : TW.Fn := ⟨2, 2, [.ret [0] (.ix (.pk 1) (.call x.f_law_roll [.mkr (.var 0), .blt .len (.pk 1)]))]⟩
def cc_law_has (x : Ix) : TW.Fn := ⟨2, 2, [.ret [1] (.cmp .eq (.bin .mod (.blt .intOf (.bin .fdiv (.pk 0) (.ix (.lst [.con (.int 1), .con (.int 2), .con (.int 4), .con (.int 8), .con (.int 16), .con (.int 32), .con (.int 64), .con (.int 128)]) (.var 1)))) (.con (.int 2))) (.con (.int 1)))]⟩
def cc_law_blocks (x : Ix) : TW.Fn := ⟨1, 1, [.ret [] (.ifx (.cmp .inn (.ix (.pk 0) (.con (.int 0))) (.lst [.con (.str "if"), .con (.str "while")])) (.blt .listOf (.sl (.pk 0) (some (.con (.int 2))) none)) (.lst []))]⟩
def cc_law_steps (x : Ix) : TW.Fn := ⟨1, 4, [.asg [] 1 (.lst []), .for_ [0] (.nm 2) (.seq (.var 0)) [.app [2] 1 (.var 2), .for_ [2] (.nm 3) (.seq (.call x.f_law_blocks [.var 2])) [.asg [3] 1 (.bin .add (.pk 1) (.call x.f_law_steps [.var 3]))]], .retv 1]⟩
def cc_law_leads (x : Ix) : TW.Fn := ⟨4, 6, [.for_ [0] (.nm 4) (.seq (.var 0)) [.ifs [] (.and (.cmp .eq (.ix (.pk 4) (.con (.int 1))) (.pk 1)) (.cmp .eq (.ix (.pk 4) (.con (.int 0))) (.con (.str "keep")))) [.asg [] 5 (.ix (.lst [.con (.int 1), .con (.int 2), .con (.int 4)]) (.ix (.pk 4) (.con (.int 2)))), .ifs [] (.cmp .ne (.bin .mod (.blt .intOf (.bin .fdiv (.pk 2) (.pk 5))) (.con (.int 2))) (.bin .mod (.blt .intOf (.bin .fdiv (.pk 3) (.pk 5))) (.con (.int 2)))) [.ret [] (.con (.bl false))] []] [], .ifs [2, 3] (.and (.cmp .eq (.ix (.pk 4) (.con (.int 1))) (.pk 1)) (.and (.cmp .eq (.ix (.pk 4) (.con (.int 0))) (.con (.str "forbid"))) (.and (.call x.f_law_has [.ix (.pk 4) (.con (.int 2)), .var 2]) (.call x.f_law_has [.ix (.pk 4) (.con (.int 3)), .var 3])))) [.ret [] (.con (.bl false))] []], .ret [] (.con (.bl true))]⟩
def cc_law_set (x : Ix) : TW.Fn := ⟨1, 1, [.ret [0, 0, 0] (.call x.f_law_some [.mkr (.var 0), .lst [.con (.int 170), .con (.int 85), .con (.int 204), .con (.int 51), .con (.int 240), .con (.int 15), .con (.int 255), .con (.int 0), .con (.int 1), .con (.int 128), .call x.f_law_roll [.mkr (.var 0), .con (.int 256)], .call x.f_law_roll [.mkr (.var 0), .con (.int 256)]]])]⟩
def cc_law_step (x : Ix) : TW.Fn := ⟨2, 3, [.asg [0] 2 (.call x.f_law_roll [.mkr (.var 0), .con (.int 12)]), .ifs [] (.cmp .lt (.pk 2) (.con (.int 5))) [.ret [0] (.tup [.con (.str "do"), .call x.f_law_roll [.mkr (.var 0), .con (.int 3)]])] [], .ifs [] (.cmp .eq (.pk 2) (.con (.int 5))) [.ret [] (.tup [.con (.str "skip")])] [], .ifs [] (.cmp .eq (.pk 2) (.con (.int 6))) [.ret [0] (.tup [.con (.str "assert"), .call x.f_law_set [.mkr (.var 0)]])] [], .ifs [0] (.and (.cmp .eq (.pk 2) (.con (.int 7))) (.cmp .eq (.call x.f_law_roll [.mkr (.var 0), .con (.int 3)]) (.con (.int 0)))) [.ret [] (.tup [.con (.str "abort")])] [], .ifs [] (.cmp .eq (.pk 1) (.con (.int 0))) [.ret [0] (.tup [.con (.str "do"), .call x.f_law_roll [.mkr (.var 0), .con (.int 2)]])] [], .ifs [] (.cmp .lt (.pk 2) (.con (.int 10))) [.ret [0, 0, 0] (.tup [.con (.str "if"), .call x.f_law_set [.mkr (.var 0)], .call x.f_law_block [.mkr (.var 0), .bin .sub (.pk 1) (.con (.int 1))], .call x.f_law_block [.mkr (.var 0), .bin .sub (.pk 1) (.con (.int 1))]])] [], .ret [0, 0] (.tup [.con (.str "while"), .call x.f_law_set [.mkr (.var 0)], .call x.f_law_block [.mkr (.var 0), .bin .sub (.pk 1) (.con (.int 1))]])]⟩
def cc_law_block (x : Ix) : TW.Fn := ⟨2, 3, [.ret [0, 1, 0] (.blt .tupleOf (.lc [2] (.call x.f_law_step [.mkr (.var 0), .var 1]) (.nm 2) (.rng1 (.bin .add (.con (.int 1)) (.call x.f_law_roll [.mkr (.var 0), .con (.int 2)]))) none))]⟩
def cc_law_hypotheses (x : Ix) : TW.Fn := ⟨2, 4, [.asg [] 2 (.tup []), .for_ [0] (.nm 3) (.rng1 (.call x.f_law_roll [.mkr (.var 0), .bin .add (.pk 1) (.con (.int 1))])) [.ifs [0] (.cmp .eq (.call x.f_law_roll [.mkr (.var 0), .con (.int 2)]) (.con (.int 0))) [.asg [0, 0] 2 (.bin .add (.pk 2) (.tup [.tup [.con (.str "keep"), .call x.f_law_roll [.mkr (.var 0), .con (.int 3)], .call x.f_law_roll [.mkr (.var 0), .con (.int 3)]]]))] [.asg [0, 0, 0] 2 (.bin .add (.pk 2) (.tup [.tup [.con (.str "forbid"), .call x.f_law_roll [.mkr (.var 0), .con (.int 3)], .call x.f_law_set [.mkr (.var 0)], .call x.f_law_set [.mkr (.var 0)]]]))]], .retv 2]⟩
def cc_law_drawn (x : Ix) : TW.Fn := ⟨2, 4, [.asg [0, 0] 2 (.bin .add (.call x.f_law_block [.mkr (.var 0), .con (.int 2)]) (.call x.f_law_block [.mkr (.var 0), .con (.int 1)])), .ifs [3, 2] (.cmp .gt (.blt .len (.lc [3] (.var 3) (.nm 3) (.seq (.call x.f_law_steps [.var 2])) (some (.cmp .eq (.ix (.pk 3) (.con (.int 0))) (.con (.str "do")))))) (.pk 1)) [.asg [0] 2 (.call x.f_law_block [.mkr (.var 0), .con (.int 1)])] [], .retv 2]⟩
def cc_law_labelled (x : Ix) : TW.Fn := ⟨2, 5, [.asg [] 2 (.lst []), .for_ [0] (.nm 3) (.seq (.var 0)) [.ifs [] (.cmp .eq (.ix (.pk 3) (.con (.int 0))) (.con (.str "do"))) [.app [] 1 (.ix (.pk 3) (.con (.int 1))), .app [] 2 (.tup [.con (.str "do"), .ix (.pk 3) (.con (.int 1)), .blt .len (.pk 1)])] [.ifs [] (.cmp .inn (.ix (.pk 3) (.con (.int 0))) (.tup [.con (.str "if"), .con (.str "while")])) [.app [4, 1] 2 (.bin .add (.sl (.pk 3) none (some (.con (.int 2)))) (.blt .tupleOf (.lc [4] (.call x.f_law_labelled [.var 4, .mkr (.var 1)]) (.nm 4) (.seq (.sl (.pk 3) (some (.con (.int 2))) none)) none)))] [.app [3] 2 (.var 3)]]], .ret [] (.blt .tupleOf (.pk 2))]⟩
def cc_law_rests (x : Ix) : TW.Fn := ⟨3, 6, [.for_ [0] (.tp [3, 4]) (.enum (.var 0)) [.asg [] 5 (.bin .add (.sl (.pk 0) (some (.bin .add (.pk 3) (.con (.int 1)))) none) (.pk 1)), .ifs [] (.cmp .eq (.ix (.pk 4) (.con (.int 0))) (.con (.str "do"))) [.seti [5] 2 (.ix (.pk 4) (.con (.int 2))) (.var 5)] [], .ifs [] (.cmp .eq (.ix (.pk 4) (.con (.int 0))) (.con (.str "if"))) [.expr [5, 2] (.call x.f_law_rests [.ix (.pk 4) (.con (.int 2)), .var 5, .mkr (.var 2)]), .expr [5, 2] (.call x.f_law_rests [.ix (.pk 4) (.con (.int 3)), .var 5, .mkr (.var 2)])] [], .ifs [] (.cmp .eq (.ix (.pk 4) (.con (.int 0))) (.con (.str "while"))) [.expr [4, 2] (.call x.f_law_rests [.ix (.pk 4) (.con (.int 2)), .bin .add (.tup [.var 4]) (.pk 5), .mkr (.var 2)])] []], .retv 2]⟩
def cc_law_going (x : Ix) : TW.Fn := ⟨2, 4, [.asg [] 2 (.lst []), .whl (.cmp .ne (.pk 0) (.tup [])) [.par [] [3, 0] [.ix (.pk 0) (.con (.int 0)), .sl (.pk 0) (some (.con (.int 1))) none], .ifs [] (.cmp .eq (.ix (.pk 3) (.con (.int 0))) (.con (.str "do"))) [.ret [] (.ix (.pk 3) (.con (.int 2)))] [], .ifs [1] (.or (.cmp .eq (.ix (.pk 3) (.con (.int 0))) (.con (.str "abort"))) (.and (.cmp .eq (.ix (.pk 3) (.con (.int 0))) (.con (.str "assert"))) (.not (.call x.f_law_has [.ix (.pk 3) (.con (.int 1)), .var 1])))) [.ret [] (.con (.str "stops"))] [], .ifs [] (.cmp .eq (.ix (.pk 3) (.con (.int 0))) (.con (.str "if"))) [.asg [1] 0 (.bin .add (.ifx (.call x.f_law_has [.ix (.pk 3) (.con (.int 1)), .var 1]) (.ix (.pk 3) (.con (.int 2))) (.ix (.pk 3) (.con (.int 3)))) (.pk 0))] [], .ifs [1] (.and (.cmp .eq (.ix (.pk 3) (.con (.int 0))) (.con (.str "while"))) (.call x.f_law_has [.ix (.pk 3) (.con (.int 1)), .var 1])) [.ifs [3, 0] (.cmp .inn (.tup [.var 3, .var 0]) (.pk 2)) [.ret [] (.con (.str "stops"))] [], .app [3, 0] 2 (.tup [.var 3, .var 0]), .asg [3] 0 (.bin .add (.bin .add (.ix (.pk 3) (.con (.int 2))) (.tup [.var 3])) (.pk 0))] []], .ret [] (.con (.str "ends"))]⟩
def cc_law_walks (x : Ix) : TW.Fn := ⟨1, 6, [.asg [] 1 (.mkr (.lst [])), .asg [0, 1] 2 (.call x.f_law_labelled [.var 0, .mkr (.var 1)]), .asg [2, 2] 3 (.call x.f_law_rests [.var 2, .tup [], .mkr (.dct false [.con (.int 0), .var 2])]), .ret [5, 4] (.tup [.lc [5] (.lc [4] (.call x.f_law_going [.ix (.pk 3) (.var 5), .var 4]) (.nm 4) (.rng1 (.con (.int 8))) none) (.nm 5) (.rng1 (.bin .add (.blt .len (.pk 1)) (.con (.int 1)))) none, .bin .add (.lst [.neg (.con (.int 1))]) (.pk 1)])]⟩
def cc_law_set_of (x : Ix) : TW.Fn := ⟨1, 2, [.ret [1] (.blt .sum (.lc [1] (.ix (.lst [.con (.int 1), .con (.int 2), .con (.int 4), .con (.int 8), .con (.int 16), .con (.int 32), .con (.int 64), .con (.int 128)]) (.var 1)) (.nm 1) (.seq (.blt .sorSet (.pk 0))) none))]⟩
def cc_law_ends (x : Ix) : TW.Fn := ⟨3, 12, [.unp [0] [3, 4] (.call x.f_law_walks [.var 0]), .par [2] [5, 6, 7] [.dct true [], .lst [.tup [.con (.int 0), .var 2]], .lst []], .whl (.cmp .ne (.pk 6) (.lst [])) [.popA 8 6, .ifs [] (.cmp .inn (.pk 8) (.pk 5)) [.cont] [], .seti [8] 5 (.var 8) (.con (.bl true)), .asg [] 9 (.ix (.ix (.pk 3) (.ix (.pk 8) (.con (.int 0)))) (.ix (.pk 8) (.con (.int 1)))), .ifs [] (.cmp .eq (.pk 9) (.con (.str "ends"))) [.app [] 7 (.ix (.pk 8) (.con (.int 1)))] [.ifs [] (.cmp .ne (.pk 9) (.con (.str "stops"))) [.asg [11, 1, 9, 11] 10 (.lc [11] (.var 11) (.nm 11) (.rng1 (.con (.int 8))) (some (.call x.f_law_leads [.var 1, .ix (.pk 4) (.var 9), .ix (.pk 8) (.con (.int 1)), .var 11]))), .asg [9, 11] 6 (.bin .add (.pk 6) (.lc [11] (.tup [.var 9, .var 11]) (.nm 11) (.seq (.pk 10)) none))] []]], .ret [7] (.call x.f_law_set_of [.var 7])]⟩
def cc_law_table (x : Ix) : TW.Fn := ⟨2, 3, [.ret [0, 1, 2] (.blt .tupleOf (.lc [2] (.call x.f_law_ends [.var 0, .var 1, .var 2]) (.nm 2) (.rng1 (.con (.int 8))) none))]⟩
def cc_need_whole (x : Ix) : TW.Fn := ⟨3, 3, [.ifs [0, 1, 2] (.not (.call x.f_is_whole [.var 0, .var 1, .var 2])) [.dead] []]⟩
def cc_need_set (x : Ix) : TW.Fn := ⟨1, 1, [.expr [0] (.call x.f_need_whole [.var 0, .con (.int 0), .con (.int 255)])]⟩
def cc_is_within (x : Ix) : TW.Fn := ⟨2, 2, [.ret [] (.cmp .eq (.bin .band (.pk 0) (.bin .sub (.con (.int 255)) (.pk 1))) (.con (.int 0)))]⟩
def cc_leads_by (x : Ix) : TW.Fn := ⟨4, 4, [.ret [0, 1, 2, 3] (.call x.f_is_within [.call x.f_united [.call x.f_table_by [.var 0, .var 1], .var 2], .var 3])]⟩
def cc_need_all (x : Ix) : TW.Fn := ⟨4, 4, [.expr [0, 1] (.call x.f_need_both [.var 0, .var 1]), .expr [2] (.call x.f_need_set [.var 2]), .expr [3] (.call x.f_need_set [.var 3])]⟩
def cc_strongest (x : Ix) : TW.Fn := ⟨3, 3, [.expr [0, 1] (.call x.f_need_both [.var 0, .var 1]), .expr [2] (.call x.f_need_set [.var 2]), .ret [0, 1, 2] (.call x.f_united [.call x.f_table_by [.var 0, .var 1], .var 2])]⟩
def cc_weakest (x : Ix) : TW.Fn := ⟨3, 5, [.expr [0, 1] (.call x.f_need_both [.var 0, .var 1]), .expr [2] (.call x.f_need_set [.var 2]), .asg [0, 1] 3 (.call x.f_table_by [.var 0, .var 1]), .ret [4, 2] (.blt .sum (.lc [4] (.bin .shl (.con (.int 1)) (.pk 4)) (.nm 4) (.rng1 (.con (.int 8))) (some (.call x.f_is_within [.ix (.pk 3) (.var 4), .var 2]))))]⟩
def cc_does_lead (x : Ix) : TW.Fn := ⟨4, 4, [.expr [0, 1, 2, 3] (.call x.f_need_all [.var 0, .var 1, .var 2, .var 3]), .ret [0, 1, 2, 3] (.call x.f_leads_by [.var 0, .var 1, .var 2, .var 3])]⟩
def cc_law_members (x : Ix) : TW.Fn := ⟨1, 2, [.ret [1, 0, 1] (.lc [1] (.var 1) (.nm 1) (.rng1 (.con (.int 8))) (some (.call x.f_law_has [.var 0, .var 1])))]⟩
def cc_law_within (x : Ix) : TW.Fn := ⟨2, 3, [.ret [2, 0, 1, 2] (.cmp .eq (.lc [2] (.var 2) (.nm 2) (.seq (.call x.f_law_members [.var 0])) (some (.not (.call x.f_law_has [.var 1, .var 2])))) (.lst []))]⟩
def cc_law_union (x : Ix) : TW.Fn := ⟨2, 4, [.asg [] 2 (.lst []), .for_ [1] (.nm 3) (.seq (.call x.f_law_members [.var 1])) [.asg [3] 2 (.bin .add (.pk 2) (.call x.f_law_members [.ix (.pk 0) (.var 3)]))], .ret [2] (.call x.f_law_set_of [.var 2])]⟩
def cc_fits_chain (x : Ix) : TW.Fn := ⟨1, 3, [.ifs [0] (.or (.not (.call x.f_is_tuple_of [.var 0, .con (.int 1), .con (.int 17)])) (.cmp .eq (.bin .mod (.blt .len (.pk 0)) (.con (.int 2))) (.con (.int 0)))) [.ret [] (.con (.bl false))] [], .ret [2, 2] (.blt .all (.lc [1, 2] (.ifx (.cmp .eq (.bin .mod (.pk 1) (.con (.int 2))) (.con (.int 0))) (.call x.f_is_whole [.var 2, .con (.int 0), .con (.int 255)]) (.call x.f_fits_plain [.var 2])) (.tp [1, 2]) (.enum (.pk 0)) none))]⟩
def cc_takes_chain (x : Ix) : TW.Fn := ⟨2, 3, [.expr [0] (.call x.f_need_hypotheses [.var 0]), .ifs [1] (.not (.call x.f_fits_chain [.var 1])) [.ret [] (.con (.bl false))] [], .ret [2, 0] (.blt .all (.lc [2] (.call x.f_leads_by [.ix (.pk 1) (.var 2), .var 0, .ix (.pk 1) (.bin .sub (.pk 2) (.con (.int 1))), .ix (.pk 1) (.bin .add (.pk 2) (.con (.int 1)))]) (.nm 2) (.rng3 (.con (.int 1)) (.blt .len (.pk 1)) (.con (.int 2))) none))]⟩
def cc_joined (x : Ix) : TW.Fn := ⟨2, 3, [.expr [0] (.call x.f_need_plain [.var 0]), .expr [1] (.call x.f_need_plain [.var 1]), .asg [] 2 (.bin .add (.pk 0) (.pk 1)), .ifs [2] (.cmp .gt (.blt .len (.call x.f_actions_in [.var 2])) (.con (.int 24))) [.dead] [], .ifs [2] (.cmp .gt (.blt .len (.call x.f_steps_in [.var 2])) (.con (.int 200))) [.dead] [], .retv 2]⟩
def cc_laid (x : Ix) : TW.Fn := ⟨3, 9, [.asg [] 3 (.lst []), .for_ [0] (.tp [4, 5]) (.enum (.var 0)) [.asg [] 6 (.bin .add (.pk 1) (.blt .len (.pk 3))), .asg [5, 2] 7 (.ifx (.cmp .lt (.pk 4) (.bin .sub (.blt .len (.pk 0)) (.con (.int 1)))) (.bin .add (.pk 6) (.blt .len (.call x.f_steps_in [.tup [.var 5]]))) (.var 2)), .ifs [] (.cmp .eq (.ix (.pk 5) (.con (.int 0))) (.con (.str "if"))) [.asg [7] 8 (.call x.f_laid [.ix (.pk 5) (.con (.int 2)), .bin .add (.pk 6) (.con (.int 1)), .var 7]), .app [7] 3 (.tup [.con (.str "if"), .ix (.pk 5) (.con (.int 1)), .bin .add (.pk 6) (.con (.int 1)), .bin .add (.bin .add (.pk 6) (.con (.int 1))) (.blt .len (.pk 8)), .var 7]), .asg [7] 3 (.bin .add (.bin .add (.pk 3) (.pk 8)) (.call x.f_laid [.ix (.pk 5) (.con (.int 3)), .bin .add (.bin .add (.pk 6) (.con (.int 1))) (.blt .len (.pk 8)), .var 7]))] [.ifs [] (.cmp .eq (.ix (.pk 5) (.con (.int 0))) (.con (.str "while"))) [.app [7] 3 (.tup [.con (.str "while"), .ix (.pk 5) (.con (.int 1)), .bin .add (.pk 6) (.con (.int 1)), .con (.int (-1)), .var 7]), .asg [] 3 (.bin .add (.pk 3) (.call x.f_laid [.ix (.pk 5) (.con (.int 2)), .bin .add (.pk 6) (.con (.int 1)), .bin .sub (.con (.int (-2))) (.pk 6)]))] [.app [7] 3 (.tup [.ix (.pk 5) (.con (.int 0)), .ifx (.cmp .gt (.blt .len (.pk 5)) (.con (.int 1))) (.ix (.pk 5) (.con (.int 1))) (.con (.int 0)), .con (.int (-1)), .con (.int (-1)), .var 7])]]], .retv 3]⟩
def cc_rows_of (x : Ix) : TW.Fn := ⟨1, 1, [.ret [0] (.call x.f_laid [.var 0, .con (.int 0), .con (.int (-1))])]⟩
def cc_next_point (x : Ix) : TW.Fn := ⟨2, 7, [.unp [0] [2, 3, 4, 5, 6] (.var 0), .ifs [3, 1] (.and (.cmp .inn (.pk 2) (.tup [.con (.str "if"), .con (.str "while")])) (.call x.f_has [.var 3, .var 1])) [.retv 4] [], .ret [5, 6] (.ifx (.cmp .eq (.pk 2) (.con (.str "if"))) (.var 5) (.var 6))]⟩
def cc_gone (x : Ix) : TW.Fn := ⟨3, 8, [.par [] [3, 4] [.dct false [], .lst []], .whl (.and (.cmp .ne (.pk 1) (.con (.int (-1)))) (.cmp .nin (.pk 1) (.pk 3))) [.seti [1] 3 (.var 1) (.con (.bl true)), .asg [1] 5 (.ifx (.cmp .ge (.pk 1) (.con (.int 0))) (.var 1) (.bin .sub (.con (.int (-2))) (.pk 1))), .asg [5, 4] 4 (.ifx (.cmp .ge (.pk 1) (.con (.int 0))) (.bin .add (.pk 4) (.lst [.var 5])) (.var 4)), .unp [5] [6, 7] (.sl (.ix (.pk 0) (.var 5)) none (some (.con (.int 2)))), .ifs [] (.cmp .eq (.pk 6) (.con (.str "do"))) [.ret [5, 4] (.tup [.var 5, .var 4])] [], .ifs [7, 2] (.or (.cmp .eq (.pk 6) (.con (.str "abort"))) (.and (.cmp .eq (.pk 6) (.con (.str "assert"))) (.not (.call x.f_has [.var 7, .var 2])))) [.ret [4] (.tup [.con (.int (-1)), .var 4])] [], .asg [5, 2] 1 (.call x.f_next_point [.ix (.pk 0) (.var 5), .var 2])], .ret [4] (.tup [.ifx (.cmp .eq (.pk 1) (.con (.int (-1)))) (.con (.int (-2))) (.con (.int (-1))), .var 4])]⟩
def cc_points_of (x : Ix) : TW.Fn := ⟨1, 2, [.ret [] (.bin .add (.lst [.con (.int 0)]) (.lc [1] (.ix (.pk 1) (.con (.int 4))) (.nm 1) (.seq (.pk 0)) (some (.cmp .eq (.ix (.pk 1) (.con (.int 0))) (.con (.str "do"))))))]⟩
def cc_go_from (x : Ix) : TW.Fn := ⟨3, 6, [.unp [0, 1, 2] [3, 4] (.call x.f_gone [.var 0, .var 1, .var 2]), .ret [3] (.tup [.ifx (.cmp .ge (.pk 3) (.con (.int 0))) (.blt .len (.lc [5] (.con (.int 1)) (.nm 5) (.seq (.sl (.pk 0) none (some (.bin .add (.pk 3) (.con (.int 1)))))) (some (.cmp .eq (.ix (.pk 5) (.con (.int 0))) (.con (.str "do")))))) (.var 3), .blt .tupleOf (.pk 4)])]⟩
def cc_goes_in (x : Ix) : TW.Fn := ⟨1, 4, [.asg [0] 1 (.call x.f_rows_of [.var 0]), .ret [1, 3, 2, 1] (.lc [3] (.lc [2] (.call x.f_go_from [.var 1, .var 3, .var 2]) (.nm 2) (.rng1 (.con (.int 8))) none) (.nm 3) (.seq (.call x.f_points_of [.var 1])) none)]⟩
def cc_goings_in (x : Ix) : TW.Fn := ⟨1, 4, [.ret [1, 0] (.blt .tupleOf (.lc [3] (.blt .tupleOf (.lc [1, 2] (.var 1) (.tp [1, 2]) (.seq (.pk 3)) none)) (.nm 3) (.seq (.call x.f_goes_in [.var 0])) none))]⟩
def cc_actions_in_places (x : Ix) : TW.Fn := ⟨1, 2, [.ret [0] (.bin .add (.tup [.neg (.con (.int 1))]) (.blt .tupleOf (.lc [1] (.ix (.pk 1) (.con (.int 1))) (.nm 1) (.seq (.call x.f_steps_in [.var 0])) (some (.cmp .eq (.ix (.pk 1) (.con (.int 0))) (.con (.str "do")))))))]⟩
def cc_pushed (x : Ix) : TW.Fn := ⟨3, 3, [.ret [1, 1] (.bin .add (.bin .add (.sl (.pk 0) none (some (.var 1))) (.tup [.bin .bor (.ix (.pk 0) (.var 1)) (.pk 2)])) (.sl (.pk 0) (some (.bin .add (.pk 1) (.con (.int 1)))) none))]⟩
def cc_least_sets (x : Ix) : TW.Fn := ⟨3, 10, [.par [0, 0] [3, 4] [.call x.f_goings_in [.var 0], .call x.f_actions_in_places [.var 0]], .asg [2] 5 (.call x.f_pushed [.bin .mul (.tup [.con (.int 0)]) (.blt .len (.pk 3)), .con (.int 0), .var 2]), .whl (.con (.bl true)) [.asg [5] 6 (.var 5), .for_ [] (.nm 7) (.rng1 (.blt .len (.pk 3))) [.for_ [7] (.nm 8) (.seq (.call x.f_members [.ix (.pk 5) (.var 7)])) [.asg [7, 8] 9 (.ix (.ix (.pk 3) (.var 7)) (.var 8)), .ifs [] (.cmp .gt (.pk 9) (.con (.int 0))) [.asg [6, 9, 1, 9] 6 (.call x.f_pushed [.var 6, .var 9, .call x.f_image [.var 1, .ix (.pk 4) (.var 9), .bin .shl (.con (.int 1)) (.pk 8)]])] []]], .ifs [] (.cmp .eq (.pk 6) (.pk 5)) [.retv 5] [], .asg [6] 5 (.var 6)]]⟩
def cc_are_closed (x : Ix) : TW.Fn := ⟨4, 10, [.par [0, 0] [4, 5] [.call x.f_goings_in [.var 0], .call x.f_actions_in_places [.var 0]], .for_ [3] (.tp [6, 7]) (.enum (.var 3)) [.for_ [7] (.nm 8) (.seq (.call x.f_members [.var 7])) [.asg [6, 8] 9 (.ix (.ix (.pk 4) (.var 6)) (.var 8)), .ifs [2, 8] (.and (.cmp .eq (.pk 9) (.con (.int (-2)))) (.not (.call x.f_has [.var 2, .var 8]))) [.ret [] (.con (.bl false))] [], .ifs [1, 9, 9] (.and (.cmp .gt (.pk 9) (.con (.int 0))) (.not (.call x.f_is_within [.call x.f_image [.var 1, .ix (.pk 5) (.var 9), .bin .shl (.con (.int 1)) (.pk 8)], .ix (.pk 3) (.var 9)]))) [.ret [] (.con (.bl false))] []]], .ret [] (.con (.bl true))]⟩
def cc_fits_sets (x : Ix) : TW.Fn := ⟨3, 5, [.asg [0] 3 (.blt .len (.call x.f_goings_in [.var 0])), .ifs [2, 3, 3, 4] (.or (.not (.call x.f_is_tuple_of [.var 2, .var 3, .var 3])) (.not (.blt .all (.lc [4] (.call x.f_is_whole [.var 4, .con (.int 0), .con (.int 255)]) (.nm 4) (.seq (.pk 2)) none)))) [.ret [] (.con (.bl false))] [], .ret [1] (.call x.f_is_within [.var 1, .ix (.pk 2) (.con (.int 0))])]⟩
def cc_place_sets (x : Ix) : TW.Fn := ⟨4, 5, [.expr [0, 1, 2, 3] (.call x.f_need_all [.var 0, .var 1, .var 2, .var 3]), .asg [0, 1, 2] 4 (.call x.f_least_sets [.var 0, .var 1, .var 2]), .ret [0, 1, 3, 4, 4] (.ifx (.call x.f_are_closed [.var 0, .var 1, .var 3, .var 4]) (.var 4) (.con (.non)))]⟩
def cc_takes_places (x : Ix) : TW.Fn := ⟨5, 5, [.expr [0, 1, 2, 3] (.call x.f_need_all [.var 0, .var 1, .var 2, .var 3]), .ret [0, 2, 4, 0, 1, 3, 4] (.and (.call x.f_fits_sets [.var 0, .var 2, .var 4]) (.call x.f_are_closed [.var 0, .var 1, .var 3, .var 4]))]⟩
def cc_law_image (x : Ix) : TW.Fn := ⟨3, 6, [.asg [] 3 (.lst []), .for_ [2] (.nm 4) (.seq (.call x.f_law_members [.var 2])) [.asg [5, 0, 1, 4, 5] 3 (.bin .add (.pk 3) (.lc [5] (.var 5) (.nm 5) (.rng1 (.con (.int 8))) (some (.call x.f_law_leads [.var 0, .var 1, .var 4, .var 5]))))], .ret [3] (.call x.f_law_set_of [.var 3])]⟩
def cc_law_closed (x : Ix) : TW.Fn := ⟨5, 11, [.unp [0] [5, 6] (.call x.f_law_walks [.var 0]), .ifs [2] (.or (.cmp .ne (.blt .len (.pk 4)) (.blt .len (.pk 5))) (.not (.call x.f_law_within [.var 2, .ix (.pk 4) (.con (.int 0))]))) [.ret [] (.con (.bl false))] [], .for_ [4] (.tp [7, 8]) (.enum (.var 4)) [.for_ [8] (.nm 9) (.seq (.call x.f_law_members [.var 8])) [.asg [7, 9] 10 (.ix (.ix (.pk 5) (.var 7)) (.var 9)), .ifs [3, 9] (.and (.cmp .eq (.pk 10) (.con (.str "ends"))) (.not (.call x.f_law_has [.var 3, .var 9]))) [.ret [] (.con (.bl false))] [], .ifs [] (.cmp .nin (.pk 10) (.tup [.con (.str "ends"), .con (.str "stops")])) [.ifs [1, 10, 9, 10] (.not (.call x.f_law_within [.call x.f_law_image [.var 1, .ix (.pk 6) (.var 10), .call x.f_law_set_of [.lst [.var 9]]], .ix (.pk 4) (.var 10)])) [.ret [] (.con (.bl false))] []] []]], .ret [] (.con (.bl true))]⟩
end Tw

set_option Elab.async false
set_option linter.all false
set_option maxRecDepth 100000
set_option maxHeartbeats 4000000
/-! TwB: what the library's defs compute. -/
namespace Tw
open PySem L2 TW
theorem rngT_nat (n : Nat) : rngT 0 (n : Int) = (List.range n).map fun i : Nat => T.int (i : Int) := by
  unfold rngT
  simp
def nT (i : Nat) : T := .int (i : Int)
theorem rng8 : rngT 0 8 = (List.range 8).map nT := rngT_nat 8
/-! ### the words -/
@[simp] theorem lay_do : (PyData.str ("do" : Str)).canLay0 = true := by decide +kernel
@[simp] theorem lay_skip : (PyData.str ("skip" : Str)).canLay0 = true := by decide +kernel
@[simp] theorem lay_abort : (PyData.str ("abort" : Str)).canLay0 = true := by decide +kernel
@[simp] theorem lay_assert : (PyData.str ("assert" : Str)).canLay0 = true := by decide +kernel
@[simp] theorem lay_if : (PyData.str ("if" : Str)).canLay0 = true := by decide +kernel
@[simp] theorem lay_while : (PyData.str ("while" : Str)).canLay0 = true := by decide +kernel
@[simp] theorem lay_call : (PyData.str ("call" : Str)).canLay0 = true := by decide +kernel
@[simp] theorem lay_keep : (PyData.str ("keep" : Str)).canLay0 = true := by decide +kernel
@[simp] theorem lay_forbid : (PyData.str ("forbid" : Str)).canLay0 = true := by decide +kernel
@[simp] theorem lay_ends : (PyData.str ("ends" : Str)).canLay0 = true := by decide +kernel
@[simp] theorem lay_stops : (PyData.str ("stops" : Str)).canLay0 = true := by decide +kernel
@[simp] theorem ne_do_skip : (("do" : Str) = ("skip" : Str)) = False := eq_false (by decide +kernel)
@[simp] theorem ne_do_abort : (("do" : Str) = ("abort" : Str)) = False := eq_false (by decide +kernel)
@[simp] theorem ne_do_assert : (("do" : Str) = ("assert" : Str)) = False := eq_false (by decide +kernel)
@[simp] theorem ne_do_if : (("do" : Str) = ("if" : Str)) = False := eq_false (by decide +kernel)
@[simp] theorem ne_do_while : (("do" : Str) = ("while" : Str)) = False := eq_false (by decide +kernel)
@[simp] theorem ne_do_call : (("do" : Str) = ("call" : Str)) = False := eq_false (by decide +kernel)
@[simp] theorem ne_do_keep : (("do" : Str) = ("keep" : Str)) = False := eq_false (by decide +kernel)
@[simp] theorem ne_do_forbid : (("do" : Str) = ("forbid" : Str)) = False := eq_false (by decide +kernel)
@[simp] theorem ne_do_ends : (("do" : Str) = ("ends" : Str)) = False := eq_false (by decide +kernel)
@[simp] theorem ne_do_stops : (("do" : Str) = ("stops" : Str)) = False := eq_false (by decide +kernel)
@[simp] theorem ne_skip_do : (("skip" : Str) = ("do" : Str)) = False := eq_false (by decide +kernel)
@[simp] theorem ne_skip_abort : (("skip" : Str) = ("abort" : Str)) = False := eq_false (by decide +kernel)
@[simp] theorem ne_skip_assert : (("skip" : Str) = ("assert" : Str)) = False := eq_false (by decide +kernel)
@[simp] theorem ne_skip_if : (("skip" : Str) = ("if" : Str)) = False := eq_false (by decide +kernel)
@[simp] theorem ne_skip_while : (("skip" : Str) = ("while" : Str)) = False := eq_false (by decide +kernel)
@[simp] theorem ne_skip_call : (("skip" : Str) = ("call" : Str)) = False := eq_false (by decide +kernel)
@[simp] theorem ne_skip_keep : (("skip" : Str) = ("keep" : Str)) = False := eq_false (by decide +kernel)
@[simp] theorem ne_skip_forbid : (("skip" : Str) = ("forbid" : Str)) = False := eq_false (by decide +kernel)
@[simp] theorem ne_skip_ends : (("skip" : Str) = ("ends" : Str)) = False := eq_false (by decide +kernel)
@[simp] theorem ne_skip_stops : (("skip" : Str) = ("stops" : Str)) = False := eq_false (by decide +kernel)
@[simp] theorem ne_abort_do : (("abort" : Str) = ("do" : Str)) = False := eq_false (by decide +kernel)
@[simp] theorem ne_abort_skip : (("abort" : Str) = ("skip" : Str)) = False := eq_false (by decide +kernel)
@[simp] theorem ne_abort_assert : (("abort" : Str) = ("assert" : Str)) = False := eq_false (by decide +kernel)
@[simp] theorem ne_abort_if : (("abort" : Str) = ("if" : Str)) = False := eq_false (by decide +kernel)
@[simp] theorem ne_abort_while : (("abort" : Str) = ("while" : Str)) = False := eq_false (by decide +kernel)
@[simp] theorem ne_abort_call : (("abort" : Str) = ("call" : Str)) = False := eq_false (by decide +kernel)
@[simp] theorem ne_abort_keep : (("abort" : Str) = ("keep" : Str)) = False := eq_false (by decide +kernel)
@[simp] theorem ne_abort_forbid : (("abort" : Str) = ("forbid" : Str)) = False := eq_false (by decide +kernel)
@[simp] theorem ne_abort_ends : (("abort" : Str) = ("ends" : Str)) = False := eq_false (by decide +kernel)
@[simp] theorem ne_abort_stops : (("abort" : Str) = ("stops" : Str)) = False := eq_false (by decide +kernel)
@[simp] theorem ne_assert_do : (("assert" : Str) = ("do" : Str)) = False := eq_false (by decide +kernel)
@[simp] theorem ne_assert_skip : (("assert" : Str) = ("skip" : Str)) = False := eq_false (by decide +kernel)
@[simp] theorem ne_assert_abort : (("assert" : Str) = ("abort" : Str)) = False := eq_false (by decide +kernel)
@[simp] theorem ne_assert_if : (("assert" : Str) = ("if" : Str)) = False := eq_false (by decide +kernel)
@[simp] theorem ne_assert_while : (("assert" : Str) = ("while" : Str)) = False := eq_false (by decide +kernel)
@[simp] theorem ne_assert_call : (("assert" : Str) = ("call" : Str)) = False := eq_false (by decide +kernel)
@[simp] theorem ne_assert_keep : (("assert" : Str) = ("keep" : Str)) = False := eq_false (by decide +kernel)
@[simp] theorem ne_assert_forbid : (("assert" : Str) = ("forbid" : Str)) = False := eq_false (by decide +kernel)
@[simp] theorem ne_assert_ends : (("assert" : Str) = ("ends" : Str)) = False := eq_false (by decide +kernel)
@[simp] theorem ne_assert_stops : (("assert" : Str) = ("stops" : Str)) = False := eq_false (by decide +kernel)
@[simp] theorem ne_if_do : (("if" : Str) = ("do" : Str)) = False := eq_false (by decide +kernel)
@[simp] theorem ne_if_skip : (("if" : Str) = ("skip" : Str)) = False := eq_false (by decide +kernel)
@[simp] theorem ne_if_abort : (("if" : Str) = ("abort" : Str)) = False := eq_false (by decide +kernel)
@[simp] theorem ne_if_assert : (("if" : Str) = ("assert" : Str)) = False := eq_false (by decide +kernel)
@[simp] theorem ne_if_while : (("if" : Str) = ("while" : Str)) = False := eq_false (by decide +kernel)
@[simp] theorem ne_if_call : (("if" : Str) = ("call" : Str)) = False := eq_false (by decide +kernel)
@[simp] theorem ne_if_keep : (("if" : Str) = ("keep" : Str)) = False := eq_false (by decide +kernel)
@[simp] theorem ne_if_forbid : (("if" : Str) = ("forbid" : Str)) = False := eq_false (by decide +kernel)
@[simp] theorem ne_if_ends : (("if" : Str) = ("ends" : Str)) = False := eq_false (by decide +kernel)
@[simp] theorem ne_if_stops : (("if" : Str) = ("stops" : Str)) = False := eq_false (by decide +kernel)
@[simp] theorem ne_while_do : (("while" : Str) = ("do" : Str)) = False := eq_false (by decide +kernel)
@[simp] theorem ne_while_skip : (("while" : Str) = ("skip" : Str)) = False := eq_false (by decide +kernel)
@[simp] theorem ne_while_abort : (("while" : Str) = ("abort" : Str)) = False := eq_false (by decide +kernel)
@[simp] theorem ne_while_assert : (("while" : Str) = ("assert" : Str)) = False := eq_false (by decide +kernel)
@[simp] theorem ne_while_if : (("while" : Str) = ("if" : Str)) = False := eq_false (by decide +kernel)
@[simp] theorem ne_while_call : (("while" : Str) = ("call" : Str)) = False := eq_false (by decide +kernel)
@[simp] theorem ne_while_keep : (("while" : Str) = ("keep" : Str)) = False := eq_false (by decide +kernel)
@[simp] theorem ne_while_forbid : (("while" : Str) = ("forbid" : Str)) = False := eq_false (by decide +kernel)
@[simp] theorem ne_while_ends : (("while" : Str) = ("ends" : Str)) = False := eq_false (by decide +kernel)
@[simp] theorem ne_while_stops : (("while" : Str) = ("stops" : Str)) = False := eq_false (by decide +kernel)
@[simp] theorem ne_call_do : (("call" : Str) = ("do" : Str)) = False := eq_false (by decide +kernel)
@[simp] theorem ne_call_skip : (("call" : Str) = ("skip" : Str)) = False := eq_false (by decide +kernel)
@[simp] theorem ne_call_abort : (("call" : Str) = ("abort" : Str)) = False := eq_false (by decide +kernel)
@[simp] theorem ne_call_assert : (("call" : Str) = ("assert" : Str)) = False := eq_false (by decide +kernel)
@[simp] theorem ne_call_if : (("call" : Str) = ("if" : Str)) = False := eq_false (by decide +kernel)
@[simp] theorem ne_call_while : (("call" : Str) = ("while" : Str)) = False := eq_false (by decide +kernel)
@[simp] theorem ne_call_keep : (("call" : Str) = ("keep" : Str)) = False := eq_false (by decide +kernel)
@[simp] theorem ne_call_forbid : (("call" : Str) = ("forbid" : Str)) = False := eq_false (by decide +kernel)
@[simp] theorem ne_call_ends : (("call" : Str) = ("ends" : Str)) = False := eq_false (by decide +kernel)
@[simp] theorem ne_call_stops : (("call" : Str) = ("stops" : Str)) = False := eq_false (by decide +kernel)
@[simp] theorem ne_keep_do : (("keep" : Str) = ("do" : Str)) = False := eq_false (by decide +kernel)
@[simp] theorem ne_keep_skip : (("keep" : Str) = ("skip" : Str)) = False := eq_false (by decide +kernel)
@[simp] theorem ne_keep_abort : (("keep" : Str) = ("abort" : Str)) = False := eq_false (by decide +kernel)
@[simp] theorem ne_keep_assert : (("keep" : Str) = ("assert" : Str)) = False := eq_false (by decide +kernel)
@[simp] theorem ne_keep_if : (("keep" : Str) = ("if" : Str)) = False := eq_false (by decide +kernel)
@[simp] theorem ne_keep_while : (("keep" : Str) = ("while" : Str)) = False := eq_false (by decide +kernel)
@[simp] theorem ne_keep_call : (("keep" : Str) = ("call" : Str)) = False := eq_false (by decide +kernel)
@[simp] theorem ne_keep_forbid : (("keep" : Str) = ("forbid" : Str)) = False := eq_false (by decide +kernel)
@[simp] theorem ne_keep_ends : (("keep" : Str) = ("ends" : Str)) = False := eq_false (by decide +kernel)
@[simp] theorem ne_keep_stops : (("keep" : Str) = ("stops" : Str)) = False := eq_false (by decide +kernel)
@[simp] theorem ne_forbid_do : (("forbid" : Str) = ("do" : Str)) = False := eq_false (by decide +kernel)
@[simp] theorem ne_forbid_skip : (("forbid" : Str) = ("skip" : Str)) = False := eq_false (by decide +kernel)
@[simp] theorem ne_forbid_abort : (("forbid" : Str) = ("abort" : Str)) = False := eq_false (by decide +kernel)
@[simp] theorem ne_forbid_assert : (("forbid" : Str) = ("assert" : Str)) = False := eq_false (by decide +kernel)
@[simp] theorem ne_forbid_if : (("forbid" : Str) = ("if" : Str)) = False := eq_false (by decide +kernel)
@[simp] theorem ne_forbid_while : (("forbid" : Str) = ("while" : Str)) = False := eq_false (by decide +kernel)
@[simp] theorem ne_forbid_call : (("forbid" : Str) = ("call" : Str)) = False := eq_false (by decide +kernel)
@[simp] theorem ne_forbid_keep : (("forbid" : Str) = ("keep" : Str)) = False := eq_false (by decide +kernel)
@[simp] theorem ne_forbid_ends : (("forbid" : Str) = ("ends" : Str)) = False := eq_false (by decide +kernel)
@[simp] theorem ne_forbid_stops : (("forbid" : Str) = ("stops" : Str)) = False := eq_false (by decide +kernel)
@[simp] theorem ne_ends_do : (("ends" : Str) = ("do" : Str)) = False := eq_false (by decide +kernel)
@[simp] theorem ne_ends_skip : (("ends" : Str) = ("skip" : Str)) = False := eq_false (by decide +kernel)
@[simp] theorem ne_ends_abort : (("ends" : Str) = ("abort" : Str)) = False := eq_false (by decide +kernel)
@[simp] theorem ne_ends_assert : (("ends" : Str) = ("assert" : Str)) = False := eq_false (by decide +kernel)
@[simp] theorem ne_ends_if : (("ends" : Str) = ("if" : Str)) = False := eq_false (by decide +kernel)
@[simp] theorem ne_ends_while : (("ends" : Str) = ("while" : Str)) = False := eq_false (by decide +kernel)
@[simp] theorem ne_ends_call : (("ends" : Str) = ("call" : Str)) = False := eq_false (by decide +kernel)
@[simp] theorem ne_ends_keep : (("ends" : Str) = ("keep" : Str)) = False := eq_false (by decide +kernel)
@[simp] theorem ne_ends_forbid : (("ends" : Str) = ("forbid" : Str)) = False := eq_false (by decide +kernel)
@[simp] theorem ne_ends_stops : (("ends" : Str) = ("stops" : Str)) = False := eq_false (by decide +kernel)
@[simp] theorem ne_stops_do : (("stops" : Str) = ("do" : Str)) = False := eq_false (by decide +kernel)
@[simp] theorem ne_stops_skip : (("stops" : Str) = ("skip" : Str)) = False := eq_false (by decide +kernel)
@[simp] theorem ne_stops_abort : (("stops" : Str) = ("abort" : Str)) = False := eq_false (by decide +kernel)
@[simp] theorem ne_stops_assert : (("stops" : Str) = ("assert" : Str)) = False := eq_false (by decide +kernel)
@[simp] theorem ne_stops_if : (("stops" : Str) = ("if" : Str)) = False := eq_false (by decide +kernel)
@[simp] theorem ne_stops_while : (("stops" : Str) = ("while" : Str)) = False := eq_false (by decide +kernel)
@[simp] theorem ne_stops_call : (("stops" : Str) = ("call" : Str)) = False := eq_false (by decide +kernel)
@[simp] theorem ne_stops_keep : (("stops" : Str) = ("keep" : Str)) = False := eq_false (by decide +kernel)
@[simp] theorem ne_stops_forbid : (("stops" : Str) = ("forbid" : Str)) = False := eq_false (by decide +kernel)
@[simp] theorem ne_stops_ends : (("stops" : Str) = ("ends" : Str)) = False := eq_false (by decide +kernel)
/-! ### hypotheses -/
inductive Hy where
  | keep (a t : Nat) | forbid (a s1 s2 : Nat)
def Hy.t : Hy → T
  | .keep a t => .tup [.str "keep", nT a, nT t]
  | .forbid a s1 s2 => .tup [.str "forbid", nT a, nT s1, nT s2]
def Hy.ok : Hy → Prop
  | .keep a t => a < 5 ∧ t < 3
  | .forbid a s1 s2 => a < 5 ∧ s1 < 256 ∧ s2 < 256
def hT (hs : List Hy) : T := .tup (hs.map Hy.t)
/-- h forbids a from x to y -/
def forb : Hy → Nat → Nat → Nat → Bool
  | .keep a t, c, x, y => decide (a = c) && !decide (x.testBit t = y.testBit t)
  | .forbid a s1 s2, c, x, y => decide (a = c) && (s1.testBit x && s2.testBit y)
def lead (hs : List Hy) (c x y : Nat) : Bool := !hs.any fun h => forb h c x y
def mem8 (own : Nat) : List Nat := (List.range 8).filter fun a => own.testBit a
section
variable {P : Pm} {Γ : List TW.Fn} {lf n : Nat} {x : Ix} {s : Sto}
theorem is_whole_ev (h : Γ[x.f_is_whole]? = some (cc_is_whole x)) (v lo hi : Int) : run P Γ lf (n + 1) x.f_is_whole [.int v, .int lo, .int hi] s = .ok (.val (.bl (decide (lo ≤ v) && decide (v ≤ hi)))) s := by
  rw [run_at h rfl]
  simp [cc_is_whole, startE_def, opd]
  by_cases h : lo ≤ v <;> simp [h]
theorem is_tuple_ev (h : Γ[x.f_is_tuple_of]? = some (cc_is_tuple_of x)) (ts : List T) (lo hi : Int) : run P Γ lf (n + 1) x.f_is_tuple_of [.tup ts, .int lo, .int hi] s = .ok (.val (.bl (decide (lo ≤ (ts.length : Int)) && decide ((ts.length : Int) ≤ hi)))) s := by
  rw [run_at h rfl]
  simp [cc_is_tuple_of, startE_def, opd]
  by_cases h : lo ≤ (ts.length : Int) <;> simp [h]
/-- a shift and a bit -/
theorem bit_int (own atom : Nat) : decide (((own >>> atom : Nat) : Int) % 2 = 1) = own.testBit atom := by
  rw [Nat.testBit_eq_decide_div_mod_eq, Nat.shiftRight_eq_div_pow]
  congr 1
  apply propext
  omega
theorem shr_bit (own atom : Nat) : intOp .band ((own >>> atom : Nat) : Int) (1 : Int) = some (((own >>> atom) &&& 1 : Nat) : Int) := intOp_band _ 1
theorem has_ev (h : Γ[x.f_has]? = some (cc_has x)) (own atom : Nat) : run P Γ lf (n + 1) x.f_has [.int own, .int atom] s = .ok (.val (.bl (own.testBit atom))) s := by
  rw [run_at h rfl]
  simp [cc_has, startE_def, opd, nT, intOp_shr, shr_bit, bit_int, -Int.natCast_shiftRight]
theorem members_ev (h : Γ[x.f_has]? = some (cc_has x)) (h2 : Γ[x.f_members]? = some (cc_members x)) (own : Nat) : run P Γ lf (n + 2) x.f_members [.int own] s = .ok (.own (.lst ((mem8 own).map nT))) s := by
  rw [run_at h2 rfl]
  simp [cc_members, startE_def, rng8, small62]
  rw [lcGo_filter (p := fun a => own.testBit a) (h := nT) (fun a ha => by simp [nT, has_ev h]) (by simp)]
  simp [mem8]
/-- == of the words -/
theorem eqO_kw (st : Sto) {a b : Str} (ha : (PyData.str a).canLay0 = true) (hb : (PyData.str b).canLay0 = true) : eqO st (.str a) (.str b) = some (decide (a = b)) := eqO_str st ha hb
theorem intOp_shl1 (b : Nat) (hb : b ≤ 1000000) : intOp .shl 1 (b : Int) = some ((1 <<< b : Nat) : Int) := by
  show (if (decide (0 ≤ (b : Int)) && decide ((b : Int) ≤ 1000000) && pw64 1) = true then some ((1 : Int) * 2 ^ (b : Int).toNat) else none) = _
  rw [if_pos (by simp [pw64]; omega), Nat.shiftLeft_eq]
  simp
theorem bit_eq (a b t : Nat) : ((a >>> t : Nat) : Int) % 2 = ((b >>> t : Nat) : Int) % 2 ↔ a.testBit t = b.testBit t := by
  rw [← bit_int, ← bit_int]
  constructor
  · intro h; rw [h]
  · intro h
    have h := decide_eq_decide.mp h
    omega
theorem does_forbid_ev (h : Γ[x.f_has]? = some (cc_has x)) (h2 : Γ[x.f_does_forbid]? = some (cc_does_forbid x)) (hy : Hy) (c a b : Nat) : run P Γ lf (n + 2) x.f_does_forbid [hy.t, .int c, .int a, .int b] s = .ok (.val (.bl (forb hy c a b))) s := by
  rw [run_at h2 rfl]
  cases hy with
  | keep ac t =>
    by_cases h3 : ac = c
    · subst h3
      simp [cc_does_forbid, startE_def, Hy.t, opd, nT, eqO_kw, intOp_shr, shr_bit, forb, -Int.natCast_shiftRight]
      exact bit_eq a b t
    · simp [cc_does_forbid, startE_def, Hy.t, opd, nT, eqO_kw, intOp_shr, shr_bit, forb, h3, Int.natCast_inj, -Int.natCast_shiftRight]
  | forbid ac s1 s2 =>
    by_cases h3 : ac = c
    · subst h3
      simp [cc_does_forbid, startE_def, Hy.t, opd, nT, eqO_kw, forb, has_ev h]
      cases s1.testBit a <;> simp
    · simp [cc_does_forbid, startE_def, Hy.t, opd, nT, eqO_kw, forb, has_ev h, h3, Int.natCast_inj]
/-- the first group -/
structure LibA (Γ : List TW.Fn) (x : Ix) : Prop where
  is_whole : Γ[x.f_is_whole]? = some (cc_is_whole x)
  is_tuple_of : Γ[x.f_is_tuple_of]? = some (cc_is_tuple_of x)
  has : Γ[x.f_has]? = some (cc_has x)
  members : Γ[x.f_members]? = some (cc_members x)
  does_forbid : Γ[x.f_does_forbid]? = some (cc_does_forbid x)
  leads : Γ[x.f_leads]? = some (cc_leads x)
  image : Γ[x.f_image]? = some (cc_image x)
variable (A : LibA Γ x)
include A
theorem leads_ev (hs : List Hy) (hl : hs.length ≤ 100) (c a b : Nat) : run P Γ lf (n + 3) x.f_leads [hT hs, .int c, .int a, .int b] s = .ok (.val (.bl (lead hs c a b))) s := by
  rw [run_at A.leads rfl]
  simp [cc_leads, startE_def, hT, opd]
  rw [lcGo_map (h := fun h => T.bl (forb h c a b)) (fun h hh => by simp [does_forbid_ev A.has A.does_forbid]) (by simp; omega)]
  simp [b_any, lead]
/-- bits by a test -/
def maskOf (f : Nat → Bool) (l : List Nat) (acc : Nat) : Nat := l.foldl (fun acc b => if f b = true then acc ||| 1 <<< b else acc) acc
omit A in
theorem maskOf_bit (f : Nat → Bool) (y : Nat) : ∀ (l : List Nat) (acc : Nat), (maskOf f l acc).testBit y = (acc.testBit y || (l.contains y && f y))
  | [], acc => by simp [maskOf]
  | b :: l, acc => by
    show (maskOf f l (if f b = true then acc ||| 1 <<< b else acc)).testBit y = _
    rw [maskOf_bit f y l]
    by_cases hb : b = y
    · subst hb
      cases hf : f b <;> simp [hf, Nat.testBit_or, Nat.testBit_shiftLeft]
    · have hy : y ≠ b := fun e => hb e.symm
      cases hf : f b
      · simp [hy]
      · have : (1 <<< b).testBit y = false := by
          rw [Nat.testBit_shiftLeft]
          by_cases h : b ≤ y
          · obtain ⟨m, hm⟩ : ∃ m, y - b = m + 1 := ⟨y - b - 1, by omega⟩
            simp [h, hm, Nat.testBit_succ]
          · simp [h]
        simp [Nat.testBit_or, this, hy]
/-- one of the atoms of own is led to b -/
def hit (hs : List Hy) (c own b : Nat) : Bool := (mem8 own).any fun a => lead hs c a b
theorem image_ev (hs : List Hy) (hl : hs.length ≤ 100) (c own : Nat) : run P Γ lf (n + 4) x.f_image [hT hs, .int c, .int own] s = .ok (.val (nT (maskOf (hit hs c own) (List.range 8) 0))) s := by
  rw [run_at A.image rfl]
  simp [cc_image, startE_def, opd, rng8, small62]
  erw [forGo_foldE (E := fun (p : Nat × Option T) => [.val (hT hs), .val (.int c), .val (.int own), .val (.int (p.1 : Nat)), sl p.2, .no]) (step := fun p b => (if hit hs c own b = true then p.1 ||| 1 <<< b else p.1, some (nT b))) (acc := (0, none)) fun b hb acc => by
      obtain ⟨acc, j⟩ := acc
      simp [members_ev A.has A.members, opd, nT]
      rw [lcGo_map (h := fun a => T.bl (lead hs c a b)) (fun a ha => by simp [nT, leads_ev A hs hl]) (by simp [mem8]; exact Nat.le_trans (List.length_filter_le _ _) (by simp))]
      simp only [R_bind_ok, frzR_ok, frz_own, frzO_lst, List.nil_append, b_any]
      rw [show ((mem8 own).any fun a => lead hs c a b) = hit hs c own b from rfl]
      have h8 : b ≤ 1000000 := by have := List.mem_range.mp hb; omega
      cases hit hs c own b with
      | false => simp [sl]
      | true => simp [sl, intOp_bor, intOp_shl1 b h8, -Int.natCast_shiftLeft]]
  simp [maskOf, nT]
  exact congrArg (fun m : Nat => (m : Int)) (foldl_fst (f := fun acc b => if hit hs c own b = true then acc ||| 1 <<< b else acc) (k := fun _ b => some (nT b)) _ _ _)
omit A in
theorem mem8_len (own : Nat) : (mem8 own).length ≤ 8 := by
  unfold mem8
  exact Nat.le_trans (List.length_filter_le _ _) (by simp)
/-- tables -/
def tbT (tb : List Nat) : T := .tup (tb.map nT)
def unite (tb : List Nat) (own : Nat) : Nat := (mem8 own).foldl (fun acc a => acc ||| tb.getD a 0) 0
def choose8 (own : Nat) (one other : List Nat) : List Nat := (List.range 8).map fun a => if own.testBit a = true then one.getD a 0 else other.getD a 0
omit A in
theorem atI_tb {tb : List Nat} {a : Nat} (h : a < tb.length) : atI (tb.map nT) (a : Int) = some (nT (tb.getD a 0)) := by
  apply atI_at
  rw [List.getElem?_map, List.getElem?_eq_getElem h, List.getD_eq_getElem?_getD, List.getElem?_eq_getElem h]
  rfl
structure LibB (Γ : List TW.Fn) (x : Ix) : Prop where
  united : Γ[x.f_united]? = some (cc_united x)
  chosen : Γ[x.f_chosen]? = some (cc_chosen x)
  rounds : Γ[x.f_rounds]? = some (cc_rounds x)
  step_table : Γ[x.f_step_table]? = some (cc_step_table x)
  table_by : Γ[x.f_table_by]? = some (cc_table_by x)
variable (B : LibB Γ x)
include B
theorem united_ev (tb : List Nat) (ht : tb.length = 8) (own : Nat) : run P Γ lf (n + 3) x.f_united [tbT tb, .int own] s = .ok (.val (nT (unite tb own))) s := by
  rw [run_at B.united rfl]
  simp [cc_united, startE_def, opd, members_ev A.has A.members]
  erw [forGo_foldE (E := fun (p : Nat × Option T) => [.val (tbT tb), .val (.int own), .val (.int (p.1 : Nat)), sl p.2]) (step := fun p a => (p.1 ||| tb.getD a 0, some (nT a))) (acc := (0, none)) fun a ha acc => by
      obtain ⟨acc, j⟩ := acc
      have h8 : a < tb.length := by have := List.mem_range.mp (List.mem_filter.mp ha).1; omega
      simp [sl, tbT, nT, atI_tb h8, intOp_bor]]
  simp [unite, nT]
  exact congrArg (fun m : Nat => (m : Int)) (foldl_fst (f := fun acc a => acc ||| tb[a]?.getD 0) (k := fun _ b => some (nT b)) _ _ _)
theorem chosen_ev (own : Nat) (one other : List Nat) (h1 : one.length = 8) (h2 : other.length = 8) : run P Γ lf (n + 2) x.f_chosen [.int own, tbT one, tbT other] s = .ok (.val (tbT (choose8 own one other))) s := by
  rw [run_at B.chosen rfl]
  simp [cc_chosen, startE_def, opd, rng8, small62]
  rw [lcGo_map (h := fun a => nT (if own.testBit a = true then one.getD a 0 else other.getD a 0)) (fun a ha => by
    have h8 : a < 8 := List.mem_range.mp ha
    simp [nT, has_ev A.has, tbT]
    cases own.testBit a <;> simp [atI_tb, h1, h2, h8, nT]) (by simp)]
  simp [choose8, tbT]
end
end Tw

set_option Elab.async false
set_option linter.all false
set_option maxRecDepth 100000
set_option maxHeartbeats 4000000
/-! TwC: programs, their tables. -/
namespace Tw
open PySem L2 TW
/-! ### the plain tables -/
def same : List Nat := [1, 2, 4, 8, 16, 32, 64, 128]
def noth : List Nat := [0, 0, 0, 0, 0, 0, 0, 0]
def bitAt (tb : List Nat) (a y : Nat) : Bool := (tb.getD a 0).testBit y
theorem mem8_iff {own a : Nat} : a ∈ mem8 own ↔ a < 8 ∧ own.testBit a = true := by
  unfold mem8
  rw [List.mem_filter, List.mem_range]
theorem unite_bit (tb : List Nat) (own y : Nat) : (unite tb own).testBit y = (mem8 own).any fun a => bitAt tb a y := by
  have : ∀ (l : List Nat) (acc : Nat), (l.foldl (fun acc a => acc ||| tb.getD a 0) acc).testBit y = (acc.testBit y || l.any fun a => bitAt tb a y) := by
    intro l
    induction l with
    | nil => intro acc; simp
    | cons b l ih =>
      intro acc
      rw [List.foldl_cons, ih, Nat.testBit_or, List.any_cons, Bool.or_assoc]
      rfl
  unfold unite
  rw [this]
  simp
theorem bitAt_map {α : Type} {f : Nat → Nat} {a y : Nat} (h : a < 8) : bitAt ((List.range 8).map f) a y = (f a).testBit y := by
  unfold bitAt
  rw [List.getD_eq_getElem?_getD, List.getElem?_map, List.getElem?_range h]
  rfl
theorem choose_bit (own : Nat) (one other : List Nat) {a : Nat} (h : a < 8) (y : Nat) : bitAt (choose8 own one other) a y = if own.testBit a = true then bitAt one a y else bitAt other a y := by
  unfold choose8
  rw [bitAt_map (α := Nat) h]
  split <;> rfl
theorem same_bit : ∀ {a : Nat}, a < 8 → ∀ y, bitAt same a y = decide (a = y) := by
  intro a h y
  have : same.getD a 0 = 2 ^ a := by
    match a, h with
    | 0, _ => rfl
    | 1, _ => rfl
    | 2, _ => rfl
    | 3, _ => rfl
    | 4, _ => rfl
    | 5, _ => rfl
    | 6, _ => rfl
    | 7, _ => rfl
  unfold bitAt
  rw [this, Nat.testBit_two_pow]
theorem noth_bit {a : Nat} (y : Nat) : bitAt noth a y = false := by
  unfold bitAt
  have : noth.getD a 0 = 0 := by
    match a with
    | 0 => rfl
    | 1 => rfl
    | 2 => rfl
    | 3 => rfl
    | 4 => rfl
    | 5 => rfl
    | 6 => rfl
    | 7 => rfl
    | n + 8 => rfl
  rw [this, Nat.zero_testBit]
/-- a table: eight sets -/
structure Tab (tb : List Nat) : Prop where
  len : tb.length = 8
  lt : ∀ a y, bitAt tb a y = true → y < 8
theorem tab_ext {t u : List Nat} (ht : Tab t) (hu : Tab u) (h : ∀ a, a < 8 → ∀ y, bitAt t a y = bitAt u a y) : t = u := by
  apply List.ext_getElem?
  intro a
  by_cases ha : a < 8
  · have e : t.getD a 0 = u.getD a 0 := Nat.eq_of_testBit_eq fun y => h a ha y
    rw [List.getElem?_eq_getElem (by rw [ht.len]; exact ha), List.getElem?_eq_getElem (by rw [hu.len]; exact ha)]
    rw [List.getD_eq_getElem?_getD, List.getD_eq_getElem?_getD, List.getElem?_eq_getElem (by rw [ht.len]; exact ha), List.getElem?_eq_getElem (by rw [hu.len]; exact ha)] at e
    exact congrArg some e
  · rw [List.getElem?_eq_none (by rw [ht.len]; omega), List.getElem?_eq_none (by rw [hu.len]; omega)]
theorem tab_same : Tab same := ⟨rfl, fun a y h => by
  by_cases ha : a < 8
  · rw [same_bit ha] at h
    have := of_decide_eq_true h
    omega
  · unfold bitAt at h
    rw [List.getD_eq_getElem?_getD, List.getElem?_eq_none (by show 8 ≤ a; omega)] at h
    simp at h⟩
theorem tab_noth : Tab noth := ⟨rfl, fun a y h => by rw [noth_bit] at h; cases h⟩
theorem bitAt_out {t : List Nat} (ht : t.length = 8) {a y : Nat} (h : bitAt t a y = true) : a < 8 := by
  by_cases ha : a < 8
  · exact ha
  · unfold bitAt at h
    rw [List.getD_eq_getElem?_getD, List.getElem?_eq_none (by omega)] at h
    simp at h
theorem tab_choose {own : Nat} {t u : List Nat} (ht : Tab t) (hu : Tab u) : Tab (choose8 own t u) := by
  refine ⟨by simp [choose8], fun a y h => ?_⟩
  have ha := bitAt_out (by simp [choose8]) h
  rw [choose_bit _ _ _ ha] at h
  split at h
  · exact ht.lt a y h
  · exact hu.lt a y h
theorem unite_lt {t : List Nat} (ht : Tab t) {own y : Nat} (h : (unite t own).testBit y = true) : y < 8 := by
  rw [unite_bit, List.any_eq_true] at h
  obtain ⟨a, _, h⟩ := h
  exact ht.lt a y h
theorem getD_map (B : List Nat) (f : Nat → Nat) (hB : B.length = 8) {a : Nat} (ha : a < 8) : (B.map f).getD a 0 = f (B.getD a 0) := by
  rw [List.getD_eq_getElem?_getD, List.getD_eq_getElem?_getD, List.getElem?_map, List.getElem?_eq_getElem (by rw [hB]; exact ha)]
  rfl
theorem tab_map {t B : List Nat} (ht : Tab t) (hB : Tab B) : Tab (B.map (unite t)) := by
  refine ⟨by simp [hB.len], fun a y h => ?_⟩
  have ha := bitAt_out (by simp [hB.len]) h
  unfold bitAt at h
  rw [getD_map B _ hB.len ha] at h
  exact unite_lt ht h
theorem mapU_bit {t B : List Nat} (hB : Tab B) {a : Nat} (ha : a < 8) (y : Nat) : bitAt (B.map (unite t)) a y = (mem8 (B.getD a 0)).any fun b => bitAt t b y := by
  unfold bitAt
  rw [getD_map B _ hB.len ha, unite_bit]
  rfl
/-! ### rounds -/
def rndF (own : Nat) (B t : List Nat) : List Nat := choose8 own (B.map (unite t)) same
def rnd0 (own : Nat) : List Nat := choose8 own noth same
def leT (t u : List Nat) : Prop := ∀ a, a < 8 → ∀ y, bitAt t a y = true → bitAt u a y = true
def cntT (t : List Nat) : Nat := (List.range 64).countP fun i => bitAt t (i / 8) (i % 8)
theorem countP_lt {p q : Nat → Bool} : ∀ (l : List Nat), (∀ i ∈ l, p i = true → q i = true) → (∃ i ∈ l, p i = false ∧ q i = true) → l.countP p < l.countP q
  | [], _, ⟨i, h, _⟩ => by cases h
  | a :: l, h, ⟨i, hi, h1, h2⟩ => by
    have hle : l.countP p ≤ l.countP q := List.countP_mono_left fun i hi => h i (List.mem_cons_of_mem _ hi)
    rw [List.countP_cons, List.countP_cons]
    rcases List.mem_cons.mp hi with rfl | hi
    · rw [h1, h2]
      simp; omega
    · have := countP_lt l (fun i hi => h i (List.mem_cons_of_mem _ hi)) ⟨i, hi, h1, h2⟩
      have ha := h a List.mem_cons_self
      cases hp : p a
      · cases q a <;> simp <;> omega
      · rw [ha hp]; simp; omega
theorem cnt_lt {t u : List Nat} (ht : Tab t) (hu : Tab u) (h : leT t u) (ne : t ≠ u) : cntT t < cntT u := by
  refine countP_lt _ (fun i hi hp => h _ (by have := List.mem_range.mp hi; omega) _ hp) ?_
  apply Classical.byContradiction
  intro hn
  apply ne
  refine tab_ext ht hu fun a ha y => ?_
  by_cases hy : y < 8
  · cases h1 : bitAt t a y with
    | true => exact (h a ha y h1).symm
    | false =>
      cases h2 : bitAt u a y with
      | false => rfl
      | true =>
        exfalso
        apply hn
        refine ⟨a * 8 + y, List.mem_range.mpr (by omega), ?_, ?_⟩
        · rw [show (a * 8 + y) / 8 = a by omega, show (a * 8 + y) % 8 = y by omega]; exact h1
        · rw [show (a * 8 + y) / 8 = a by omega, show (a * 8 + y) % 8 = y by omega]; exact h2
  · have e1 : bitAt t a y = false := Bool.eq_false_iff.mpr fun q => hy (ht.lt a y q)
    have e2 : bitAt u a y = false := Bool.eq_false_iff.mpr fun q => hy (hu.lt a y q)
    rw [e1, e2]
theorem cnt_le (t : List Nat) : cntT t ≤ 64 := by
  unfold cntT
  exact Nat.le_trans List.countP_le_length (by simp)
theorem rndF_tab {own : Nat} {B t : List Nat} (hB : Tab B) (ht : Tab t) : Tab (rndF own B t) := tab_choose (tab_map ht hB) tab_same
theorem rndF_bit {own : Nat} {B t : List Nat} (hB : Tab B) {a : Nat} (ha : a < 8) (y : Nat) : bitAt (rndF own B t) a y = if own.testBit a = true then (mem8 (B.getD a 0)).any fun b => bitAt t b y else decide (a = y) := by
  unfold rndF
  rw [choose_bit _ _ _ ha, mapU_bit hB ha, same_bit ha]
theorem rndF_mono {own : Nat} {B t u : List Nat} (hB : Tab B) (h : leT t u) : leT (rndF own B t) (rndF own B u) := by
  intro a ha y q
  rw [rndF_bit hB ha] at q ⊢
  split at q
  · rename_i hc
    rw [if_pos hc]
    rw [List.any_eq_true] at q ⊢
    obtain ⟨b, hb, q⟩ := q
    exact ⟨b, hb, h b (mem8_iff.mp hb).1 y q⟩
  · rename_i hc
    rw [if_neg hc]; exact q
theorem iter_succ' {β : Type} (f : β → β) : ∀ (n : Nat) (b : β), iter f (n + 1) b = f (iter f n b)
  | 0, _ => rfl
  | n + 1, b => iter_succ' f n (f b)
theorem rnd_chain {own : Nat} {B : List Nat} (hB : Tab B) : ∀ k, Tab (iter (rndF own B) k (rnd0 own)) ∧ leT (iter (rndF own B) k (rnd0 own)) (iter (rndF own B) (k + 1) (rnd0 own))
  | 0 => by
    refine ⟨tab_choose tab_noth tab_same, fun a ha y q => ?_⟩
    have q : bitAt (choose8 own noth same) a y = true := q
    show bitAt (rndF own B (rnd0 own)) a y = true
    rw [choose_bit _ _ _ ha] at q
    rw [rndF_bit hB ha]
    split at q
    · rw [noth_bit] at q; cases q
    · rename_i hc
      rw [if_neg hc, ← same_bit ha]; exact q
  | k + 1 => by
    obtain ⟨h1, h2⟩ := rnd_chain hB k
    rw [iter_succ' _ (k + 1), iter_succ' _ k]
    rw [iter_succ' _ k] at h2
    exact ⟨rndF_tab hB h1, rndF_mono hB h2⟩
theorem rnd_stop {own : Nat} {B : List Nat} (hB : Tab B) : ∃ k, k ≤ 64 ∧ rndF own B (iter (rndF own B) k (rnd0 own)) = iter (rndF own B) k (rnd0 own) := by
  apply Classical.byContradiction
  intro hn
  have : ∀ k, k ≤ 65 → k ≤ cntT (iter (rndF own B) k (rnd0 own)) := by
    intro k
    induction k with
    | zero => intro _; exact Nat.zero_le _
    | succ k ih =>
      intro hk
      have h1 := ih (by omega)
      obtain ⟨h2, h3⟩ := rnd_chain (own := own) hB k
      have h4 := (rnd_chain (own := own) hB (k + 1)).1
      have ne : iter (rndF own B) k (rnd0 own) ≠ iter (rndF own B) (k + 1) (rnd0 own) := fun e => hn ⟨k, by omega, (iter_succ' (rndF own B) k (rnd0 own)).symm.trans e.symm⟩
      have := cnt_lt h2 h4 h3 ne
      omega
  have h1 := this 65 (Nat.le_refl _)
  have h2 := cnt_le (iter (rndF own B) 65 (rnd0 own))
  omega
theorem iter_fix {β : Type} {f : β → β} {b : β} (h : f b = b) : ∀ n, iter f n b = b
  | 0 => rfl
  | n + 1 => by rw [iter_succ', iter_fix h n, h]
theorem iter_add {β : Type} (f : β → β) : ∀ (m n : Nat) (b : β), iter f (m + n) b = iter f m (iter f n b)
  | 0, n, b => by rw [Nat.zero_add]; rfl
  | m + 1, n, b => by
    rw [show m + 1 + n = (m + n) + 1 by omega, iter_succ', iter_add f m n b, iter_succ' f m]
/-- what rounds gives -/
def roundsF (own : Nat) (B : List Nat) : List Nat := iter (rndF own B) 64 (rnd0 own)
theorem rounds_at {own k : Nat} {B : List Nat} (hk : k ≤ 64) (h : rndF own B (iter (rndF own B) k (rnd0 own)) = iter (rndF own B) k (rnd0 own)) : iter (rndF own B) k (rnd0 own) = roundsF own B := by
  unfold roundsF
  rw [show 64 = (64 - k) + k by omega, iter_add, iter_fix h]
theorem rounds_fix {own : Nat} {B : List Nat} (hB : Tab B) : rndF own B (roundsF own B) = roundsF own B := by
  obtain ⟨k, hk, h⟩ := rnd_stop (own := own) hB
  rw [← rounds_at hk h]; exact h
theorem rounds_tab {own : Nat} {B : List Nat} (hB : Tab B) : Tab (roundsF own B) := (rnd_chain hB 64).1
/-! ### programs -/
inductive Pg where
  | skip | abort | act (a : Nat) | asr (s : Nat) | ite (s : Nat) (p q : List Pg) | whl (s : Nat) (p : List Pg)
mutual
def Pg.t : Pg → T
  | .skip => .tup [.str "skip"]
  | .abort => .tup [.str "abort"]
  | .act a => .tup [.str "do", nT a]
  | .asr s => .tup [.str "assert", nT s]
  | .ite s p q => .tup [.str "if", nT s, .tup (pgT p), .tup (pgT q)]
  | .whl s p => .tup [.str "while", nT s, .tup (pgT p)]
def pgT : List Pg → List T
  | [] => []
  | p :: ps => p.t :: pgT ps
end
theorem pgT_map : ∀ ps : List Pg, pgT ps = ps.map Pg.t
  | [] => by simp [pgT]
  | p :: ps => by simp [pgT, pgT_map ps]
mutual
def Pg.hgt : Pg → Nat
  | .skip => 0
  | .abort => 0
  | .act _ => 0
  | .asr _ => 0
  | .ite _ p q => max (hgts p) (hgts q) + 1
  | .whl _ p => hgts p + 1
def hgts : List Pg → Nat
  | [] => 0
  | p :: ps => max p.hgt (hgts ps)
end
theorem hgts_mem : ∀ {ps : List Pg} {p : Pg}, p ∈ ps → p.hgt ≤ hgts ps
  | q :: ps, p, h => by
    rw [hgts]
    rcases List.mem_cons.mp h with rfl | h
    · exact Nat.le_max_left _ _
    · exact Nat.le_trans (hgts_mem h) (Nat.le_max_right _ _)
mutual
def tabS (hs : List Hy) : Pg → List Nat
  | .skip => same
  | .abort => noth
  | .act c => (List.range 8).map fun a => maskOf (hit hs c (1 <<< a)) (List.range 8) 0
  | .asr s => choose8 s same noth
  | .ite s p q => choose8 s (tabB hs p same) (tabB hs q same)
  | .whl s p => roundsF s (tabB hs p same)
def tabB (hs : List Hy) : List Pg → List Nat → List Nat
  | [], t => t
  | p :: ps, t => tabB hs ps (t.map (unite (tabS hs p)))
end
theorem tabB_foldl (hs : List Hy) : ∀ (ps : List Pg) (t : List Nat), tabB hs ps t = ps.foldl (fun t p => t.map (unite (tabS hs p))) t
  | [], t => by simp [tabB]
  | p :: ps, t => by rw [tabB, tabB_foldl hs ps]; rfl
theorem act_tab (hs : List Hy) (c : Nat) : Tab ((List.range 8).map fun a => maskOf (hit hs c (1 <<< a)) (List.range 8) 0) := by
  refine ⟨by simp, fun a y h => ?_⟩
  have ha := bitAt_out (by simp) h
  rw [bitAt_map (α := Nat) ha, maskOf_bit] at h
  simp at h
  exact h.1
mutual
theorem tabS_tab (hs : List Hy) : ∀ p : Pg, Tab (tabS hs p)
  | .skip => by rw [tabS]; exact tab_same
  | .abort => by rw [tabS]; exact tab_noth
  | .act c => by rw [tabS]; exact act_tab hs c
  | .asr s => by rw [tabS]; exact tab_choose tab_same tab_noth
  | .ite s p q => by rw [tabS]; exact tab_choose (tabB_tab hs p same tab_same) (tabB_tab hs q same tab_same)
  | .whl s p => by rw [tabS]; exact rounds_tab (tabB_tab hs p same tab_same)
theorem tabB_tab (hs : List Hy) : ∀ (ps : List Pg) (t : List Nat), Tab t → Tab (tabB hs ps t)
  | [], t, h => by rw [tabB]; exact h
  | p :: ps, t, h => by rw [tabB]; exact tabB_tab hs ps _ (tab_map (tabS_tab hs p) h)
end
section
variable {P : Pm} {Γ : List TW.Fn} {lf n : Nat} {x : Ix} {s : Sto} (A : LibA Γ x) (B : LibB Γ x)
theorem same_t : T.tup [.int 1, .int 2, .int 4, .int 8, .int 16, .int 32, .int 64, .int 128] = tbT same := rfl
theorem noth_t : T.tup [.int 0, .int 0, .int 0, .int 0, .int 0, .int 0, .int 0, .int 0] = tbT noth := rfl
theorem eqTs_nat : ∀ as bs : List Nat, eqTs (as.map nT) (bs.map nT) = decide (as = bs)
  | [], [] => rfl
  | [], _ :: _ => rfl
  | _ :: _, [] => rfl
  | a :: as, b :: bs => by
    show (eqT (.int a) (.int b) && eqTs (as.map nT) (bs.map nT)) = _
    rw [eqT_int, eqTs_nat as bs]
    by_cases h : a = b <;> by_cases h2 : as = bs <;> simp [h, h2, Int.natCast_inj]
theorem okT_tb (t : List Nat) : okT 64 (tbT t) := okT.mono (okT_tup (d := 0) fun u hu => by
  obtain ⟨i, _, rfl⟩ := List.mem_map.mp hu
  exact okT_int 0 _) (by omega)
theorem eqO_tb (st : Sto) (t u : List Nat) : eqO st (tbT t) (tbT u) = some (decide (t = u)) := by
  rw [eqO_of (okT_tb t) (okT_tb u) rfl rfl]
  show some (eqT (.tup _) (.tup _)) = _
  rw [eqT_tup, eqTs_nat]
include A B
theorem rounds_ev (hlf : 64 < lf) (own : Nat) {tb : List Nat} (hB : Tab tb) : run P Γ lf (n + 4) x.f_rounds [.int own, tbT tb] s = .ok (.val (tbT (roundsF own tb))) s := by
  rw [run_at B.rounds rfl]
  obtain ⟨k0, hk0, h0⟩ := rnd_stop (own := own) hB
  obtain ⟨k, hk, h1, h2⟩ := least (p := fun k => rndF own tb (iter (rndF own tb) k (rnd0 own)) = iter (rndF own tb) k (rnd0 own)) k0 h0
  have hit : ∀ (m : Nat) (t : List Nat) (j : Option T), (iter (fun p : List Nat × Option T => (rndF own tb p.1, some (tbT (rndF own tb p.1)))) m (t, j)).1 = iter (rndF own tb) m t := by
    intro m
    induction m with
    | zero => intro t j; rfl
    | succ m ih => intro t j; exact ih _ _
  simp [cc_rounds, startE_def, same_t, noth_t]
  rw [chosen_ev A B own noth same rfl rfl]
  simp
  erw [whGo_iter (E := fun (p : List Nat × Option T) => [.val (.int own), .val (tbT tb), .val (tbT p.1), sl p.2, .no]) (next := fun p => (rndF own tb p.1, some (tbT (rndF own tb p.1)))) (stop := fun p => decide (rndF own tb p.1 = p.1)) (w := fun p => .val (tbT p.1)) (I := fun p => Tab p.1)
    (fun acc _ => rfl) (fun acc hi => by
      obtain ⟨t, j⟩ := acc
      have hi : Tab t := hi
      simp [rng8, small62, opd, same_t]
      rw [lcGo_map (h := fun a => nT (unite t (tb.getD a 0))) (fun a ha => by
        have ha : a < tb.length := by rw [hB.len]; exact List.mem_range.mp ha
        have e : atI (tb.map nT) (a : Int) = some (nT (tb.getD a 0)) := atI_tb ha
        have u := united_ev (P := P) (lf := lf) (n := n) (s := s) A B t hi.len (tb.getD a 0)
        simp [nT, tbT] at e u ⊢
        simp [e, u]) (by simp)]
      have e2 : (List.range 8).map (fun a => nT (unite t (tb.getD a 0))) = (tb.map (unite t)).map nT := by
        apply List.ext_getElem?
        intro i
        by_cases hi : i < 8
        · have hi' : i < tb.length := by rw [hB.len]; exact hi
          simp [List.getElem?_range hi, List.getElem?_eq_getElem hi', List.getD_eq_getElem?_getD]
        · have hi' : ¬ i < tb.length := by rw [hB.len]; exact hi
          rw [List.getElem?_eq_none (by simp; omega), List.getElem?_eq_none (by simp; omega)]
      have c := chosen_ev (P := P) (lf := lf) (n := n + 1) (s := s) A B own (tb.map (unite t)) same (by simp [hB.len]) rfl
      rw [e2]
      simp only [R_bind_ok, frzR_ok, frz_own, frzO_lst, List.nil_append, b_tupL, R_of_some, frz_val]
      rw [show T.tup (List.map nT (List.map (unite t) tb)) = tbT (tb.map (unite t)) from rfl, c, show choose8 own (tb.map (unite t)) same = rndF own tb t from rfl]
      by_cases hf : rndF own tb t = t
      · simp [sl, eqO_tb, hf]
      · simp [sl, eqO_tb, hf]) (fun acc hi => rndF_tab hB hi) k lf (rnd0 own, none) (tab_choose tab_noth tab_same) (by omega) (fun j hj => by
        have := h2 j hj
        simp only [hit]
        exact decide_eq_false this) (by
        simp only [hit]
        exact decide_eq_true h1)]
  simp [hit, rounds_at (Nat.le_trans hk hk0) h1]
omit A B in
theorem hit_one (hs : List Hy) (c : Nat) {a : Nat} (ha : a < 8) (b : Nat) : hit hs c (1 <<< a) b = lead hs c a b := by
  unfold hit
  have : mem8 (1 <<< a) = [a] := by
    match a, ha with
    | 0, _ => rfl
    | 1, _ => rfl
    | 2, _ => rfl
    | 3, _ => rfl
    | 4, _ => rfl
    | 5, _ => rfl
    | 6, _ => rfl
    | 7, _ => rfl
  rw [this]
  simp
theorem step_core (hlf : 64 < lf) (hs : List Hy) (hl : hs.length ≤ 100) (N : Nat) (hN : N = n + 4) (p : Pg)
    (hb : ∀ ps : List Pg, (∀ s p1 p2, p = .ite s p1 p2 → ps = p1 ∨ ps = p2 → ∀ s, run P Γ lf N x.f_table_by [.tup (pgT ps), hT hs] s = .ok (.val (tbT (tabB hs ps same))) s) ∧
      (∀ s p1, p = .whl s p1 → ps = p1 → ∀ s, run P Γ lf N x.f_table_by [.tup (pgT ps), hT hs] s = .ok (.val (tbT (tabB hs ps same))) s)) : run P Γ lf (N + 1) x.f_step_table [p.t, hT hs] s = .ok (.val (tbT (tabS hs p))) s := by
  subst hN
  rw [run_at B.step_table rfl]
  cases p with
  | skip => simp [cc_step_table, startE_def, Pg.t, opd, eqO_kw, same_t, tabS]
  | abort => simp [cc_step_table, startE_def, Pg.t, opd, eqO_kw, noth_t, tabS]
  | act c =>
    simp [cc_step_table, startE_def, Pg.t, opd, eqO_kw, rng8, small62]
    rw [lcGo_map (h := fun a => nT (maskOf (hit hs c (1 <<< a)) (List.range 8) 0)) (fun a ha => by
      have h8 : a ≤ 1000000 := by have := List.mem_range.mp ha; omega
      have i := image_ev (P := P) (lf := lf) (n := n) (s := s) A hs hl c (1 <<< a)
      simp only [nT] at i
      simp [nT, intOp_shl1 a h8, i, -Int.natCast_shiftLeft]) (by simp)]
    simp [tabS, tbT]
  | asr w =>
    have c := chosen_ev (P := P) (lf := lf) (n := n + 2) (s := s) A B w same noth rfl rfl
    simp [cc_step_table, startE_def, Pg.t, opd, eqO_kw, same_t, noth_t, tabS, nT, c]
  | ite w p1 p2 =>
    have c := chosen_ev (P := P) (lf := lf) (n := n + 2) (s := s) A B w (tabB hs p1 same) (tabB hs p2 same) (tabB_tab hs p1 same tab_same).len (tabB_tab hs p2 same tab_same).len
    have e1 := (hb p1).1 w p1 p2 rfl (.inl rfl) s
    have e2 := (hb p2).1 w p1 p2 rfl (.inr rfl) s
    simp [cc_step_table, startE_def, Pg.t, opd, eqO_kw, tabS, nT, e1, e2, c]
  | whl w p1 =>
    have c := rounds_ev (P := P) (lf := lf) (n := n) (s := s) A B hlf w (tabB_tab hs p1 same tab_same)
    have e1 := (hb p1).2 w p1 rfl rfl s
    simp [cc_step_table, startE_def, Pg.t, opd, eqO_kw, tabS, nT, e1, c]
theorem block_core (hs : List Hy) (N : Nat) (hN : N = n + 3) (ps : List Pg) (hp : ∀ p ∈ ps, ∀ s, run P Γ lf N x.f_step_table [p.t, hT hs] s = .ok (.val (tbT (tabS hs p))) s) : run P Γ lf (N + 1) x.f_table_by [.tup (pgT ps), hT hs] s = .ok (.val (tbT (tabB hs ps same))) s := by
  subst hN
  rw [run_at B.table_by rfl, tabB_foldl, pgT_map]
  simp [cc_table_by, startE_def, opd, same_t]
  erw [forGo_foldI (E := fun (q : List Nat × (Option T × Option T)) => [.val (.tup (ps.map Pg.t)), .val (hT hs), .val (tbT q.1), sl q.2.1, sl q.2.2, .no]) (step := fun q p => (q.1.map (unite (tabS hs p)), (some p.t, some (tbT (tabS hs p))))) (acc := (same, (none, none))) (fun q => q.1.length = 8) (fun p hpm acc hi => by
      obtain ⟨t, j1, j2⟩ := acc
      have hi : t.length = 8 := hi
      simp [sl, hp p hpm, opd, tbT]
      rw [lcGo_map (h := fun own => nT (unite (tabS hs p) own)) (fun own _ => by
        have u := united_ev (P := P) (lf := lf) (n := n) (s := s) A B (tabS hs p) (tabS_tab hs p).len own
        simp only [tbT] at u
        simp [nT, tbT] at u ⊢
        simp [u]) (by simp [hi])]
      simp) (fun p _ acc hi => by simpa using hi) rfl]
  simp
  exact congrArg tbT (foldl_fst (f := fun t p => List.map (unite (tabS hs p)) t) (k := fun _ p => (some p.t, some (tbT (tabS hs p)))) _ _ _)
theorem table_ev (hlf : 64 < lf) (hs : List Hy) (hl : hs.length ≤ 100) : ∀ (m n : Nat), (∀ (p : Pg), p.hgt ≤ m → ∀ s, run P Γ lf (n + 5 + 2 * m) x.f_step_table [p.t, hT hs] s = .ok (.val (tbT (tabS hs p))) s) ∧
    ∀ (ps : List Pg), hgts ps ≤ m → ∀ s, run P Γ lf (n + 6 + 2 * m) x.f_table_by [.tup (pgT ps), hT hs] s = .ok (.val (tbT (tabB hs ps same))) s := by
  intro m
  induction m with
  | zero =>
    intro n
    have h1 : ∀ (p : Pg), p.hgt ≤ 0 → ∀ s, run P Γ lf (n + 5 + 2 * 0) x.f_step_table [p.t, hT hs] s = .ok (.val (tbT (tabS hs p))) s := fun p hp s =>
      step_core A B (n := n) hlf hs hl (n + 4) rfl p fun ps => ⟨fun w p1 p2 e _ => by subst e; simp [Pg.hgt] at hp, fun w p1 e _ => by subst e; simp [Pg.hgt] at hp⟩
    exact ⟨h1, fun ps hp s => block_core A B (n := n + 2) hs (n + 5) rfl ps fun p hm s => h1 p (Nat.le_trans (hgts_mem hm) hp) s⟩
  | succ m ih =>
    intro n
    have i2 := (ih n).2
    have h1 : ∀ (p : Pg), p.hgt ≤ m + 1 → ∀ s, run P Γ lf (n + 5 + 2 * (m + 1)) x.f_step_table [p.t, hT hs] s = .ok (.val (tbT (tabS hs p))) s := fun p hp s => by
      rw [show n + 5 + 2 * (m + 1) = n + 6 + 2 * m + 1 by omega]
      exact step_core A B (n := n + 2 + 2 * m) hlf hs hl (n + 6 + 2 * m) (by omega) p fun ps => ⟨fun w p1 p2 e h s => by
        subst e
        rw [Pg.hgt] at hp
        refine i2 ps ?_ s
        rcases h with rfl | rfl <;> omega, fun w p1 e h s => by
        subst e
        rw [Pg.hgt] at hp
        refine i2 ps ?_ s
        subst h; omega⟩
    exact ⟨h1, fun ps hp s => by
      rw [show n + 6 + 2 * (m + 1) = n + 5 + 2 * (m + 1) + 1 by omega]
      exact block_core A B (n := n + 4 + 2 * m) hs (n + 5 + 2 * (m + 1)) (by omega) ps fun p hm s => h1 p (Nat.le_trans (hgts_mem hm) hp) s⟩
end
end Tw

set_option Elab.async false
set_option linter.all false
set_option maxRecDepth 100000
set_option maxHeartbeats 4000000
/-! TwD: what a program must be. -/
namespace Tw
open PySem L2 TW
@[simp] theorem inT_words (P : Pm) (st : Sto) (a b w : Str) : inT P st (.str w) (.tup [.str a, .str b]) = some (decide (a = w) || (decide (b = w) || false)) := by
  show (if (T.flat (.str w) && [T.str a, T.str b].all T.flat) = true then some ([T.str a, T.str b].any fun t => eqT t (.str w)) else none) = _
  rw [if_pos (by rfl)]
  simp
theorem cut2_4 {a b c d : T} : cutT [a, b, c, d] (some 2) none = [c, d] := rfl
theorem cut2_3 {a b c : T} : cutT [a, b, c] (some 2) none = [c] := rfl
/-! ### depth -/
theorem str_ok {w : Str} (h : (PyData.str w).canLay0 = true) (d : Nat) : okT d (.str w) := ⟨h, Nat.zero_le _⟩
mutual
theorem okT_pg : ∀ p : Pg, okT (2 * p.hgt + 1) p.t
  | .skip => by rw [Pg.t]; exact okT_tup (d := 0) fun t ht => by simp at ht; subst ht; exact str_ok (by simp) _
  | .abort => by rw [Pg.t]; exact okT_tup (d := 0) fun t ht => by simp at ht; subst ht; exact str_ok (by simp) _
  | .act a => by
    rw [Pg.t]
    refine okT_tup (d := 0) fun t ht => ?_
    simp at ht
    rcases ht with rfl | rfl
    · exact str_ok (by simp) _
    · exact okT_int _ _
  | .asr a => by
    rw [Pg.t]
    refine okT_tup (d := 0) fun t ht => ?_
    simp at ht
    rcases ht with rfl | rfl
    · exact str_ok (by simp) _
    · exact okT_int _ _
  | .ite s p q => by
    rw [Pg.t, Pg.hgt]
    have h1 := okT_pgs p
    have h2 := okT_pgs q
    refine (okT_tup (d := 2 * max (hgts p) (hgts q) + 2) fun t ht => ?_).mono (by omega)
    simp at ht
    rcases ht with rfl | rfl | rfl | rfl
    · exact str_ok (by simp) _
    · exact okT_int _ _
    · exact h1.mono (by omega)
    · exact h2.mono (by omega)
  | .whl s p => by
    rw [Pg.t, Pg.hgt]
    have h1 := okT_pgs p
    refine (okT_tup (d := 2 * hgts p + 2) fun t ht => ?_).mono (by omega)
    simp at ht
    rcases ht with rfl | rfl | rfl
    · exact str_ok (by simp) _
    · exact okT_int _ _
    · exact h1.mono (by omega)
theorem okT_pgs : ∀ ps : List Pg, okT (2 * hgts ps + 2) (.tup (pgT ps))
  | [] => by rw [pgT, hgts]; exact (okT_tup (d := 0) fun t ht => by simp at ht).mono (by omega)
  | p :: ps => by
    rw [pgT, hgts]
    have h1 := okT_pg p
    have h2 := okT_pgs ps
    refine okT_tup (d := 2 * max p.hgt (hgts ps) + 1) fun t ht => ?_
    rcases List.mem_cons.mp ht with rfl | ht
    · exact h1.mono (by omega)
    · rw [pgT_map] at ht
      obtain ⟨q, hq, rfl⟩ := List.mem_map.mp ht
      have := hgts_mem hq
      exact (okT_mem h2 (by rw [pgT_map]; exact List.mem_map.mpr ⟨q, hq, rfl⟩)).mono (by omega)
end
theorem sum_mem : ∀ {l : List Nat} {a : Nat}, a ∈ l → a ≤ l.sum
  | b :: l, a, h => by
    rw [List.sum_cons]
    rcases List.mem_cons.mp h with rfl | h
    · omega
    · have := sum_mem h
      omega
def Pg.subs : Pg → List (List Pg)
  | .ite _ p q => [p, q]
  | .whl _ p => [p]
  | _ => []
mutual
def Pg.size : Pg → Nat
  | .skip => 1
  | .abort => 1
  | .act _ => 1
  | .asr _ => 1
  | .ite _ p q => 1 + sizes p + sizes q
  | .whl _ p => 1 + sizes p
def sizes : List Pg → Nat
  | [] => 0
  | p :: ps => p.size + sizes ps
end
mutual
def Pg.ok : Pg → Bool
  | .skip => true
  | .abort => true
  | .act a => decide (a < 5)
  | .asr s => decide (s < 256)
  | .ite s p q => decide (s < 256) && (oks p && oks q && !p.isEmpty && !q.isEmpty)
  | .whl s p => decide (s < 256) && (oks p && !p.isEmpty)
def oks : List Pg → Bool
  | [] => true
  | p :: ps => p.ok && oks ps
end
mutual
def Pg.acts : Pg → List Nat
  | .act a => [a]
  | .ite _ p q => actsOf p ++ actsOf q
  | .whl _ p => actsOf p
  | _ => []
def actsOf : List Pg → List Nat
  | [] => []
  | p :: ps => p.acts ++ actsOf ps
end
mutual
def Pg.flat : Pg → List Pg
  | .ite s p q => .ite s p q :: (flats p ++ flats q)
  | .whl s p => .whl s p :: flats p
  | p => [p]
def flats : List Pg → List Pg
  | [] => []
  | p :: ps => p.flat ++ flats ps
end
def tupP (ps : List Pg) : T := .tup (pgT ps)
structure LibC (Γ : List TW.Fn) (x : Ix) : Prop where
  is_plain_step : Γ[x.f_is_plain_step]? = some (cc_is_plain_step x)
  blocks_of : Γ[x.f_blocks_of]? = some (cc_blocks_of x)
  left_of : Γ[x.f_left_of]? = some (cc_left_of x)
  steps_in : Γ[x.f_steps_in]? = some (cc_steps_in x)
  calls_in : Γ[x.f_calls_in]? = some (cc_calls_in x)
  actions_in : Γ[x.f_actions_in]? = some (cc_actions_in x)
section
variable {P : Pm} {Γ : List TW.Fn} {lf n : Nat} {x : Ix} {s : Sto} (A : LibA Γ x) (C : LibC Γ x)
include C
theorem blocks_ev (p : Pg) : run P Γ lf (n + 1) x.f_blocks_of [p.t] s = .ok (.val (.tup (p.subs.map tupP))) s := by
  rw [run_at C.blocks_of rfl]
  cases p with
  | ite w p q => simp [cc_blocks_of, startE_def, Pg.t, opd, eqO_kw, cut2_4, Pg.subs, tupP]
  | whl w p => simp [cc_blocks_of, startE_def, Pg.t, opd, eqO_kw, cut2_3, Pg.subs, tupP]
  | _ => simp [cc_blocks_of, startE_def, Pg.t, opd, eqO_kw, Pg.subs, fits]
include A
theorem plain_ev (p : Pg) (h : p.ok = true) (hs : p.subs = []) : run P Γ lf (n + 2) x.f_is_plain_step [p.t] s = .ok (.val (.bl true)) s := by
  rw [run_at C.is_plain_step rfl]
  cases p with
  | skip => simp [cc_is_plain_step, startE_def, Pg.t, opd, eqO_kw, fits]
  | abort => simp [cc_is_plain_step, startE_def, Pg.t, opd, eqO_kw, fits]
  | act a =>
    simp [Pg.ok] at h
    have w := is_whole_ev (P := P) (lf := lf) (n := n) (s := s) A.is_whole (a : Int) 0 4
    simp [cc_is_plain_step, startE_def, Pg.t, opd, eqO_kw, fits, nT, intOp, w]
    omega
  | asr a =>
    simp [Pg.ok] at h
    have w := is_whole_ev (P := P) (lf := lf) (n := n) (s := s) A.is_whole (a : Int) 0 255
    have h2 : (a : Int) ≤ 255 := by omega
    simp [cc_is_plain_step, startE_def, Pg.t, opd, eqO_kw, fits, nT, intOp, w, h2]
  | ite w p q => cases hs
  | whl w p => cases hs
omit A C in
theorem okT_subs (p : Pg) : okT (2 * p.hgt + 1) (.tup (p.subs.map tupP)) := by
  cases p with
  | ite w p q =>
    have h1 := okT_pgs p
    have h2 := okT_pgs q
    rw [Pg.hgt]
    refine (okT_tup (d := 2 * max (hgts p) (hgts q) + 2) fun t ht => ?_).mono (by omega)
    simp [Pg.subs, tupP] at ht
    rcases ht with rfl | rfl
    · exact h1.mono (by omega)
    · exact h2.mono (by omega)
  | whl w p =>
    have h1 := okT_pgs p
    rw [Pg.hgt]
    refine (okT_tup (d := 2 * hgts p + 2) fun t ht => ?_).mono (by omega)
    simp [Pg.subs, tupP] at ht
    subst ht
    exact h1
  | _ => exact (okT_tup (d := 0) fun t ht => by simp [Pg.subs] at ht).mono (by omega)
omit A C in
theorem eqO_subs (st : Sto) (p : Pg) (h : p.hgt ≤ 30) : eqO st (.tup (p.subs.map tupP)) (.tup []) = some (p.subs.isEmpty) := by
  rw [eqO_of ((okT_subs p).mono (by omega)) ((okT_tup (d := 0) fun t ht => by simp at ht).mono (by omega)) rfl rfl, eqT_tup, eqTs_nil]
  simp
omit A C in
theorem subs_facts (p : Pg) (h : p.ok = true) : (∀ b ∈ p.subs, oks b = true ∧ b ≠ [] ∧ hgts b + 1 ≤ p.hgt) ∧ p.size = 1 + (p.subs.map sizes).sum := by
  cases p with
  | ite w p q =>
    simp [Pg.ok] at h
    refine ⟨fun b hb => ?_, by simp [Pg.size, Pg.subs]; omega⟩
    simp [Pg.subs] at hb
    rw [Pg.hgt]
    rcases hb with rfl | rfl
    · exact ⟨h.2.1.1.1, h.2.1.2, by omega⟩
    · exact ⟨h.2.1.1.2, h.2.2, by omega⟩
  | whl w p =>
    simp [Pg.ok] at h
    refine ⟨fun b hb => ?_, by simp [Pg.size, Pg.subs]⟩
    simp [Pg.subs] at hb
    subst hb
    rw [Pg.hgt]
    exact ⟨h.2.1, h.2.2, by omega⟩
  | _ => exact ⟨fun b hb => by simp [Pg.subs] at hb, by simp [Pg.size, Pg.subs]⟩
omit A C in
theorem sizes_map : ∀ ps : List Pg, sizes ps = (ps.map Pg.size).sum
  | [] => by simp [sizes]
  | p :: ps => by simp [sizes, sizes_map ps]
omit A C in
theorem oks_mem : ∀ {ps : List Pg} {p : Pg}, oks ps = true → p ∈ ps → p.ok = true
  | q :: ps, p, h, hm => by
    rw [oks, Bool.and_eq_true] at h
    rcases List.mem_cons.mp hm with rfl | hm
    · exact h.1
    · exact oks_mem h.2 hm
omit A C in
theorem len_sizes : ∀ ps : List Pg, ps.length ≤ sizes ps
  | [] => by simp
  | p :: ps => by
    have h := len_sizes ps
    have : 1 ≤ p.size := by cases p <;> simp [Pg.size] <;> omega
    rw [sizes, List.length_cons]; omega
omit A C in
theorem foldl_sub {γ : Type} {α : Type} (sz : α → Nat) (k : Int × γ → α → γ) : ∀ (l : List α) (y : Int) (z : γ), (l.foldl (fun p a => (p.1 - (sz a : Int), k p a)) (y, z)).1 = y - ((l.map sz).sum : Nat)
  | [], y, z => by simp
  | a :: l, y, z => by
    rw [List.foldl_cons, foldl_sub sz k l]
    simp
    omega
omit A C in
theorem t_str (p : Pg) : ∃ (w : Str) (r : List T), p.t = .tup (.str w :: r) ∧ 1 ≤ (T.str w :: r).length ∧ (T.str w :: r).length ≤ 4 := by
  cases p <;> rw [Pg.t] <;> exact ⟨_, _, rfl, by simp, by simp⟩
omit A C in
/-- a step with blocks has a set -/
theorem t_set (p : Pg) (h : p.ok = true) (hs : p.subs ≠ []) : ∃ (w : T) (m : Nat) (r : List T), p.t = .tup (w :: nT m :: r) ∧ m < 256 := by
  cases p with
  | ite w p q => simp [Pg.ok] at h; rw [Pg.t]; exact ⟨_, _, _, rfl, h.1⟩
  | whl w p => simp [Pg.ok] at h; rw [Pg.t]; exact ⟨_, _, _, rfl, h.1⟩
  | _ => exact absurd rfl hs
/-- what the inner loop does -/
def lstep (r : Int × Option T) (b : List Pg) : Int × Option T := (r.1 - ((sizes b : Nat) : Int), some (tupP b))
theorem left_core (N : Nat) (hN : N = n + 2) (ps : List Pg) (high many : Nat) (hg : ∀ p ∈ ps, p.hgt ≤ 30) (h2 : oks ps = true) (h3 : ps ≠ []) (h4 : sizes ps ≤ many) (h5 : 1 ≤ high)
    (hb : ∀ p ∈ ps, ∀ b ∈ p.subs, ∀ (k : Nat), sizes b ≤ k → ∀ s, run P Γ lf N x.f_left_of [tupP b, .int ((high : Int) - 1), .int k] s = .ok (.val (.int ((k : Int) - (sizes b : Nat)))) s) :
    run P Γ lf (N + 1) x.f_left_of [tupP ps, .int high, .int many] s = .ok (.val (.int ((many : Int) - (sizes ps : Nat)))) s := by
  subst hN
  rw [run_at C.left_of rfl]
  have l1 : 1 ≤ ps.length := by cases ps <;> simp at h3 ⊢
  have l2 := len_sizes ps
  have it := is_tuple_ev (P := P) (lf := lf) (n := n + 1) (s := s) A.is_tuple_of (pgT ps) 1 many
  have hl : (pgT ps).length = ps.length := by rw [pgT_map]; simp
  have e1 : decide ((1 : Int) ≤ ((pgT ps).length : Int)) = true := by rw [hl]; simp; omega
  have e2 : decide (((pgT ps).length : Int) ≤ (many : Int)) = true := by rw [hl]; simp; omega
  rw [e1, e2] at it
  have hh : ¬ (high = 0) := by omega
  have it : run P Γ lf (n + 2) x.f_is_tuple_of [tupP ps, .int 1, .int many] s = .ok (.val (.bl true)) s := it
  have e3 : (tupP ps).itr? = some (ps.map Pg.t) := by rw [← pgT_map]; rfl
  simp [cc_left_of, startE_def, opd, hh, it, e3]
  erw [forGo_foldR (E := fun (q : Int × (Option T × Option T × Option T)) => [.val (tupP ps), .val (.int high), .val (.int q.1), sl q.2.1, sl q.2.2.1, sl q.2.2.2])
    (step := fun q p => (q.1 - ((p.size : Nat) : Int), (some p.t, some (.tup (p.subs.map tupP)), (p.subs.foldl lstep (q.1 - 1, q.2.2.2)).2))) (acc := ((many : Int), (none, none, none)))
    (fun rest q => ∃ k : Nat, q.1 = (k : Int) ∧ sizes rest ≤ k ∧ ∀ p ∈ rest, p ∈ ps) (fun p rest q hq => by
      obtain ⟨q1, j3, j4, j5⟩ := q
      obtain ⟨k, rfl, hk, hm⟩ := hq
      have hpm := hm p List.mem_cons_self
      have hpo := oks_mem h2 hpm
      obtain ⟨sf1, sf2⟩ := subs_facts p hpo
      rw [sizes] at hk
      have hsz : 1 ≤ p.size := by omega
      obtain ⟨w, r, et, t1, t2⟩ := t_str p
      have it2 := is_tuple_ev (P := P) (lf := lf) (n := n + 1) (s := s) A.is_tuple_of (.str w :: r) 1 4
      rw [show decide ((1 : Int) ≤ ((T.str w :: r).length : Int)) = true by simp; omega, show decide (((T.str w :: r).length : Int) ≤ 4) = true by simp at t2 ⊢; omega] at it2
      have bl := blocks_ev (P := P) (lf := lf) (n := n + 1) (s := s) C p
      have eq := eqO_subs s p (hg p hpm)
      have k0 : ¬ (k = 0) := by omega
      have cond : (if p.subs.isEmpty = true then run P Γ lf (n + 2) x.f_is_plain_step [p.t] s = .ok (.val (.bl true)) s else ∃ (w : T) (m : Nat) (r : List T), p.t = .tup (w :: nT m :: r) ∧ m < 256) := by
        split
        · rename_i hs
          exact plain_ev A C p hpo (List.isEmpty_iff.mp hs)
        · rename_i hs
          exact t_set p hpo fun e => hs (by rw [e]; rfl)
      refine ⟨?_, (k - p.size : Nat), ?_, ?_, fun p' hp' => hm p' (List.mem_cons_of_mem _ hp')⟩
      · have c5 : (p.subs.foldl lstep ((k : Int) - 1, j5)).1 = (k : Int) - (p.size : Nat) := by
          have := foldl_sub sizes (fun _ b => some (tupP b)) p.subs ((k : Int) - 1) j5
          rw [show (p.subs.foldl lstep ((k : Int) - 1, j5)).1 = _ from this, sf2]
          simp; omega
        rw [et] at bl cond ⊢
        cases hse : p.subs.isEmpty with
        | true =>
          rw [hse] at cond eq
          rw [if_pos rfl] at cond
          have hs0 := List.isEmpty_iff.mp hse
          rw [hs0] at bl eq c5 ⊢
          simp at bl eq c5
          have kk : ¬ ((k : Int) - 1 < 0) := by omega
          have sf3 : p.size = 1 := by rw [sf2, hs0]; rfl
          simp [k0, it2, bl, eq, opd, fits, cond, kk, sf3]
        | false =>
          rw [hse] at cond eq
          rw [if_neg (by simp)] at cond
          obtain ⟨w2, m2, r2, et2, hm2⟩ := cond
          simp at et2
          obtain ⟨rfl, rfl⟩ := et2
          have iw := is_whole_ev (P := P) (lf := lf) (n := n + 1) (s := s) A.is_whole (m2 : Int) 0 255
          have iw2 : (m2 : Int) ≤ 255 := by omega
          simp only [nT] at it2 bl
          simp [k0, it2, bl, eq, opd, fits, nT, iw, iw2]
          erw [forGo_foldR (E := fun (q : Int × Option T) => [.val (tupP ps), .val (.int high), .val (.int q.1), .val (.tup (.str w :: .int m2 :: r2)), .val (.tup (p.subs.map tupP)), sl q.2]) (step := lstep) (acc := ((k : Int) - 1, j5))
            (fun rest q => ∃ k' : Nat, q.1 = (k' : Int) ∧ (rest.map sizes).sum ≤ k' ∧ ∀ b ∈ rest, b ∈ p.subs) (fun b rest q hq => by
              obtain ⟨q1, j⟩ := q
              obtain ⟨k', rfl, hk', hm'⟩ := hq
              have hbm := hm' b List.mem_cons_self
              rw [List.map_cons, List.sum_cons] at hk'
              have e := hb p hpm b hbm k' (by omega) s
              refine ⟨?_, k' - sizes b, ?_, by omega, fun c hc => hm' c (List.mem_cons_of_mem _ hc)⟩
              · simp [lstep, e, opd]
              · simp [lstep]; omega) ⟨k - 1, by simp; omega, by omega, fun b hb => hb⟩]
          have c6 : (p.subs.foldl lstep ((k : Int) - 1, j5)) = ((k : Int) - (p.size : Nat), (p.subs.foldl lstep ((k : Int) - 1, j5)).2) := Prod.ext c5 rfl
          rw [c6]
          have kk : ¬ ((k : Int) - (p.size : Nat) < 0) := by omega
          simp [kk]
      · simp; omega
      · omega) ⟨many, rfl, h4, fun p hp => hp⟩]
  simp
  rw [foldl_sub Pg.size]
  rw [sizes_map]
theorem left_ev : ∀ (m n : Nat) (ps : List Pg) (high many : Nat), hgts ps ≤ m → m ≤ 30 → oks ps = true → ps ≠ [] → sizes ps ≤ many → hgts ps + 1 ≤ high → ∀ s, run P Γ lf (n + 3 + m) x.f_left_of [tupP ps, .int high, .int many] s = .ok (.val (.int ((many : Int) - (sizes ps : Nat)))) s := by
  intro m
  induction m with
  | zero =>
    intro n ps high many h1 hm h2 h3 h4 h5 s
    refine left_core A C (n := n) (n + 2) rfl ps high many (fun p hp => by have := hgts_mem hp; omega) h2 h3 h4 (by omega) fun p hp b hb => ?_
    exfalso
    have h6 := (subs_facts p (oks_mem h2 hp)).1 b hb
    have h7 := hgts_mem hp
    omega
  | succ m ih =>
    intro n ps high many h1 hm h2 h3 h4 h5 s
    refine left_core A C (n := n + 1 + m) (n + 3 + m) (by omega) ps high many (fun p hp => by have := hgts_mem hp; omega) h2 h3 h4 (by omega) fun p hp b hb k hk s => ?_
    obtain ⟨q1, q2, q3⟩ := (subs_facts p (oks_mem h2 hp)).1 b hb
    have h7 := hgts_mem hp
    have := ih n b (high - 1) k (by omega) (by omega) q1 q2 hk (by omega) s
    rw [show ((high - 1 : Nat) : Int) = (high : Int) - 1 by omega] at this
    exact this
omit A C in
theorem flat_eq (p : Pg) : p.flat = p :: p.subs.flatMap flats := by
  cases p <;> simp [Pg.flat, Pg.subs]
omit A C in
theorem flats_eq : ∀ ps : List Pg, flats ps = ps.flatMap Pg.flat
  | [] => by simp [flats]
  | p :: ps => by simp [flats, flats_eq ps]
omit A C in
theorem fits_app {a b : Nat} (h : a + b ≤ 16777216) : fits (a + b) = true := fits_of h
omit A C in
mutual
theorem flat_len : ∀ p : Pg, p.flat.length = p.size
  | .skip => by simp [Pg.flat, Pg.size]
  | .abort => by simp [Pg.flat, Pg.size]
  | .act _ => by simp [Pg.flat, Pg.size]
  | .asr _ => by simp [Pg.flat, Pg.size]
  | .ite _ p q => by simp [Pg.flat, Pg.size, flats_len p, flats_len q]; omega
  | .whl _ p => by simp [Pg.flat, Pg.size, flats_len p]; omega
theorem flats_len : ∀ ps : List Pg, (flats ps).length = sizes ps
  | [] => by simp [flats, sizes]
  | p :: ps => by simp [flats, sizes, flat_len p, flats_len ps]
end
omit A in
theorem steps_core (N : Nat) (hN : N = n + 1) (ps : List Pg) (hz : sizes ps ≤ 100000) (hb : ∀ p ∈ ps, ∀ b ∈ p.subs, ∀ s, run P Γ lf N x.f_steps_in [tupP b] s = .ok (.own (.lst ((flats b).map Pg.t))) s) :
    run P Γ lf (N + 1) x.f_steps_in [tupP ps] s = .ok (.own (.lst ((flats ps).map Pg.t))) s := by
  subst hN
  rw [run_at C.steps_in rfl]
  have e3 : (tupP ps).itr? = some (ps.map Pg.t) := by rw [← pgT_map]; rfl
  simp [cc_steps_in, startE_def, opd, fits, e3]
  erw [forGo_foldR (E := fun (q : List Pg × (Option T × Option T)) => [.val (tupP ps), .own (.lst (q.1.map Pg.t)), sl q.2.1, sl q.2.2]) (step := fun q p => (q.1 ++ p.flat, (some p.t, (p.subs.foldl (fun (_ : Option T) b => some (tupP b)) q.2.2)))) (acc := ([], (none, none)))
    (fun rest q => q.1.length + sizes rest ≤ 100000 ∧ ∀ p ∈ rest, p ∈ ps) (fun p rest q hq => by
      obtain ⟨q1, j2, j3⟩ := q
      obtain ⟨hk, hm⟩ := hq
      rw [sizes] at hk
      have hk : q1.length + (p.size + sizes rest) ≤ 100000 := hk
      have fl := flat_len p
      refine ⟨?_, by simp [fl]; omega, fun p' hp' => hm p' (List.mem_cons_of_mem _ hp')⟩
      have hpm := hm p List.mem_cons_self
      have bl := blocks_ev (P := P) (lf := lf) (n := n) (s := s) C p
      have l1 : q1.length < 16777216 := by omega
      simp [opd, isL, bl, chg, appO, l1]
      rw [show List.map Pg.t q1 ++ [p.t] = (q1 ++ [p]).map Pg.t by simp]
      erw [forGo_foldR (E := fun (r : List Pg × Option T) => [.val (tupP ps), .own (.lst (r.1.map Pg.t)), .val p.t, sl r.2]) (step := fun r b => (r.1 ++ flats b, some (tupP b))) (acc := (q1 ++ [p], j3))
        (fun rest r => r.1.length + (rest.map sizes).sum ≤ 200000 ∧ ∀ b ∈ rest, b ∈ p.subs) (fun b rest r hr => by
          obtain ⟨r1, j⟩ := r
          obtain ⟨hk', hm'⟩ := hr
          rw [List.map_cons, List.sum_cons] at hk'
          have hk' : r1.length + (sizes b + (rest.map sizes).sum) ≤ 200000 := hk'
          have fb := flats_len b
          refine ⟨?_, by simp [fb]; omega, fun c hc => hm' c (List.mem_cons_of_mem _ hc)⟩
          have e := hb p hpm b (hm' b List.mem_cons_self) s
          have ff : fits (r1.length + (flats b).length) = true := fits_of (by omega)
          simp [e, opd, ff]) ⟨by
            have : p.size = 1 + (p.subs.map sizes).sum := by
              cases p <;> simp [Pg.size, Pg.subs]
              omega
            simp; omega, fun b hb => hb⟩]
      have e1 : ∀ (l : List (List Pg)) (r : List Pg) (j : Option T), l.foldl (fun (r : List Pg × Option T) b => (r.1 ++ flats b, some (tupP b))) (r, j) = (r ++ l.flatMap flats, l.foldl (fun (_ : Option T) b => some (tupP b)) j) := by
        intro l
        induction l with
        | nil => intro r j; simp
        | cons c l ih => intro r j; rw [List.foldl_cons, ih]; simp
      rw [e1, flat_eq p]
      simp) ⟨by simpa using hz, fun p hp => hp⟩]
  have e2 : ∀ (l : List Pg) (r : List Pg) (j : Option T × Option T), (l.foldl (fun (q : List Pg × (Option T × Option T)) p => (q.1 ++ p.flat, (some p.t, (p.subs.foldl (fun (_ : Option T) b => some (tupP b)) q.2.2)))) (r, j)).1 = r ++ l.flatMap Pg.flat := by
    intro l
    induction l with
    | nil => intro r j; simp
    | cons c l ih => intro r j; rw [List.foldl_cons, ih]; simp
  simp [e2, flats_eq]
omit A in
theorem steps_ev : ∀ (m n : Nat) (ps : List Pg), hgts ps ≤ m → sizes ps ≤ 100000 → oks ps = true → ∀ s, run P Γ lf (n + 2 + m) x.f_steps_in [tupP ps] s = .ok (.own (.lst ((flats ps).map Pg.t))) s := by
  intro m
  induction m with
  | zero =>
    intro n ps h1 h2 h3 s
    refine steps_core C (n := n) (n + 1) rfl ps h2 fun p hp b hb => ?_
    exfalso
    have h6 := (subs_facts p (oks_mem h3 hp)).1 b hb
    have h7 := hgts_mem hp
    omega
  | succ m ih =>
    intro n ps h1 h2 h3 s
    refine steps_core C (n := n + 1 + m) (n + 2 + m) (by omega) ps h2 fun p hp b hb s => ?_
    obtain ⟨q1, q2, q3⟩ := (subs_facts p (oks_mem h3 hp)).1 b hb
    have h7 := hgts_mem hp
    refine ih n b (by omega) ?_ q1 s
    have h8 := (subs_facts p (oks_mem h3 hp)).2
    have h9 : sizes b ≤ (p.subs.map sizes).sum := sum_mem (List.mem_map.mpr ⟨b, hb, rfl⟩)
    have h10 : p.size ≤ sizes ps := by rw [sizes_map]; exact sum_mem (List.mem_map.mpr ⟨p, hp, rfl⟩)
    omega
omit A C in
theorem flats_ok : ∀ (m : Nat) (ps : List Pg), hgts ps ≤ m → oks ps = true → ∀ p ∈ flats ps, p.ok = true := by
  intro m
  induction m with
  | zero =>
    intro ps h1 h2 p hp
    rw [flats_eq, List.mem_flatMap] at hp
    obtain ⟨q, hq, hp⟩ := hp
    rw [flat_eq] at hp
    rcases List.mem_cons.mp hp with rfl | hp
    · exact oks_mem h2 hq
    · obtain ⟨b, hb, _⟩ := List.mem_flatMap.mp hp
      have h6 := (subs_facts q (oks_mem h2 hq)).1 b hb
      have h7 := hgts_mem hq
      omega
  | succ m ih =>
    intro ps h1 h2 p hp
    rw [flats_eq, List.mem_flatMap] at hp
    obtain ⟨q, hq, hp⟩ := hp
    rw [flat_eq] at hp
    rcases List.mem_cons.mp hp with rfl | hp
    · exact oks_mem h2 hq
    · obtain ⟨b, hb, hp⟩ := List.mem_flatMap.mp hp
      obtain ⟨h6, _, h8⟩ := (subs_facts q (oks_mem h2 hq)).1 b hb
      have h7 := hgts_mem hq
      exact ih b (by omega) h6 p hp
/-- the word of a step -/
def Pg.word : Pg → Str
  | .skip => "skip"
  | .abort => "abort"
  | .act _ => "do"
  | .asr _ => "assert"
  | .ite _ _ _ => "if"
  | .whl _ _ => "while"
def Pg.isAct : Pg → Bool
  | .act _ => true
  | _ => false
def Pg.num : Pg → Nat
  | .act a => a
  | .asr a => a
  | .ite a _ _ => a
  | .whl a _ => a
  | _ => 0
include A
theorem calls_ev (m : Nat) (ps : List Pg) (h1 : hgts ps ≤ m) (h2 : sizes ps ≤ 100000) (h3 : oks ps = true) : run P Γ lf (n + 3 + m) x.f_calls_in [tupP ps] s = .ok (.own (.lst [])) s := by
  rw [show n + 3 + m = n + 2 + m + 1 by omega, run_at C.calls_in rfl]
  simp [cc_calls_in, startE_def, opd, steps_ev C m n ps h1 h2 h3 s]
  rw [lcGo_filter (p := fun _ => false) (h := fun _ => T.non) (fun p _ => by cases p <;> simp [Pg.t, eqO_kw]) (by simp [flats_len]; omega)]
  simp
theorem actions_ev (m : Nat) (ps : List Pg) (h1 : hgts ps ≤ m) (h2 : sizes ps ≤ 100000) (h3 : oks ps = true) : run P Γ lf (n + 3 + m) x.f_actions_in [tupP ps] s = .ok (.own (.lst (((flats ps).filter Pg.isAct).map fun p => nT p.num))) s := by
  rw [show n + 3 + m = n + 2 + m + 1 by omega, run_at C.actions_in rfl]
  simp [cc_actions_in, startE_def, opd, steps_ev C m n ps h1 h2 h3 s]
  rw [lcGo_filter (p := Pg.isAct) (h := fun p => nT p.num) (fun p _ => by cases p <;> simp [Pg.t, eqO_kw, Pg.isAct, Pg.num]) (by simp [flats_len]; omega)]
  simp
structure LibD (Γ : List TW.Fn) (x : Ix) : Prop where
  fits_plain : Γ[x.f_fits_plain]? = some (cc_fits_plain x)
  need_plain : Γ[x.f_need_plain]? = some (cc_need_plain x)
  fits_hypothesis : Γ[x.f_fits_hypothesis]? = some (cc_fits_hypothesis x)
  fits_hypotheses : Γ[x.f_fits_hypotheses]? = some (cc_fits_hypotheses x)
  need_hypotheses : Γ[x.f_need_hypotheses]? = some (cc_need_hypotheses x)
  need_both : Γ[x.f_need_both]? = some (cc_need_both x)
/-- a plain program, within its bounds -/
structure PlainOk (ps : List Pg) : Prop where
  ne : ps ≠ []
  ok : oks ps = true
  hgt : hgts ps ≤ 25
  size : sizes ps ≤ 200
  acts : ((flats ps).filter Pg.isAct).length ≤ 24
variable (D : LibD Γ x)
include D
omit A C D in
theorem eqO_nil (st : Sto) : eqO st (.lst []) (.lst []) = some true := by
  rw [eqO_of (okT.mono (okT_lst (d := 0) (ts := []) fun t ht => by cases ht) (by omega)) (okT.mono (okT_lst (d := 0) (ts := []) fun t ht => by cases ht) (by omega)) rfl rfl, eqT_lst]
  rfl
theorem fits_plain_ev {ps : List Pg} (h : PlainOk ps) : run P Γ lf (n + 30) x.f_fits_plain [tupP ps] s = .ok (.val (.bl true)) s := by
  rw [run_at D.fits_plain rfl]
  have e1 := left_ev (P := P) (lf := lf) A C 25 (n + 1) ps 40 200 h.hgt (by omega) h.ok h.ne h.size (by have := h.hgt; omega) s
  have e2 := calls_ev (P := P) (lf := lf) (n := n + 1) (s := s) A C 25 ps h.hgt (by have := h.size; omega) h.ok
  have e3 := actions_ev (P := P) (lf := lf) (n := n + 1) (s := s) A C 25 ps h.hgt (by have := h.size; omega) h.ok
  have hz := h.size
  have ha := h.acts
  have k1 : ¬ ((200 : Int) - (sizes ps : Nat) < 0) := by omega
  have k2 : (((flats ps).filter Pg.isAct).length : Int) ≤ 24 := by omega
  have e1 : run P Γ lf (n + 29) x.f_left_of [tupP ps, .int 40, .int 200] s = .ok (.val (.int ((200 : Int) - (sizes ps : Nat)))) s := e1
  have e2 : run P Γ lf (n + 29) x.f_calls_in [tupP ps] s = .ok (.own (.lst [])) s := e2
  have e3 : run P Γ lf (n + 29) x.f_actions_in [tupP ps] s = .ok (.own (.lst (((flats ps).filter Pg.isAct).map fun p => nT p.num))) s := e3
  simp [cc_fits_plain, startE_def, opd, e1, e2, e3, k1, k2, fits, eqO_nil]
theorem need_plain_ev {ps : List Pg} (h : PlainOk ps) : run P Γ lf (n + 31) x.f_need_plain [tupP ps] s = .ok (.val .non) s := by
  rw [run_at D.need_plain rfl]
  simp [cc_need_plain, startE_def, opd, fits_plain_ev A C D h]
def Hy.okB : Hy → Bool
  | .keep a t => decide (a < 5) && decide (t < 3)
  | .forbid a s1 s2 => decide (a < 5) && (decide (s1 < 256) && decide (s2 < 256))
omit C in
theorem fits_hyp_ev (h : Hy) (ho : h.okB = true) : run P Γ lf (n + 2) x.f_fits_hypothesis [h.t] s = .ok (.val (.bl true)) s := by
  rw [run_at D.fits_hypothesis rfl]
  cases h with
  | keep a t =>
    simp [Hy.okB] at ho
    have it := is_tuple_ev (P := P) (lf := lf) (n := n) (s := s) A.is_tuple_of [.str "keep", nT a, nT t] 3 4
    have w1 := is_whole_ev (P := P) (lf := lf) (n := n) (s := s) A.is_whole (a : Int) 0 4
    have w2 := is_whole_ev (P := P) (lf := lf) (n := n) (s := s) A.is_whole (t : Int) 0 2
    have h1 : (a : Int) ≤ 4 := by omega
    have h2 : (t : Int) ≤ 2 := by omega
    simp [nT, h1, h2] at it w1 w2
    simp [cc_fits_hypothesis, startE_def, Hy.t, opd, nT, it, w1, w2, eqO_kw]
  | forbid a s1 s2 =>
    simp [Hy.okB] at ho
    have it := is_tuple_ev (P := P) (lf := lf) (n := n) (s := s) A.is_tuple_of [.str "forbid", nT a, nT s1, nT s2] 3 4
    have w1 := is_whole_ev (P := P) (lf := lf) (n := n) (s := s) A.is_whole (a : Int) 0 4
    have h1 : (a : Int) ≤ 4 := by omega
    simp [nT, h1] at it w1
    simp [cc_fits_hypothesis, startE_def, Hy.t, opd, nT, it, w1, eqO_kw, cut2_4]
    rw [show [T.int (s1 : Int), T.int (s2 : Int)] = [s1, s2].map nT from rfl, lcGo_map (h := fun _ => T.bl true) (fun a ha => by
      have w2 := is_whole_ev (P := P) (lf := lf) (n := n) (s := s) A.is_whole (a : Int) 0 255
      have h3 : (a : Int) ≤ 255 := by
        simp at ha
        rcases ha with rfl | rfl <;> omega
      simp [h3] at w2
      simp [nT, w2]) (by simp)]
    simp only [R_bind_ok, frzR_ok, frz_own, frzO_lst, List.nil_append, b_all]
    simp
omit C in
theorem fits_hyps_ev (hs : List Hy) (hl : hs.length ≤ 5) (ho : ∀ h ∈ hs, h.okB = true) : run P Γ lf (n + 3) x.f_fits_hypotheses [hT hs] s = .ok (.val (.bl true)) s := by
  rw [run_at D.fits_hypotheses rfl]
  have it := is_tuple_ev (P := P) (lf := lf) (n := n + 1) (s := s) A.is_tuple_of (hs.map Hy.t) 0 5
  have h1 : (hs.length : Int) ≤ 5 := by omega
  simp [h1] at it
  have it : run P Γ lf (n + 2) x.f_is_tuple_of [hT hs, .int 0, .int 5] s = .ok (.val (.bl true)) s := it
  have e3 : (hT hs).itr? = some (hs.map Hy.t) := rfl
  simp [cc_fits_hypotheses, startE_def, opd, it, e3]
  rw [lcGo_map (h := fun _ => T.bl true) (fun h hh => by simp [fits_hyp_ev A D h (ho h hh)]) (by simp; omega)]
  simp only [R_bind_ok, frzR_ok, frz_own, frzO_lst, List.nil_append, b_all]
  simp
omit C in
theorem need_hyps_ev (hs : List Hy) (hl : hs.length ≤ 5) (ho : ∀ h ∈ hs, h.okB = true) : run P Γ lf (n + 4) x.f_need_hypotheses [hT hs] s = .ok (.val .non) s := by
  rw [run_at D.need_hypotheses rfl]
  simp [cc_need_hypotheses, startE_def, opd, fits_hyps_ev A D hs hl ho]
theorem need_both_ev {ps : List Pg} (h : PlainOk ps) (hs : List Hy) (hl : hs.length ≤ 5) (ho : ∀ h ∈ hs, h.okB = true) : run P Γ lf (n + 32) x.f_need_both [tupP ps, hT hs] s = .ok (.val .non) s := by
  rw [run_at D.need_both rfl]
  have e1 := need_plain_ev (P := P) (lf := lf) (n := n) (s := s) A C D h
  have e2 := need_hyps_ev (P := P) (lf := lf) (n := n + 27) (s := s) A D hs hl ho
  have e2 : run P Γ lf (n + 31) x.f_need_hypotheses [hT hs] s = .ok (.val .non) s := e2
  simp [cc_need_both, startE_def, opd, e1, e2]
theorem ends_ev (B : LibB Γ x) (hE : Γ[x.f_ends_from]? = some (cc_ends_from x)) (hlf : 64 < lf) {ps : List Pg} (h : PlainOk ps) (hs : List Hy) (hl : hs.length ≤ 5) (ho : ∀ h ∈ hs, h.okB = true) :
    run P Γ lf (n + 60) x.f_ends_from [tupP ps, hT hs] s = .ok (.val (tbT (tabB hs ps same))) s := by
  rw [run_at hE rfl]
  have e1 := need_both_ev (P := P) (lf := lf) (n := n + 27) (s := s) A C D h hs hl ho
  have e1 : run P Γ lf (n + 59) x.f_need_both [tupP ps, hT hs] s = .ok (.val .non) s := e1
  have e2 := (table_ev (P := P) A B hlf hs (by omega) 25 (n + 3)).2 ps h.hgt s
  have e2 : run P Γ lf (n + 59) x.f_table_by [tupP ps, hT hs] s = .ok (.val (tbT (tabB hs ps same))) s := e2
  simp [cc_ends_from, startE_def, opd, e1, e2]
end
end Tw

set_option Elab.async false
set_option linter.all false
set_option maxRecDepth 100000
set_option maxHeartbeats 4000000
/-! TwE: what the laws draw. -/
namespace Tw
open PySem L2 TW
/-- the cup's state -/
abbrev Cup := Int × Int
def cupO (c : Cup) : O := .lst [.int c.1, .int c.2]
def mixI (b : Int) : Int := (b * 31139 + 8081) % 2147483543
def deepI (b : Int) : Int := b * (b + 271) % 2147483587 / 863
def rollI (c : Cup) (m : Int) : Int × Cup := if 0 < c.1 then (c.1 % m, (c.1 / m, c.2)) else (deepI (mixI c.2) % m, (c.1, mixI c.2))
theorem roll_lt (c : Cup) {m : Int} (h : 0 < m) : 0 ≤ (rollI c m).1 ∧ (rollI c m).1 < m := by
  unfold rollI
  split
  · exact ⟨Int.emod_nonneg _ (by omega), Int.emod_lt_of_pos _ h⟩
  · exact ⟨Int.emod_nonneg _ (by omega), Int.emod_lt_of_pos _ h⟩
theorem mulT_int (st : Sto) {a b : Int} (h : (TW.small64 a || TW.small64 b) = true) : opBin st .mul (.int a) (.int b) = some (.val (.int (a * b))) := by
  show (if (TW.small64 a || TW.small64 b) = true then some (Ow.val (.int (a * b))) else none) = _
  rw [if_pos h]
theorem intOp_mod {a : Int} {b : Int} (h : 0 < b) : intOp .mod a b = some (a % b) := by
  show (if decide (0 < b) = true then some (a % b) else none) = _
  rw [if_pos (by simpa using h)]
theorem intOp_fdiv {a : Int} {b : Int} (h : 0 < b) (h2 : b < 1073741824) : intOp .fdiv a b = some (a / b) := by
  show (if (decide (0 < b) && decide (b < 1073741824)) = true then some (a / b) else none) = _
  rw [if_pos (by simp [h, h2])]
theorem small_ok {a : Int} (h : 0 ≤ a) (h2 : a < 18446744073709551616) : TW.small64 a = true := by
  unfold TW.small64
  simp
  omega
section
variable {P : Pm} {Γ : List TW.Fn} {lf n : Nat} {x : Ix} {s r : Sto}
theorem mix_ok (b : Int) : 0 ≤ mixI b ∧ mixI b < 2147483543 := ⟨Int.emod_nonneg _ (by decide), Int.emod_lt_of_pos _ (by decide)⟩
theorem mix_ev (st : Sto) (b : Int) : opBin st .mul (.int b) (.int 31139) = some (.val (.int (b * 31139))) := mulT_int st (by rw [show TW.small64 31139 = true by decide, Bool.or_true])
theorem mix_mod (b : Int) : intOp .mod (b * 31139 + 8081) 2147483543 = some (mixI b) := intOp_mod (by decide)
theorem deep_ev (st : Sto) (b : Int) : opBin st .mul (.int (mixI b)) (.int (mixI b + 271)) = some (.val (.int (mixI b * (mixI b + 271)))) := mulT_int st (by rw [small_ok (mix_ok b).1 (by have := (mix_ok b).2; omega), Bool.true_or])
theorem deep_mod (b : Int) : intOp .mod (mixI b * (mixI b + 271)) 2147483587 = some (mixI b * (mixI b + 271) % 2147483587) := intOp_mod (by decide)
theorem deep_div (b : Int) : intOp .fdiv (mixI b * (mixI b + 271) % 2147483587) 863 = some (deepI (mixI b)) := intOp_fdiv (by decide) (by decide)
theorem ixN2_0 : ixN 2 0 = some 0 := rfl
theorem ixN2_1 : ixN 2 1 = some 1 := rfl
theorem roll_ev (h : Γ[x.f_law_roll]? = some (cc_law_roll x)) (c : Cup) (m : Int) (h1 : 0 < m) (h2 : m < 1000000000) : run P Γ lf (n + 1) x.f_law_roll [.ref 0, .int m] (cupO c :: r) = .ok (.val (.int (rollI c m).1)) (cupO (rollI c m).2 :: r) := by
  rw [run_at h rfl]
  obtain ⟨a, b⟩ := c
  have hm2 : m < 1073741824 := by omega
  by_cases ha : 0 < a
  · simp [cc_law_roll, startE_def, opd, cupO, ixT, ha, intOp_mod h1, intOp_fdiv h1 hm2, isOb, chg, setiO, ixN2_0, rollI]
  · simp [cc_law_roll, startE_def, opd, cupO, ixT, ha, mix_ev, mix_mod, deep_ev, deep_mod, deep_div, intOp_mod h1, isOb, chg, setiO, ixN2_1, rollI]
structure LibL (Γ : List TW.Fn) (x : Ix) : Prop where
  cup : Γ[x.f_law_cup]? = some (cc_law_cup x)
  roll : Γ[x.f_law_roll]? = some (cc_law_roll x)
  some_ : Γ[x.f_law_some]? = some (cc_law_some x)
  set : Γ[x.f_law_set]? = some (cc_law_set x)
  step : Γ[x.f_law_step]? = some (cc_law_step x)
  block : Γ[x.f_law_block]? = some (cc_law_block x)
variable (L : LibL Γ x)
include L
theorem some_ev (c : Cup) (l : List T) (h1 : 0 < l.length) (h2 : l.length < 1000) : ∃ t, l[(rollI c l.length).1.toNat]? = some t ∧ ∀ r : Sto, run P Γ lf (n + 2) x.f_law_some [.ref 0, .lst l] (cupO c :: r) = .ok (.val t) (cupO (rollI c l.length).2 :: r) := by
  obtain ⟨q1, q2⟩ := roll_lt c (m := (l.length : Int)) (by omega)
  have hlt : (rollI c l.length).1.toNat < l.length := by omega
  refine ⟨l[(rollI c l.length).1.toNat], by simp [hlt], fun r => ?_⟩
  rw [run_at L.some_ rfl]
  have e := roll_ev (P := P) (lf := lf) (n := n) (r := r) L.roll c (l.length : Int) (by omega) (by omega)
  have e2 : atI l (rollI c l.length).1 = some l[(rollI c l.length).1.toNat] := by
    have := atI_at (l := l) (k := (rollI c l.length).1.toNat) (a := l[(rollI c l.length).1.toNat]) (by simp [hlt])
    rw [Int.toNat_of_nonneg q1] at this
    exact this
  simp [cc_law_some, startE_def, opd, e, e2]
def setL (v w : Int) : List Int := [170, 85, 204, 51, 240, 15, 255, 0, 1, 128, v, w]
def setF (c : Cup) : Int × Cup :=
  ((setL (rollI c 256).1 (rollI (rollI c 256).2 256).1).getD (rollI (rollI (rollI c 256).2 256).2 12).1.toNat 0, (rollI (rollI (rollI c 256).2 256).2 12).2)
omit L in
theorem set_lt (c : Cup) : 0 ≤ (setF c).1 ∧ (setF c).1 < 256 := by
  have h1 := roll_lt c (m := 256) (by decide)
  have h2 := roll_lt (rollI c 256).2 (m := 256) (by decide)
  have h3 := roll_lt (rollI (rollI c 256).2 256).2 (m := 12) (by decide)
  have : ∀ (v w : Int) (i : Nat), 0 ≤ v → v < 256 → 0 ≤ w → w < 256 → 0 ≤ (setL v w).getD i 0 ∧ (setL v w).getD i 0 < 256 := by
    intro v w i a b c d
    match i with
    | 0 => simp [setL]
    | 1 => simp [setL]
    | 2 => simp [setL]
    | 3 => simp [setL]
    | 4 => simp [setL]
    | 5 => simp [setL]
    | 6 => simp [setL]
    | 7 => simp [setL]
    | 8 => simp [setL]
    | 9 => simp [setL]
    | 10 => exact ⟨a, b⟩
    | 11 => exact ⟨c, d⟩
    | n + 12 => exact ⟨by show (0 : Int) ≤ 0; decide, by show (0 : Int) < 256; decide⟩
  exact this _ _ _ h1.1 h1.2 h2.1 h2.2
theorem set_ev (c : Cup) : run P Γ lf (n + 3) x.f_law_set [.ref 0] (cupO c :: r) = .ok (.val (.int (setF c).1)) (cupO (setF c).2 :: r) := by
  rw [run_at L.set rfl]
  have e1 := roll_ev (P := P) (lf := lf) (n := n + 1) (r := r) L.roll c 256 (by decide) (by decide)
  have e2 := roll_ev (P := P) (lf := lf) (n := n + 1) (r := r) L.roll (rollI c 256).2 256 (by decide) (by decide)
  have h3 := roll_lt (rollI (rollI c 256).2 256).2 (m := 12) (by decide)
  obtain ⟨t, q1, q2⟩ := some_ev (P := P) (lf := lf) (n := n) L (rollI (rollI c 256).2 256).2 ((setL (rollI c 256).1 (rollI (rollI c 256).2 256).1).map .int) (by simp [setL]) (by simp [setL])
  have q2 := q2 r
  rw [List.length_map, show (((setL (rollI c 256).1 (rollI (rollI c 256).2 256).1).length : Nat) : Int) = 12 from rfl] at q1 q2
  rw [List.getElem?_map] at q1
  have q3 : t = .int (setF c).1 := by
    obtain ⟨i, q4, rfl⟩ := Option.map_eq_some_iff.mp q1
    unfold setF
    rw [List.getD_eq_getElem?_getD, q4]
    rfl
  subst q3
  simp only [setL, List.map_cons, List.map_nil] at q2
  simp [cc_law_set, startE_def, opd, e1, e2, fits, q2]
  rfl
/-! ### programs -/
def act (v : Int) : Pg := .act v.toNat
def stepF (blk : Cup → List Pg × Cup) (zero : Bool) (c : Cup) : Pg × Cup :=
  if (rollI c 12).1 < 5 then (act (rollI (rollI c 12).2 3).1, (rollI (rollI c 12).2 3).2)
  else if (rollI c 12).1 = 5 then (.skip, (rollI c 12).2)
  else if (rollI c 12).1 = 6 then (.asr (setF (rollI c 12).2).1.toNat, (setF (rollI c 12).2).2)
  else if (rollI c 12).1 = 7 ∧ (rollI (rollI c 12).2 3).1 = 0 then (.abort, (rollI (rollI c 12).2 3).2)
  else if zero = true then (act (rollI (if (rollI c 12).1 = 7 then (rollI (rollI c 12).2 3).2 else (rollI c 12).2) 2).1, (rollI (if (rollI c 12).1 = 7 then (rollI (rollI c 12).2 3).2 else (rollI c 12).2) 2).2)
  else if (rollI c 12).1 < 10 then
    (.ite (setF (if (rollI c 12).1 = 7 then (rollI (rollI c 12).2 3).2 else (rollI c 12).2)).1.toNat
      (blk (setF (if (rollI c 12).1 = 7 then (rollI (rollI c 12).2 3).2 else (rollI c 12).2)).2).1
      (blk (blk (setF (if (rollI c 12).1 = 7 then (rollI (rollI c 12).2 3).2 else (rollI c 12).2)).2).2).1,
      (blk (blk (setF (if (rollI c 12).1 = 7 then (rollI (rollI c 12).2 3).2 else (rollI c 12).2)).2).2).2)
  else (.whl (setF (rollI c 12).2).1.toNat (blk (setF (rollI c 12).2).2).1, (blk (setF (rollI c 12).2).2).2)
def blockF : Nat → Cup → List Pg × Cup
  | 0, c => rep (stepF (fun c => ([], c)) true) (1 + (rollI c 2).1).toNat (rollI c 2).2
  | d + 1, c => rep (stepF (blockF d) false) (1 + (rollI c 2).1).toNat (rollI c 2).2
omit L in
theorem nT_toNat {v : Int} (h : 0 ≤ v) : nT v.toNat = .int v := by
  unfold nT
  rw [Int.toNat_of_nonneg h]
theorem step_ev (blk : Cup → List Pg × Cup) (d : Nat) (hb : d ≠ 0 → ∀ c r, run P Γ lf (n + 3) x.f_law_block [.ref 0, .int ((d : Int) - 1)] (cupO c :: r) = .ok (.val (tupP (blk c).1)) (cupO (blk c).2 :: r)) (c : Cup) :
    run P Γ lf (n + 4) x.f_law_step [.ref 0, .int d] (cupO c :: r) = .ok (.val (stepF blk (decide (d = 0)) c).1.t) (cupO (stepF blk (decide (d = 0)) c).2 :: r) := by
  rw [run_at L.step rfl]
  have r12 := roll_ev (P := P) (lf := lf) (n := n + 2) (r := r) L.roll c 12 (by decide) (by decide)
  have r3 := roll_ev (P := P) (lf := lf) (n := n + 2) (r := r) L.roll (rollI c 12).2 3 (by decide) (by decide)
  have l12 := roll_lt c (m := 12) (by decide)
  have l3 := roll_lt (rollI c 12).2 (m := 3) (by decide)
  unfold stepF
  by_cases h5 : (rollI c 12).1 < 5
  · simp [cc_law_step, startE_def, opd, r12, h5, r3, fits, Pg.t, act, nT_toNat l3.1]
  by_cases e5 : (rollI c 12).1 = 5
  · simp [cc_law_step, startE_def, opd, r12, h5, e5, fits, Pg.t]
  by_cases e6 : (rollI c 12).1 = 6
  · have sv := set_ev (P := P) (lf := lf) (n := n) (r := r) L (rollI c 12).2
    simp [cc_law_step, startE_def, opd, r12, h5, e5, e6, fits, Pg.t, sv, nT_toNat (set_lt (rollI c 12).2).1]
  by_cases e7 : (rollI c 12).1 = 7
  · by_cases e0 : (rollI (rollI c 12).2 3).1 = 0
    · simp [cc_law_step, startE_def, opd, r12, h5, e5, e6, e7, e0, r3, fits, Pg.t]
    · have r2 := roll_ev (P := P) (lf := lf) (n := n + 2) (r := r) L.roll (rollI (rollI c 12).2 3).2 2 (by decide) (by decide)
      have l2 := roll_lt (rollI (rollI c 12).2 3).2 (m := 2) (by decide)
      by_cases hd : d = 0
      · subst hd
        simp [cc_law_step, startE_def, opd, r12, h5, e5, e6, e7, e0, r3, r2, fits, Pg.t, act, nT_toNat l2.1]
      · have sv := set_ev (P := P) (lf := lf) (n := n) (r := r) L (rollI (rollI c 12).2 3).2
        have b1 := hb hd (setF (rollI (rollI c 12).2 3).2).2 r
        have b2 := hb hd (blk (setF (rollI (rollI c 12).2 3).2).2).2 r
        simp [tupP] at b1 b2
        simp [cc_law_step, startE_def, opd, r12, h5, e5, e6, e7, e0, r3, fits, Pg.t, hd, sv, b1, b2, nT_toNat (set_lt (rollI (rollI c 12).2 3).2).1]
  · have r2 := roll_ev (P := P) (lf := lf) (n := n + 2) (r := r) L.roll (rollI c 12).2 2 (by decide) (by decide)
    have l2 := roll_lt (rollI c 12).2 (m := 2) (by decide)
    by_cases hd : d = 0
    · subst hd
      simp [cc_law_step, startE_def, opd, r12, h5, e5, e6, e7, r3, r2, fits, Pg.t, act, nT_toNat l2.1]
    · have sv := set_ev (P := P) (lf := lf) (n := n) (r := r) L (rollI c 12).2
      have b1 := hb hd (setF (rollI c 12).2).2 r
      have b2 := hb hd (blk (setF (rollI c 12).2).2).2 r
      simp [tupP] at b1 b2
      by_cases h10 : (rollI c 12).1 < 10
      · simp [cc_law_step, startE_def, opd, r12, h5, e5, e6, e7, h10, fits, Pg.t, hd, sv, b1, b2, nT_toNat (set_lt (rollI c 12).2).1]
      · simp [cc_law_step, startE_def, opd, r12, h5, e5, e6, e7, h10, fits, Pg.t, hd, sv, b1, b2, nT_toNat (set_lt (rollI c 12).2).1]
theorem block_at (d : Nat) (stp : Cup → Pg × Cup) (hs : ∀ c r, run P Γ lf (n + 1) x.f_law_step [.ref 0, .int d] (cupO c :: r) = .ok (.val (stp c).1.t) (cupO (stp c).2 :: r)) (c : Cup) :
    run P Γ lf (n + 2) x.f_law_block [.ref 0, .int d] (cupO c :: r) = .ok (.val (tupP (rep stp (1 + (rollI c 2).1).toNat (rollI c 2).2).1)) (cupO (rep stp (1 + (rollI c 2).1).toNat (rollI c 2).2).2 :: r) := by
  rw [run_at L.block rfl]
  have r2 := roll_ev (P := P) (lf := lf) (n := n) (r := r) L.roll c 2 (by decide) (by decide)
  have l2 := roll_lt c (m := 2) (by decide)
  have e1 : small62 (1 + (rollI c 2).1) = true := by unfold small62; simp; omega
  simp [cc_law_block, startE_def, opd, r2, e1]
  rw [lcGo_rep (S := fun c => cupO c :: r) (g := Pg.t) (h := stp) (fun _ => True) (fun _ _ => trivial) (fun t c _ => by simp [hs c r]) trivial (by simp [rngT]; omega)]
  have e2 : (rngT 0 (1 + (rollI c 2).1)).length = (1 + (rollI c 2).1).toNat := by simp [rngT]
  rw [e2]
  simp [tupP, pgT_map]
theorem block_ev : ∀ (d : Nat) (n : Nat) (c : Cup) (r : Sto), run P Γ lf (n + 5 + 2 * d) x.f_law_block [.ref 0, .int d] (cupO c :: r) = .ok (.val (tupP (blockF d c).1)) (cupO (blockF d c).2 :: r)
  | 0, n, c, r => by
    have := block_at (P := P) (lf := lf) (n := n + 3) (r := r) L 0 (stepF (fun c => ([], c)) true) (fun c r => by
      have := step_ev (P := P) (lf := lf) (n := n) (r := r) L (fun c => ([], c)) 0 (fun h => absurd rfl h) c
      simpa using this) c
    exact this
  | d + 1, n, c, r => by
    have := block_at (P := P) (lf := lf) (n := n + 5 + 2 * d) (r := r) L (d + 1) (stepF (blockF d) false) (fun c r => by
      have := step_ev (P := P) (lf := lf) (n := n + 2 + 2 * d) (r := r) L (blockF d) (d + 1) (fun _ c r => by
        have := block_ev d n c r
        rw [show n + 5 + 2 * d = n + 2 + 2 * d + 3 by omega] at this
        rw [show (((d + 1 : Nat) : Int) - 1) = (d : Int) by omega]
        exact this) c
      rw [show n + 2 + 2 * d + 4 = n + 5 + 2 * d + 1 by omega] at this
      simpa using this) c
    rw [show n + 5 + 2 * (d + 1) = n + 5 + 2 * d + 2 by omega]
    exact this
/-! ### hypotheses -/
def hypF (c : Cup) : Hy × Cup :=
  if (rollI c 2).1 = 0 then (.keep (rollI (rollI c 2).2 3).1.toNat (rollI (rollI (rollI c 2).2 3).2 3).1.toNat, (rollI (rollI (rollI c 2).2 3).2 3).2)
  else (.forbid (rollI (rollI c 2).2 3).1.toNat (setF (rollI (rollI c 2).2 3).2).1.toNat (setF (setF (rollI (rollI c 2).2 3).2).2).1.toNat, (setF (setF (rollI (rollI c 2).2 3).2).2).2)
def hypsF (c : Cup) (most : Int) : List Hy × Cup := (List.range (rollI c (most + 1)).1.toNat).foldl (fun st _ => (st.1 ++ [(hypF st.2).1], (hypF st.2).2)) ([], (rollI c (most + 1)).2)
omit L in
theorem hyp_ok (c : Cup) : (hypF c).1.okB = true := by
  unfold hypF
  have l1 := roll_lt (rollI c 2).2 (m := 3) (by decide)
  have l2 := roll_lt (rollI (rollI c 2).2 3).2 (m := 3) (by decide)
  have s1 := set_lt (rollI (rollI c 2).2 3).2
  have s2 := set_lt (setF (rollI (rollI c 2).2 3).2).2
  split
  · simp [Hy.okB]; omega
  · simp [Hy.okB]; omega
omit L in
theorem hyps_fold (l : List Nat) : ∀ (st : List Hy × Cup), (∀ h ∈ st.1, h.okB = true) → (∀ h ∈ (l.foldl (fun st _ => (st.1 ++ [(hypF st.2).1], (hypF st.2).2)) st).1, h.okB = true) ∧ (l.foldl (fun st _ => (st.1 ++ [(hypF st.2).1], (hypF st.2).2)) st).1.length = st.1.length + l.length := by
  induction l with
  | nil => intro st h; exact ⟨h, rfl⟩
  | cons a l ih =>
    intro st h
    obtain ⟨h1, h2⟩ := ih (st.1 ++ [(hypF st.2).1], (hypF st.2).2) (fun q hq => by
      simp at hq
      rcases hq with hq | rfl
      · exact h q hq
      · exact hyp_ok _)
    refine ⟨h1, ?_⟩
    rw [List.foldl_cons, h2]
    simp
    omega
omit L in
theorem hyps_ok (c : Cup) {most : Int} (h : 0 ≤ most) : (∀ h ∈ (hypsF c most).1, h.okB = true) ∧ ((hypsF c most).1.length : Int) ≤ most := by
  obtain ⟨h1, h2⟩ := hyps_fold (List.range (rollI c (most + 1)).1.toNat) ([], (rollI c (most + 1)).2) (fun h hh => by cases hh)
  have l := roll_lt c (m := most + 1) (by omega)
  refine ⟨h1, ?_⟩
  unfold hypsF
  rw [h2]
  simp
  omega
structure LibM (Γ : List TW.Fn) (x : Ix) : Prop where
  hyps : Γ[x.f_law_hypotheses]? = some (cc_law_hypotheses x)
  blocks : Γ[x.f_law_blocks]? = some (cc_law_blocks x)
  steps : Γ[x.f_law_steps]? = some (cc_law_steps x)
  drawn : Γ[x.f_law_drawn]? = some (cc_law_drawn x)
variable (M : LibM Γ x)
include M
theorem hyps_ev (c : Cup) (most : Nat) (hm : most ≤ 100) : run P Γ lf (n + 5) x.f_law_hypotheses [.ref 0, .int most] (cupO c :: r) = .ok (.val (hT (hypsF c most).1)) (cupO (hypsF c most).2 :: r) := by
  rw [run_at M.hyps rfl]
  have rm := roll_ev (P := P) (lf := lf) (n := n + 3) (r := r) L.roll c ((most : Int) + 1) (by omega) (by omega)
  have lm := roll_lt c (m := (most : Int) + 1) (by omega)
  have e1 : small62 (rollI c ((most : Int) + 1)).1 = true := by unfold small62; simp; omega
  have e2 : rngT 0 (rollI c ((most : Int) + 1)).1 = (List.range (rollI c ((most : Int) + 1)).1.toNat).map nT := by
    have := rngT_nat (rollI c ((most : Int) + 1)).1.toNat
    rw [Int.toNat_of_nonneg lm.1] at this
    exact this
  simp [cc_law_hypotheses, startE_def, opd, fits, rm, e1, e2]
  erw [forGo_foldS (E := fun (q : (List Hy × Cup) × Option T) => [.val (.ref 0), .val (.int most), .val (hT q.1.1), sl q.2]) (S := fun q => cupO q.1.2 :: r) (step := fun q i => ((q.1.1 ++ [(hypF q.1.2).1], (hypF q.1.2).2), some (nT i))) (acc := (([], (rollI c ((most : Int) + 1)).2), none)) (fun rest q => q.1.1.length + rest.length ≤ 100000) (fun i rest q hq => by
      obtain ⟨⟨hs, c⟩, j⟩ := q
      have hq : hs.length + (rest.length + 1) ≤ 100000 := hq
      have r2 := roll_ev (P := P) (lf := lf) (n := n + 3) (r := r) L.roll c 2 (by decide) (by decide)
      have r3 := roll_ev (P := P) (lf := lf) (n := n + 3) (r := r) L.roll (rollI c 2).2 3 (by decide) (by decide)
      have l3 := roll_lt (rollI c 2).2 (m := 3) (by decide)
      have ff : fits (hs.length + 1) = true := fits_of (by omega)
      refine ⟨?_, by simp; omega⟩
      by_cases h0 : (rollI c 2).1 = 0
      · have r33 := roll_ev (P := P) (lf := lf) (n := n + 3) (r := r) L.roll (rollI (rollI c 2).2 3).2 3 (by decide) (by decide)
        have l33 := roll_lt (rollI (rollI c 2).2 3).2 (m := 3) (by decide)
        simp [opd, r2, r3, r33, h0, fits, hT, hypF, Hy.t, nT_toNat l3.1, nT_toNat l33.1]
        simp [fits] at ff
        simp [ff]
      · have s1 := set_ev (P := P) (lf := lf) (n := n + 1) (r := r) L (rollI (rollI c 2).2 3).2
        have s2 := set_ev (P := P) (lf := lf) (n := n + 1) (r := r) L (setF (rollI (rollI c 2).2 3).2).2
        simp [opd, r2, r3, s1, s2, h0, fits, hT, hypF, Hy.t, nT_toNat l3.1, nT_toNat (set_lt (rollI (rollI c 2).2 3).2).1, nT_toNat (set_lt (setF (rollI (rollI c 2).2 3).2).2).1]
        simp [fits] at ff
        simp [ff]) (by simp; omega)]
  have ef : (List.foldl (fun (q : (List Hy × Cup) × Option T) (i : Nat) => ((q.fst.fst ++ [(hypF q.fst.snd).fst], (hypF q.fst.snd).snd), some (nT i))) (([], (rollI c (↑most + 1)).snd), none) (List.range (rollI c (↑most + 1)).fst.toNat)).1 = hypsF c most :=
    foldl_fst (f := fun (st : List Hy × Cup) (_ : Nat) => (st.1 ++ [(hypF st.2).1], (hypF st.2).2)) (k := fun _ i => some (nT i)) _ _ _
  simp [ef]
/-! ### the law's own steps -/
omit L in
theorem lblocks_ev (p : Pg) : run P Γ lf (n + 1) x.f_law_blocks [p.t] s = .ok (.own (.lst (p.subs.map tupP))) s := by
  rw [run_at M.blocks rfl]
  have e : ∀ (st : Sto) (w : Str), (PyData.str w).canLay0 = true → inT P st (.str w) (.lst [.str "if", .str "while"]) = some (decide (("if" : Str) = w) || (decide (("while" : Str) = w) || false)) := by
    intro st w hw
    show (if (okD (T.top st (.str w)) && okD (.lst [.str "if", .str "while"])) = true then some ([T.str "if", T.str "while"].any fun t => eqT t (T.top st (.str w))) else none) = _
    rw [if_pos (by
      rw [Bool.and_eq_true]
      exact ⟨(str_ok hw 0).okD (by omega), (okT_lst (d := 0) fun t ht => by
        simp at ht
        rcases ht with rfl | rfl
        · exact str_ok (by simp) _
        · exact str_ok (by simp) _).okD (by omega)⟩)]
    show some (eqT (.str "if") (.str w) || (eqT (.str "while") (.str w) || false)) = _
    rw [eqT_str, eqT_str]
  cases p <;> simp [cc_law_blocks, startE_def, Pg.t, opd, fits, e, cut2_3, cut2_4, Pg.subs, tupP]
omit L in
theorem lsteps_core (N : Nat) (hN : N = n + 1) (ps : List Pg) (hz : sizes ps ≤ 100000) (hb : ∀ p ∈ ps, ∀ b ∈ p.subs, ∀ s, run P Γ lf N x.f_law_steps [tupP b] s = .ok (.own (.lst ((flats b).map Pg.t))) s) :
    run P Γ lf (N + 1) x.f_law_steps [tupP ps] s = .ok (.own (.lst ((flats ps).map Pg.t))) s := by
  subst hN
  rw [run_at M.steps rfl]
  have e3 : (tupP ps).itr? = some (ps.map Pg.t) := by rw [← pgT_map]; rfl
  simp [cc_law_steps, startE_def, opd, fits, e3]
  erw [forGo_foldR (E := fun (q : List Pg × (Option T × Option T)) => [.val (tupP ps), .own (.lst (q.1.map Pg.t)), sl q.2.1, sl q.2.2]) (step := fun q p => (q.1 ++ p.flat, (some p.t, (p.subs.foldl (fun (_ : Option T) b => some (tupP b)) q.2.2)))) (acc := ([], (none, none)))
    (fun rest q => q.1.length + sizes rest ≤ 100000 ∧ ∀ p ∈ rest, p ∈ ps) (fun p rest q hq => by
      obtain ⟨q1, j2, j3⟩ := q
      obtain ⟨hk, hm⟩ := hq
      rw [sizes] at hk
      have hk : q1.length + (p.size + sizes rest) ≤ 100000 := hk
      have fl := flat_len p
      refine ⟨?_, by simp [fl]; omega, fun p' hp' => hm p' (List.mem_cons_of_mem _ hp')⟩
      have hpm := hm p List.mem_cons_self
      have bl := lblocks_ev (P := P) (lf := lf) (n := n) (s := s) M p
      have l1 : q1.length < 16777216 := by omega
      simp [opd, isL, bl, chg, appO, l1]
      rw [show List.map Pg.t q1 ++ [p.t] = (q1 ++ [p]).map Pg.t by simp]
      erw [forGo_foldR (E := fun (r : List Pg × Option T) => [.val (tupP ps), .own (.lst (r.1.map Pg.t)), .val p.t, sl r.2]) (step := fun r b => (r.1 ++ flats b, some (tupP b))) (acc := (q1 ++ [p], j3))
        (fun rest r => r.1.length + (rest.map sizes).sum ≤ 200000 ∧ ∀ b ∈ rest, b ∈ p.subs) (fun b rest r hr => by
          obtain ⟨r1, j⟩ := r
          obtain ⟨hk', hm'⟩ := hr
          rw [List.map_cons, List.sum_cons] at hk'
          have hk' : r1.length + (sizes b + (rest.map sizes).sum) ≤ 200000 := hk'
          have fb := flats_len b
          refine ⟨?_, by simp [fb]; omega, fun c hc => hm' c (List.mem_cons_of_mem _ hc)⟩
          have e := hb p hpm b (hm' b List.mem_cons_self) s
          have ff : fits (r1.length + (flats b).length) = true := fits_of (by omega)
          simp [e, opd, ff]) ⟨by
            have : p.size = 1 + (p.subs.map sizes).sum := by
              cases p <;> simp [Pg.size, Pg.subs]
              omega
            simp; omega, fun b hb => hb⟩]
      have e1 : ∀ (l : List (List Pg)) (r : List Pg) (j : Option T), l.foldl (fun (r : List Pg × Option T) b => (r.1 ++ flats b, some (tupP b))) (r, j) = (r ++ l.flatMap flats, l.foldl (fun (_ : Option T) b => some (tupP b)) j) := by
        intro l
        induction l with
        | nil => intro r j; simp
        | cons c l ih => intro r j; rw [List.foldl_cons, ih]; simp
      rw [e1, flat_eq p]
      simp) ⟨by simpa using hz, fun p hp => hp⟩]
  have e2 : ∀ (l : List Pg) (r : List Pg) (j : Option T × Option T), (l.foldl (fun (q : List Pg × (Option T × Option T)) p => (q.1 ++ p.flat, (some p.t, (p.subs.foldl (fun (_ : Option T) b => some (tupP b)) q.2.2)))) (r, j)).1 = r ++ l.flatMap Pg.flat := by
    intro l
    induction l with
    | nil => intro r j; simp
    | cons c l ih => intro r j; rw [List.foldl_cons, ih]; simp
  simp [e2, flats_eq]
omit L in
theorem lsteps_ev : ∀ (m n : Nat) (ps : List Pg), hgts ps ≤ m → sizes ps ≤ 100000 → oks ps = true → ∀ s, run P Γ lf (n + 2 + m) x.f_law_steps [tupP ps] s = .ok (.own (.lst ((flats ps).map Pg.t))) s := by
  intro m
  induction m with
  | zero =>
    intro n ps h1 h2 h3 s
    refine lsteps_core M (n := n) (n + 1) rfl ps h2 fun p hp b hb => ?_
    exfalso
    have h6 := (subs_facts p (oks_mem h3 hp)).1 b hb
    have h7 := hgts_mem hp
    omega
  | succ m ih =>
    intro n ps h1 h2 h3 s
    refine lsteps_core M (n := n + 1 + m) (n + 2 + m) (by omega) ps h2 fun p hp b hb s => ?_
    obtain ⟨q1, q2, q3⟩ := (subs_facts p (oks_mem h3 hp)).1 b hb
    have h7 := hgts_mem hp
    refine ih n b (by omega) ?_ q1 s
    have h8 := (subs_facts p (oks_mem h3 hp)).2
    have h9 : sizes b ≤ (p.subs.map sizes).sum := sum_mem (List.mem_map.mpr ⟨b, hb, rfl⟩)
    have h10 : p.size ≤ sizes ps := by rw [sizes_map]; exact sum_mem (List.mem_map.mpr ⟨p, hp, rfl⟩)
    omega
/-! ### what is drawn is a plain program -/
structure Drw (ps : List Pg) (h z : Nat) : Prop where
  ne : ps ≠ []
  ok : oks ps = true
  hgt : hgts ps ≤ h
  size : sizes ps ≤ z
omit L M in
theorem rep_drw {stp : Cup → Pg × Cup} {h z : Nat} (hs : ∀ c, (stp c).1.ok = true ∧ (stp c).1.hgt ≤ h ∧ (stp c).1.size ≤ z) : ∀ (k : Nat) (c : Cup), oks (rep stp k c).1 = true ∧ hgts (rep stp k c).1 ≤ h ∧ sizes (rep stp k c).1 ≤ k * z ∧ (0 < k → (rep stp k c).1 ≠ [])
  | 0, c => by simp [rep, oks, hgts, sizes]
  | k + 1, c => by
    obtain ⟨h1, h2, h3, _⟩ := rep_drw hs k (stp c).2
    obtain ⟨q1, q2, q3⟩ := hs c
    refine ⟨by rw [rep, oks, q1, h1]; rfl, by rw [rep, hgts]; exact Nat.max_le.mpr ⟨q2, h2⟩, ?_, fun _ => by simp [rep]⟩
    rw [rep, sizes, Nat.succ_mul]
    omega
omit L M in
theorem act_okS {v : Int} (h : 0 ≤ v ∧ v < 3) : (act v).ok = true ∧ (act v).hgt = 0 ∧ (act v).size = 1 := by
  refine ⟨?_, by simp [act, Pg.hgt], by simp [act, Pg.size]⟩
  simp [act, Pg.ok]
  omega
omit L M in
theorem step_drw {blk : Cup → List Pg × Cup} {h z : Nat} {zero : Bool} (hz : zero = false → ∀ c, Drw (blk c).1 h z) (c : Cup) :
    (stepF blk zero c).1.ok = true ∧ (stepF blk zero c).1.hgt ≤ (if zero = true then 0 else h + 1) ∧ (stepF blk zero c).1.size ≤ (if zero = true then 1 else 1 + 2 * z) := by
  have a3 := act_okS (roll_lt (rollI c 12).2 (m := 3) (by decide))
  have a2 : ∀ c', (act (rollI c' 2).1).ok = true ∧ (act (rollI c' 2).1).hgt = 0 ∧ (act (rollI c' 2).1).size = 1 := fun c' => act_okS (by have := roll_lt c' (m := 2) (by decide); omega)
  have sv : ∀ c', (setF c').1.toNat < 256 := fun c' => by have := set_lt c'; omega
  unfold stepF
  split
  · rw [a3.1, a3.2.1, a3.2.2]; refine ⟨rfl, Nat.zero_le _, ?_⟩; split <;> omega
  split
  · refine ⟨rfl, by simp [Pg.hgt], ?_⟩; simp [Pg.size]; split <;> omega
  split
  · refine ⟨by simp [Pg.ok, sv], by simp [Pg.hgt], ?_⟩; simp [Pg.size]; split <;> omega
  split
  · refine ⟨rfl, by simp [Pg.hgt], ?_⟩; simp [Pg.size]; split <;> omega
  split
  · rename_i hzero
    subst hzero
    obtain ⟨q1, q2, q3⟩ := a2 (if (rollI c 12).1 = 7 then (rollI (rollI c 12).2 3).2 else (rollI c 12).2)
    rw [q1, q2, q3]
    exact ⟨rfl, Nat.zero_le _, Nat.le_refl _⟩
  · rename_i hzero
    have hzf : zero = false := by cases zero <;> simp at hzero ⊢
    subst hzf
    try simp only [Bool.false_eq_true, if_false]
    split
    · have b1 := hz rfl (setF (if (rollI c 12).1 = 7 then (rollI (rollI c 12).2 3).2 else (rollI c 12).2)).2
      have b2 := hz rfl (blk (setF (if (rollI c 12).1 = 7 then (rollI (rollI c 12).2 3).2 else (rollI c 12).2)).2).2
      refine ⟨by simp [Pg.ok, sv, b1.ok, b2.ok, b1.ne, b2.ne], by rw [Pg.hgt]; have := b1.hgt; have := b2.hgt; omega, by rw [Pg.size]; have := b1.size; have := b2.size; omega⟩
    · have b1 := hz rfl (setF (rollI c 12).2).2
      refine ⟨by simp [Pg.ok, sv, b1.ok, b1.ne], by rw [Pg.hgt]; have := b1.hgt; omega, by rw [Pg.size]; have := b1.size; omega⟩
def bnd : Nat → Nat
  | 0 => 2
  | d + 1 => 2 * (1 + 2 * bnd d)
omit L M in
theorem block_drw : ∀ (d : Nat) (c : Cup), Drw (blockF d c).1 d (bnd d)
  | 0, c => by
    have l := roll_lt c (m := 2) (by decide)
    obtain ⟨h1, h2, h3, h4⟩ := rep_drw (h := 0) (z := 1) (fun c => step_drw (blk := fun c => ([], c)) (h := 0) (z := 0) (zero := true) (fun q => by cases q) c) (1 + (rollI c 2).1).toNat (rollI c 2).2
    exact ⟨h4 (by omega), h1, h2, by unfold blockF bnd; omega⟩
  | d + 1, c => by
    have l := roll_lt c (m := 2) (by decide)
    obtain ⟨h1, h2, h3, h4⟩ := rep_drw (h := d + 1) (z := 1 + 2 * bnd d) (fun c => step_drw (blk := blockF d) (h := d) (z := bnd d) (zero := false) (fun _ c => block_drw d c) c) (1 + (rollI c 2).1).toNat (rollI c 2).2
    refine ⟨h4 (by omega), h1, h2, ?_⟩
    unfold blockF bnd
    have : (1 + (rollI c 2).1).toNat ≤ 2 := by omega
    exact Nat.le_trans h3 (Nat.mul_le_mul_right _ this)
def nAct (ps : List Pg) : Nat := ((flats ps).filter Pg.isAct).length
def drawnF (c : Cup) (most : Int) : List Pg × Cup :=
  if most < (nAct ((blockF 2 c).1 ++ (blockF 1 (blockF 2 c).2).1) : Int) then blockF 1 (blockF 1 (blockF 2 c).2).2 else ((blockF 2 c).1 ++ (blockF 1 (blockF 2 c).2).1, (blockF 1 (blockF 2 c).2).2)
omit L M in
theorem app_facts (p q : List Pg) : oks (p ++ q) = (oks p && oks q) ∧ hgts (p ++ q) = max (hgts p) (hgts q) ∧ sizes (p ++ q) = sizes p + sizes q := by
  induction p with
  | nil => simp [oks, hgts, sizes]
  | cons a p ih => rw [List.cons_append, oks, oks, hgts, hgts, sizes, sizes, ih.1, ih.2.1, ih.2.2]; exact ⟨by rw [Bool.and_assoc], by rw [Nat.max_assoc], by omega⟩
omit L M in
theorem nAct_le (ps : List Pg) : nAct ps ≤ sizes ps := by
  unfold nAct
  exact Nat.le_trans (List.length_filter_le _ _) (by rw [flats_len]; exact Nat.le_refl _)
omit L M in
theorem drawn_ok (c : Cup) {most : Int} (h : most ≤ 24) : PlainOk (drawnF c most).1 := by
  have b2 := block_drw 2 c
  have b1 := block_drw 1 (blockF 2 c).2
  have b0 := block_drw 1 (blockF 1 (blockF 2 c).2).2
  have z2 := b2.size
  have z1 := b1.size
  have z0 := b0.size
  have e2 : bnd 2 = 42 := rfl
  have e1 : bnd 1 = 10 := rfl
  unfold drawnF
  split
  · have := nAct_le (blockF 1 (blockF 1 (blockF 2 c).2).2).1
    exact ⟨b0.ne, b0.ok, by have := b0.hgt; omega, by omega, by unfold nAct at this; omega⟩
  · rename_i hm
    obtain ⟨a1, a2, a3⟩ := app_facts (blockF 2 c).1 (blockF 1 (blockF 2 c).2).1
    refine ⟨by simp [b2.ne], by rw [a1, b2.ok, b1.ok]; rfl, by rw [a2]; have := b2.hgt; have := b1.hgt; omega, by rw [a3]; omega, ?_⟩
    unfold nAct at hm
    show ((flats ((blockF 2 c).1 ++ (blockF 1 (blockF 2 c).2).1)).filter Pg.isAct).length ≤ 24
    omega
theorem drawn_ev (c : Cup) (most : Int) : run P Γ lf (n + 10) x.f_law_drawn [.ref 0, .int most] (cupO c :: r) = .ok (.val (tupP (drawnF c most).1)) (cupO (drawnF c most).2 :: r) := by
  rw [run_at M.drawn rfl]
  have e2 := block_ev (P := P) (lf := lf) L 2 n c r
  have e1 := block_ev (P := P) (lf := lf) L 1 (n + 2) (blockF 2 c).2 r
  have e0 := block_ev (P := P) (lf := lf) L 1 (n + 2) (blockF 1 (blockF 2 c).2).2 r
  have b2 := block_drw 2 c
  have b1 := block_drw 1 (blockF 2 c).2
  obtain ⟨a1, a2, a3⟩ := app_facts (blockF 2 c).1 (blockF 1 (blockF 2 c).2).1
  have q1 := b2.hgt
  have q2 := b1.hgt
  have q3 : sizes (blockF 2 c).1 ≤ 42 := b2.size
  have q4 : sizes (blockF 1 (blockF 2 c).2).1 ≤ 10 := b1.size
  have e2 : run P Γ lf (n + 9) x.f_law_block [.ref 0, .int 2] (cupO c :: r) = .ok (.val (tupP (blockF 2 c).1)) (cupO (blockF 2 c).2 :: r) := e2
  have e1 : run P Γ lf (n + 9) x.f_law_block [.ref 0, .int 1] (cupO (blockF 2 c).2 :: r) = .ok (.val (tupP (blockF 1 (blockF 2 c).2).1)) (cupO (blockF 1 (blockF 2 c).2).2 :: r) := e1
  have e0 : run P Γ lf (n + 9) x.f_law_block [.ref 0, .int 1] (cupO (blockF 1 (blockF 2 c).2).2 :: r) = .ok (.val (tupP (blockF 1 (blockF 1 (blockF 2 c).2).2).1)) (cupO (blockF 1 (blockF 1 (blockF 2 c).2).2).2 :: r) := e0
  have es := lsteps_ev (P := P) (lf := lf) M 2 (n + 5) ((blockF 2 c).1 ++ (blockF 1 (blockF 2 c).2).1) (by rw [a2]; omega) (by rw [a3]; omega) (by rw [a1, b2.ok, b1.ok]; rfl) (cupO (blockF 1 (blockF 2 c).2).2 :: r)
  have es : run P Γ lf (n + 9) x.f_law_steps [tupP ((blockF 2 c).1 ++ (blockF 1 (blockF 2 c).2).1)] (cupO (blockF 1 (blockF 2 c).2).2 :: r) = .ok (.own (.lst ((flats ((blockF 2 c).1 ++ (blockF 1 (blockF 2 c).2).1)).map Pg.t))) (cupO (blockF 1 (blockF 2 c).2).2 :: r) := es
  have l1 := len_sizes (blockF 2 c).1
  have l2 := len_sizes (blockF 1 (blockF 2 c).2).1
  have ff : fits ((blockF 2 c).1.length + (blockF 1 (blockF 2 c).2).1.length) = true := fits_of (by omega)
  have et : ∀ st : Sto, opBin st .add (tupP (blockF 2 c).1) (tupP (blockF 1 (blockF 2 c).2).1) = some (.val (tupP ((blockF 2 c).1 ++ (blockF 1 (blockF 2 c).2).1))) := fun st => by
    unfold tupP
    rw [pgT_map, pgT_map, pgT_map, opBin_addT]
    simp [ff]
  simp [cc_law_drawn, startE_def, opd, e2, e1, et, es]
  rw [lcGo_filter (p := Pg.isAct) (h := Pg.t) (fun p _ => by cases p <;> simp [Pg.t, eqO_kw, Pg.isAct]) (by simp [flats_len, a3]; omega)]
  by_cases hm : most < (nAct ((blockF 2 c).1 ++ (blockF 1 (blockF 2 c).2).1) : Int)
  · have hm2 := hm
    unfold nAct at hm2
    simp only [drawnF, if_pos hm]
    simp [hm2, e0]
  · have hm2 := hm
    unfold nAct at hm2
    simp only [drawnF, if_neg hm]
    simp [hm2]
end
end Tw

set_option Elab.async false
set_option linter.all false
set_option maxRecDepth 100000
set_option maxHeartbeats 4000000
/-! TwF: the law's own walking. -/
namespace Tw
open PySem L2 TW
/-! ### programs with labels -/
inductive Lp where
  | skip | abort | act (a l : Nat) | asr (s : Nat) | ite (s : Nat) (p q : List Lp) | whl (s : Nat) (p : List Lp)
mutual
def Lp.t : Lp → T
  | .skip => .tup [.str "skip"]
  | .abort => .tup [.str "abort"]
  | .act a l => .tup [.str "do", nT a, nT l]
  | .asr s => .tup [.str "assert", nT s]
  | .ite s p q => .tup [.str "if", nT s, .tup (lpT p), .tup (lpT q)]
  | .whl s p => .tup [.str "while", nT s, .tup (lpT p)]
def lpT : List Lp → List T
  | [] => []
  | p :: ps => p.t :: lpT ps
end
theorem lpT_map : ∀ ps : List Lp, lpT ps = ps.map Lp.t
  | [] => by simp [lpT]
  | p :: ps => by simp [lpT, lpT_map ps]
mutual
def Pg.lab : Pg → Nat → Lp
  | .skip, _ => .skip
  | .abort, _ => .abort
  | .act a, k => .act a (k + 1)
  | .asr s, _ => .asr s
  | .ite s p q, k => .ite s (labs p k) (labs q (k + (actsOf p).length))
  | .whl s p, k => .whl s (labs p k)
def labs : List Pg → Nat → List Lp
  | [], _ => []
  | p :: ps, k => p.lab k :: labs ps (k + p.acts.length)
end
theorem labs_fold : ∀ (ps : List Pg) (k : Nat) (acc : List Lp) (l : List Nat), l.length = k → ps.foldl (fun (q : List Lp × List Nat) p => (q.1 ++ [p.lab q.2.length], q.2 ++ p.acts)) (acc, l) = (acc ++ labs ps k, l ++ actsOf ps)
  | [], k, acc, l, _ => by simp [labs, actsOf]
  | p :: ps, k, acc, l, h => by
    rw [List.foldl_cons, labs_fold ps (k + p.acts.length) _ _ (by simp [h])]
    simp [labs, actsOf, h]
mutual
def Lp.hgt : Lp → Nat
  | .skip => 0
  | .abort => 0
  | .act _ _ => 0
  | .asr _ => 0
  | .ite _ p q => max (lhgts p) (lhgts q) + 1
  | .whl _ p => lhgts p + 1
def lhgts : List Lp → Nat
  | [] => 0
  | p :: ps => max p.hgt (lhgts ps)
end
theorem lhgts_mem : ∀ {ps : List Lp} {p : Lp}, p ∈ ps → p.hgt ≤ lhgts ps
  | q :: ps, p, h => by
    rw [lhgts]
    rcases List.mem_cons.mp h with rfl | h
    · exact Nat.le_max_left _ _
    · exact Nat.le_trans (lhgts_mem h) (Nat.le_max_right _ _)
mutual
def Lp.size : Lp → Nat
  | .skip => 1
  | .abort => 1
  | .act _ _ => 1
  | .asr _ => 1
  | .ite _ p q => 1 + lsizes p + lsizes q
  | .whl _ p => 1 + lsizes p
def lsizes : List Lp → Nat
  | [] => 0
  | p :: ps => p.size + lsizes ps
end
mutual
theorem lab_facts : ∀ (p : Pg) (k : Nat), (p.lab k).hgt = p.hgt ∧ (p.lab k).size = p.size
  | .skip, k => by simp [Pg.lab, Lp.hgt, Pg.hgt, Lp.size, Pg.size]
  | .abort, k => by simp [Pg.lab, Lp.hgt, Pg.hgt, Lp.size, Pg.size]
  | .act a, k => by simp [Pg.lab, Lp.hgt, Pg.hgt, Lp.size, Pg.size]
  | .asr a, k => by simp [Pg.lab, Lp.hgt, Pg.hgt, Lp.size, Pg.size]
  | .ite s p q, k => by
    have h1 := labs_facts p k
    have h2 := labs_facts q (k + (actsOf p).length)
    simp [Pg.lab, Lp.hgt, Pg.hgt, Lp.size, Pg.size, h1, h2]
  | .whl s p, k => by
    have h1 := labs_facts p k
    simp [Pg.lab, Lp.hgt, Pg.hgt, Lp.size, Pg.size, h1]
theorem labs_facts : ∀ (ps : List Pg) (k : Nat), lhgts (labs ps k) = hgts ps ∧ lsizes (labs ps k) = sizes ps
  | [], k => by simp [labs, lhgts, hgts, lsizes, sizes]
  | p :: ps, k => by
    have h1 := lab_facts p k
    have h2 := labs_facts ps (k + p.acts.length)
    simp [labs, lhgts, hgts, lsizes, sizes, h1, h2]
end
def Lp.subs : Lp → List (List Lp)
  | .ite _ p q => [p, q]
  | .whl _ p => [p]
  | _ => []
mutual
/-- what stands behind each act, in the order of the text -/
def Lp.conts : Lp → List Lp → List (Nat × List Lp)
  | .act _ l, tail => [(l, tail)]
  | .ite _ p q, tail => contsB p tail ++ contsB q tail
  | .whl s p, tail => contsB p (.whl s p :: tail)
  | .skip, _ => []
  | .abort, _ => []
  | .asr _, _ => []
def contsB : List Lp → List Lp → List (Nat × List Lp)
  | [], _ => []
  | p :: ps, r => p.conts (ps ++ r) ++ contsB ps r
end
def tupL (ps : List Lp) : T := .tup (lpT ps)
section
variable {P : Pm} {Γ : List TW.Fn} {lf n : Nat} {x : Ix} {s r : Sto}
theorem pow8 : ∀ {a : Nat}, a < 8 → atI [T.int 1, .int 2, .int 4, .int 8, .int 16, .int 32, .int 64, .int 128] (a : Int) = some (.int ((2 ^ a : Nat) : Int)) := by
  intro a h
  match a, h with
  | 0, _ => rfl
  | 1, _ => rfl
  | 2, _ => rfl
  | 3, _ => rfl
  | 4, _ => rfl
  | 5, _ => rfl
  | 6, _ => rfl
  | 7, _ => rfl
theorem pow_pos_lt {a : Nat} (h : a < 8) : 0 < 2 ^ a ∧ 2 ^ a < 1000 := by
  match a, h with
  | 0, _ => exact ⟨by decide, by decide⟩
  | 1, _ => exact ⟨by decide, by decide⟩
  | 2, _ => exact ⟨by decide, by decide⟩
  | 3, _ => exact ⟨by decide, by decide⟩
  | 4, _ => exact ⟨by decide, by decide⟩
  | 5, _ => exact ⟨by decide, by decide⟩
  | 6, _ => exact ⟨by decide, by decide⟩
  | 7, _ => exact ⟨by decide, by decide⟩
theorem div_pow {own a : Nat} (h : a < 8) : intOp .fdiv (own : Int) ((2 ^ a : Nat) : Int) = some ((own / 2 ^ a : Nat) : Int) := by
  have := pow_pos_lt h
  rw [intOp_fdiv (by omega) (by omega)]
  rfl
theorem bit_div (own a : Nat) : decide (((own / 2 ^ a : Nat) : Int) % 2 = 1) = own.testBit a := by
  rw [← bit_int, Nat.shiftRight_eq_div_pow]
theorem mod2 (a : Int) : intOp .mod a 2 = some (a % 2) := intOp_mod (by decide)
theorem lhas_ev (h : Γ[x.f_law_has]? = some (cc_law_has x)) (own : Nat) {a : Nat} (ha : a < 8) : run P Γ lf (n + 1) x.f_law_has [.int own, .int a] s = .ok (.val (.bl (own.testBit a))) s := by
  rw [run_at h rfl]
  have e1 := div_pow (own := own) ha
  simp only [Int.natCast_pow, Int.cast_ofNat_Int] at e1
  have e2 := pow8 ha
  have e3 := bit_div own a
  simp [cc_law_has, startE_def, opd, fits, e2, div_pow ha, mod2, e3, -Int.natCast_pow, -Int.natCast_ediv]
structure LibW (Γ : List TW.Fn) (x : Ix) : Prop where
  has : Γ[x.f_law_has]? = some (cc_law_has x)
  leads : Γ[x.f_law_leads]? = some (cc_law_leads x)
  labelled : Γ[x.f_law_labelled]? = some (cc_law_labelled x)
  rests : Γ[x.f_law_rests]? = some (cc_law_rests x)
  going : Γ[x.f_law_going]? = some (cc_law_going x)
  walks : Γ[x.f_law_walks]? = some (cc_law_walks x)
  set_of : Γ[x.f_law_set_of]? = some (cc_law_set_of x)
  ends : Γ[x.f_law_ends]? = some (cc_law_ends x)
  table : Γ[x.f_law_table]? = some (cc_law_table x)
variable (W : LibW Γ x)
include W
theorem lleads_ev (hs : List Hy) (ho : ∀ h ∈ hs, h.okB = true) (c : Nat) {a b : Nat} (ha : a < 8) (hb : b < 8) : run P Γ lf (n + 2) x.f_law_leads [hT hs, .int c, .int a, .int b] s = .ok (.val (.bl (lead hs c a b))) s := by
  rw [run_at W.leads rfl]
  have e3 : (hT hs).itr? = some (hs.map Hy.t) := rfl
  simp [cc_law_leads, startE_def, opd, e3]
  erw [forGo_anyD (E := fun (q : Option T × Option T) => [.val (hT hs), .val (.int c), .val (.int a), .val (.int b), sl q.1, sl q.2]) (p := fun h => forb h c a b) (w := .val (.bl false)) (acc := (none, none))
    (step := fun q h => (some h.t, match h with
      | .keep ac t => if ac = c then some (.int ((2 ^ t : Nat) : Int)) else q.2
      | _ => q.2)) fun h hm q => by
      obtain ⟨j1, j2⟩ := q
      have hok := ho h hm
      cases h with
      | keep ac t =>
        simp [Hy.okB] at hok
        have ht : t < 8 := by omega
        have e4 : atI [T.int 1, .int 2, .int 4] (t : Int) = some (.int ((2 ^ t : Nat) : Int)) := by
          match t, hok.2 with
          | 0, _ => rfl
          | 1, _ => rfl
          | 2, _ => rfl
        have e5 : ((a / 2 ^ t : Nat) : Int) % 2 = ((b / 2 ^ t : Nat) : Int) % 2 ↔ a.testBit t = b.testBit t := by
          have := bit_eq a b t
          rw [Nat.shiftRight_eq_div_pow, Nat.shiftRight_eq_div_pow] at this
          exact this
        by_cases hc : ac = c
        · subst hc
          simp [Hy.t, nT, opd, fits, eqO_kw, e4, div_pow ht, mod2, forb, -Int.natCast_pow, -Int.natCast_ediv]
          by_cases h : a.testBit t = b.testBit t
          · have e6 := e5.mpr h
            simp [h, e6, -Int.natCast_pow, -Int.natCast_ediv]
          · have e6 : ¬ (((a / 2 ^ t : Nat) : Int) % 2 = ((b / 2 ^ t : Nat) : Int) % 2) := fun q => h (e5.mp q)
            simp [h, e6, -Int.natCast_pow, -Int.natCast_ediv]
        · simp [Hy.t, nT, opd, fits, eqO_kw, forb, hc, Int.natCast_inj]
      | forbid ac s1 s2 =>
        by_cases hc : ac = c
        · subst hc
          simp [Hy.t, nT, opd, fits, eqO_kw, forb, lhas_ev W.has s1 ha, lhas_ev W.has s2 hb]
          cases s1.testBit a <;> cases s2.testBit b <;> simp
        · simp [Hy.t, nT, opd, fits, eqO_kw, forb, hc, Int.natCast_inj]]
  unfold lead
  cases hs.any fun h => forb h c a b <;> simp
omit W in
theorem inT_tw (P : Pm) (st : Sto) (a b w : Str) : inT P st (.str w) (.tup [.str a, .str b]) = some (decide (a = w) || (decide (b = w) || false)) := inT_words P st a b w
omit W in
theorem cut_h4 {a b c d : T} : cutT [a, b, c, d] none (some 2) = [a, b] := rfl
omit W in
theorem cut_h3 {a b c : T} : cutT [a, b, c] none (some 2) = [a, b] := rfl
omit W in
theorem acts_mem {ps : List Pg} {p : Pg} (h : p ∈ ps) : p.acts.length ≤ (actsOf ps).length := by
  induction ps with
  | nil => cases h
  | cons q ps ih =>
    rw [actsOf, List.length_append]
    rcases List.mem_cons.mp h with rfl | h
    · omega
    · have := ih h; omega
omit W in
theorem tupL_t (p : List Lp) : T.tup (lpT p) = tupL p := rfl
omit W in
theorem tupP_t (p : List Pg) : T.tup (pgT p) = tupP p := rfl
theorem lab_core (N : Nat) (ps : List Pg) (hz : ps.length ≤ 100000) (m : Nat)
    (hb : ∀ p ∈ ps, ∀ b ∈ p.subs, ∀ (l : List Nat) (s : Sto), m < s.length → l.length + (actsOf b).length ≤ 100000 → run P Γ lf N x.f_law_labelled [tupP b, .ref m] (s.set m (.lst (l.map nT))) = .ok (.val (tupL (labs b l.length))) (s.set m (.lst ((l ++ actsOf b).map nT))))
    (l : List Nat) (hl : l.length + (actsOf ps).length ≤ 100000) (s : Sto) (hm : m < s.length) :
    run P Γ lf (N + 1) x.f_law_labelled [tupP ps, .ref m] (s.set m (.lst (l.map nT))) = .ok (.val (tupL (labs ps l.length))) (s.set m (.lst ((l ++ actsOf ps).map nT))) := by
  rw [run_at W.labelled rfl]
  have e3 : (tupP ps).itr? = some (ps.map Pg.t) := by rw [← pgT_map]; rfl
  have eg : ∀ o : O, (s.set m o)[m]? = some o := fun o => by rw [List.getElem?_set_self hm]
  simp [cc_law_labelled, startE_def, opd, fits, e3]
  erw [forGo_foldS (E := fun (q : (List Lp × List Nat) × Option T) => [.val (tupP ps), .val (.ref m), .own (.lst (q.1.1.map Lp.t)), sl q.2, .no]) (S := fun q => s.set m (.lst (q.1.2.map nT))) (step := fun q p => ((q.1.1 ++ [p.lab q.1.2.length], q.1.2 ++ p.acts), some p.t)) (acc := (([], l), none))
    (fun rest q => q.1.1.length + rest.length ≤ 100000 ∧ (q.1.2.length + (actsOf rest).length ≤ 100000) ∧ ∀ p ∈ rest, p ∈ ps) (fun p rest q hq => by
      obtain ⟨⟨q1, l⟩, j⟩ := q
      obtain ⟨hk, hl, hm'⟩ := hq
      have hk : q1.length + (rest.length + 1) ≤ 100000 := hk
      have hl : l.length + (actsOf (p :: rest)).length ≤ 100000 := hl
      rw [actsOf, List.length_append] at hl
      have hpm := hm' p List.mem_cons_self
      refine ⟨?_, by simp; omega, by simp; omega, fun p' hp' => hm' p' (List.mem_cons_of_mem _ hp')⟩
      have l1 : q1.length < 16777216 := by omega
      have l2 : l.length < 16777216 := by omega
      cases p with
      | act a => simp [Pg.t, opd, eqO_kw, isL, eg, nT, chg, appO, l1, l2, fits, lenT, bltT, T.seq?, T.lst?, Pg.lab, Lp.t, Pg.acts]
      | skip => simp [Pg.t, opd, eqO_kw, isL, eg, nT, chg, appO, l1, l2, fits, Pg.lab, Lp.t, Pg.acts]
      | abort => simp [Pg.t, opd, eqO_kw, isL, eg, nT, chg, appO, l1, l2, fits, Pg.lab, Lp.t, Pg.acts]
      | asr a => simp [Pg.t, opd, eqO_kw, isL, eg, nT, chg, appO, l1, l2, fits, Pg.lab, Lp.t, Pg.acts]
      | ite w p1 p2 =>
        rw [Pg.acts, List.length_append] at hl
        have b1 := hb _ hpm p1 (by simp [Pg.subs]) l s hm (by omega)
        have b2 := hb _ hpm p2 (by simp [Pg.subs]) (l ++ actsOf p1) s hm (by simp; omega)
        simp only [List.length_append, List.map_append] at b2
        simp [Pg.t, opd, eqO_kw, isL, fits, cut2_4, cut_h4, lcGo, tupP_t, b1]
        simp [b2, chg, appO, l1, Pg.lab, Lp.t, Pg.acts, tupL, fits]
      | whl w p1 =>
        rw [Pg.acts] at hl
        have b1 := hb _ hpm p1 (by simp [Pg.subs]) l s hm (by omega)
        simp [Pg.t, opd, eqO_kw, isL, fits, cut2_3, cut_h3, lcGo, tupP_t, b1]
        simp [chg, appO, l1, Pg.lab, Lp.t, Pg.acts, tupL, fits]) ⟨by simpa using hz, by simpa using hl, fun p hp => hp⟩]
  have ef : (List.foldl (fun (q : (List Lp × List Nat) × Option T) (p : Pg) => ((q.fst.fst ++ [p.lab q.fst.snd.length], q.fst.snd ++ p.acts), some p.t)) (([], l), none) ps).1 = (labs ps l.length, l ++ actsOf ps) :=
    (foldl_fst (f := fun (q : List Lp × List Nat) (p : Pg) => (q.1 ++ [p.lab q.2.length], q.2 ++ p.acts)) (k := fun _ p => some p.t) ps ([], l) none).trans (by rw [labs_fold ps l.length [] l rfl]; simp)
  simp [ef, opd, tupL, lpT_map]
omit W in
theorem acts_le (ps : List Pg) : (actsOf ps).length ≤ sizes ps := by
  have : ∀ (m : Nat) (ps : List Pg), sizes ps ≤ m → (actsOf ps).length ≤ sizes ps := by
    intro m
    induction m with
    | zero =>
      intro ps h
      have := len_sizes ps
      have : ps = [] := List.length_eq_zero_iff.mp (by omega)
      subst this
      simp [actsOf, sizes]
    | succ m ih =>
      intro ps
      induction ps with
      | nil => intro _; simp [actsOf, sizes]
      | cons p ps ih2 =>
        intro h
        rw [sizes] at h
        rw [actsOf, sizes, List.length_append]
        have hp : 1 ≤ p.size := by cases p <;> simp [Pg.size] <;> omega
        have i2 := ih2 (by omega)
        have : p.acts.length ≤ p.size := by
          cases p with
          | ite w a b =>
            rw [Pg.size] at h ⊢
            rw [Pg.acts, List.length_append]
            have := ih a (by omega)
            have := ih b (by omega)
            omega
          | whl w a =>
            rw [Pg.size] at h ⊢
            rw [Pg.acts]
            have := ih a (by omega)
            omega
          | act a => simp [Pg.acts, Pg.size]
          | _ => simp [Pg.acts, Pg.size]
        omega
  exact this _ ps (Nat.le_refl _)
theorem lab_ev : ∀ (m n : Nat) (ps : List Pg), hgts ps ≤ m → sizes ps ≤ 1000 → oks ps = true → ∀ (a : Nat) (l : List Nat) (s : Sto), l.length + (actsOf ps).length ≤ 100000 → a < s.length →
    run P Γ lf (n + 1 + m) x.f_law_labelled [tupP ps, .ref a] (s.set a (.lst (l.map nT))) = .ok (.val (tupL (labs ps l.length))) (s.set a (.lst ((l ++ actsOf ps).map nT))) := by
  intro m
  induction m with
  | zero =>
    intro n ps h1 h2 h3 a l s hl hm
    have := len_sizes ps
    refine lab_core W n ps (by omega) a (fun p hp b hb => ?_) l hl s hm
    exfalso
    have h6 := (subs_facts p (oks_mem h3 hp)).1 b hb
    have h7 := hgts_mem hp
    omega
  | succ m ih =>
    intro n ps h1 h2 h3 a l s hl hm
    have := len_sizes ps
    rw [show n + 1 + (m + 1) = n + 1 + m + 1 by omega]
    refine lab_core W (n + 1 + m) ps (by omega) a (fun p hp b hb l s hm hl => ?_) l hl s hm
    obtain ⟨q1, q2, q3⟩ := (subs_facts p (oks_mem h3 hp)).1 b hb
    have h7 := hgts_mem hp
    have h8 := (subs_facts p (oks_mem h3 hp)).2
    have h9 : sizes b ≤ (p.subs.map sizes).sum := sum_mem (List.mem_map.mpr ⟨b, hb, rfl⟩)
    have h10 : p.size ≤ sizes ps := by rw [sizes_map]; exact sum_mem (List.mem_map.mpr ⟨p, hp, rfl⟩)
    exact ih n b (by omega) (by omega) q1 a l s hl hm
/-! ### rests -/
def dAll (kvs : List (Key × T)) (l : List (Nat × List Lp)) : List (Key × T) := l.foldl (fun d q => dPut (.inl (q.1 : Int)) (tupL q.2) d) kvs
omit W in
theorem dPut_len (k : Key) (v : T) (kvs : List (Key × T)) : (dPut k v kvs).length ≤ kvs.length + 1 := by
  unfold dPut
  split
  · simp
  · simp
omit W in
theorem dAll_len : ∀ (l : List (Nat × List Lp)) (kvs : List (Key × T)), (dAll kvs l).length ≤ kvs.length + l.length
  | [], kvs => by simp [dAll]
  | q :: l, kvs => by
    have h1 := dAll_len l (dPut (.inl (q.1 : Int)) (tupL q.2) kvs)
    have h2 := dPut_len (.inl (q.1 : Int)) (tupL q.2) kvs
    rw [List.length_cons]
    show (dAll (dPut (.inl (q.1 : Int)) (tupL q.2) kvs) l).length ≤ _
    omega
omit W in
theorem dAll_app (l l2 : List (Nat × List Lp)) (kvs : List (Key × T)) : dAll kvs (l ++ l2) = dAll (dAll kvs l) l2 := by
  unfold dAll
  rw [List.foldl_append]
omit W in
theorem cut_from (l : List T) (k : Nat) (h : k ≤ l.length) : cutT l (some (k : Int)) none = l.drop k := by
  unfold cutT
  rw [HT.sIx_nat, HT.sIx_none, Nat.min_eq_left h]
  rw [List.take_of_length_le (by simp)]
omit W in
theorem enum_zip : ∀ (ps : List Lp) (k : Nat), enumT k (ps.map Lp.t) = (ps.zipIdx k).map fun q => T.tup [.int (q.2 : Int), q.1.t]
  | [], _ => rfl
  | p :: ps, k => by
    rw [List.map_cons, enumT, enum_zip ps (k + 1)]
    rfl
omit W in
/-- what stands behind the i-th step, by pairs -/
def contsZ (all : List Lp) (rest : List Lp) (q : Lp × Nat) : List (Nat × List Lp) := q.1.conts (all.drop (q.2 + 1) ++ rest)
omit W in
theorem contsB_zip (all rest : List Lp) : ∀ (ps : List Lp) (k : Nat), all.drop k = ps → contsB ps rest = (ps.zipIdx k).flatMap (contsZ all rest)
  | [], _, _ => by simp [contsB]
  | p :: ps, k, h => by
    have h2 : all.drop (k + 1) = ps := by
      have := congrArg List.tail h
      simpa using this
    rw [contsB, contsB_zip all rest ps (k + 1) h2]
    simp [contsZ, h2]
theorem rests_core (N : Nat) (ps rest : List Lp) (R : Nat) (hR : rest.length ≤ R) (hz : R + ps.length ≤ 100000) (f : Nat)
    (hb : ∀ p ∈ ps, ∀ b ∈ p.subs, ∀ (rest' : List Lp) (kvs : List (Key × T)) (s : Sto), f < s.length → rest'.length ≤ R + ps.length + 1 → kvs.length + (contsB b rest').length ≤ 100000 →
      run P Γ lf N x.f_law_rests [tupL b, tupL rest', .ref f] (s.set f (.dk kvs)) = .ok (.val (.ref f)) (s.set f (.dk (dAll kvs (contsB b rest')))))
    (kvs : List (Key × T)) (hk : kvs.length + (contsB ps rest).length ≤ 100000) (s : Sto) (hf : f < s.length) :
    run P Γ lf (N + 1) x.f_law_rests [tupL ps, tupL rest, .ref f] (s.set f (.dk kvs)) = .ok (.val (.ref f)) (s.set f (.dk (dAll kvs (contsB ps rest)))) := by
  rw [run_at W.rests rfl]
  have e3 : (tupL ps).itr? = some (ps.map Lp.t) := by rw [← lpT_map]; rfl
  have eg : ∀ o : O, (s.set f o)[f]? = some o := fun o => by rw [List.getElem?_set_self hf]
  simp [cc_law_rests, startE_def, opd, fits, e3, enum_zip]
  erw [forGo_foldS (E := fun (q : List (Key × T) × (Option T × Option T × Option T)) => [.val (tupL ps), .val (tupL rest), .val (.ref f), sl q.2.1, sl q.2.2.1, sl q.2.2.2]) (S := fun q => s.set f (.dk q.1)) (step := fun q p => (dAll q.1 (contsZ ps rest p), (some (.int (p.2 : Int)), some p.1.t, some (tupL (ps.drop (p.2 + 1) ++ rest))))) (acc := (kvs, (none, none, none)))
    (fun l q => q.1.length + (l.flatMap (contsZ ps rest)).length ≤ 100000 ∧ ∀ p ∈ l, p.1 ∈ ps ∧ p.2 < ps.length) (fun p l q hq => by
      obtain ⟨q1, j3, j4, j5⟩ := q
      obtain ⟨p, i⟩ := p
      obtain ⟨hk, hm⟩ := hq
      rw [List.flatMap_cons, List.length_append] at hk
      have hk : q1.length + ((contsZ ps rest (p, i)).length + (l.flatMap (contsZ ps rest)).length) ≤ 100000 := hk
      obtain ⟨hpm, hi⟩ := hm (p, i) List.mem_cons_self
      have hi : i < ps.length := hi
      have hpm : p ∈ ps := hpm
      have dl := dAll_len (contsZ ps rest (p, i)) q1
      refine ⟨?_, by show (dAll q1 (contsZ ps rest (p, i))).length + (l.flatMap (contsZ ps rest)).length ≤ 100000; omega, fun p' hp' => hm p' (List.mem_cons_of_mem _ hp')⟩
      have e5 : cutT (lpT ps) (some ((i : Int) + 1)) none = lpT (ps.drop (i + 1)) := by
        have := cut_from (lpT ps) (i + 1) (by rw [lpT_map]; simp; omega)
        rw [lpT_map, lpT_map] at *
        simpa using this
      have e6 : ∀ st : Sto, slT st (tupL ps) (some ((i : Int) + 1)) none = some (.val (tupL (ps.drop (i + 1)))) := fun st => by
        unfold tupL
        rw [TW.sl_tup, e5]
      have e7 : ∀ st : Sto, opBin st .add (tupL (ps.drop (i + 1))) (tupL rest) = some (.val (tupL (ps.drop (i + 1) ++ rest))) := fun st => by
        unfold tupL
        rw [opBin_addT, if_pos (fits_of (by rw [lpT_map, lpT_map]; simp; omega)), lpT_map, lpT_map, lpT_map, List.map_append]
      have hq1 : q1.length < 16777216 := by omega
      have ht : (ps.drop (i + 1) ++ rest).length ≤ R + ps.length := by simp; omega
      cases p with
      | act a l =>
        simp [Lp.t, nT, opd, e6, e7, eqO_kw, isOb, eg, chg, setiO, hq1, contsZ, Lp.conts, dAll]
      | ite w p1 p2 =>
        have hk2 : (contsZ ps rest (.ite w p1 p2, i)).length = (contsB p1 (ps.drop (i + 1) ++ rest)).length + (contsB p2 (ps.drop (i + 1) ++ rest)).length := by simp [contsZ, Lp.conts]
        have b1 := hb _ hpm p1 (by simp [Lp.subs]) (ps.drop (i + 1) ++ rest) q1 s hf (by omega) (by omega)
        have dl1 := dAll_len (contsB p1 (ps.drop (i + 1) ++ rest)) q1
        have b2 := hb _ hpm p2 (by simp [Lp.subs]) (ps.drop (i + 1) ++ rest) (dAll q1 (contsB p1 (ps.drop (i + 1) ++ rest))) s hf (by omega) (by omega)
        simp [Lp.t, nT, opd, e6, e7, eqO_kw, tupL_t, b1, b2, contsZ, Lp.conts, dAll_app]
      | whl w p1 =>
        have hk2 : (contsZ ps rest (.whl w p1, i)).length = (contsB p1 (.whl w p1 :: (ps.drop (i + 1) ++ rest))).length := by simp [contsZ, Lp.conts]
        have b1 := hb _ hpm p1 (by simp [Lp.subs]) (.whl w p1 :: (ps.drop (i + 1) ++ rest)) q1 s hf (by simp at ht ⊢; omega) (by omega)
        have e8 : ∀ st : Sto, opBin st .add (.tup [(Lp.whl w p1).t]) (tupL (ps.drop (i + 1) ++ rest)) = some (.val (tupL (.whl w p1 :: (ps.drop (i + 1) ++ rest)))) := fun st => by
          unfold tupL
          rw [opBin_addT, if_pos (fits_of (by rw [lpT_map]; simp at ht ⊢; omega)), lpT]
          rfl
        have e9 : (Lp.whl w p1).t = .tup [.str "while", .int (w : Int), tupL p1] := by rw [Lp.t]; rfl
        rw [e9] at e8
        simp [e9, opd, e6, e7, e8, eqO_kw, b1, contsZ, Lp.conts, fits]
      | _ => simp [Lp.t, nT, opd, e6, e7, eqO_kw, contsZ, Lp.conts, dAll]) ⟨by
        have := contsB_zip ps rest ps 0 rfl
        rw [← this]; exact hk, fun p hp => by
        obtain ⟨q, i⟩ := p
        have := List.mem_zipIdx hp
        refine ⟨?_, by simp at this ⊢; omega⟩
        rw [this.2.2]; simp⟩]
  have ef : ∀ (l : List (Lp × Nat)) (k : List (Key × T)) (j : Option T × Option T × Option T), (l.foldl (fun (q : List (Key × T) × (Option T × Option T × Option T)) p => (dAll q.1 (contsZ ps rest p), (some (T.int (p.2 : Int)), some p.1.t, some (tupL (ps.drop (p.2 + 1) ++ rest))))) (k, j)).1 = dAll k (l.flatMap (contsZ ps rest)) := by
    intro l
    induction l with
    | nil => intro k j; simp [dAll]
    | cons p l ih => intro k j; rw [List.foldl_cons, ih, List.flatMap_cons, dAll_app]
  have := contsB_zip ps rest ps 0 rfl
  simp [ef, this]
omit W in
theorem len_lsizes : ∀ ps : List Lp, ps.length ≤ lsizes ps
  | [] => by simp
  | p :: ps => by
    have h := len_lsizes ps
    have : 1 ≤ p.size := by cases p <;> simp [Lp.size] <;> omega
    rw [lsizes, List.length_cons]; omega
omit W in
theorem lsubs_facts (p : Lp) : ∀ b ∈ p.subs, lhgts b + 1 ≤ p.hgt ∧ lsizes b ≤ p.size := by
  intro b hb
  cases p with
  | ite w p q =>
    simp [Lp.subs] at hb
    rw [Lp.hgt, Lp.size]
    rcases hb with rfl | rfl <;> constructor <;> omega
  | whl w p =>
    simp [Lp.subs] at hb
    subst hb
    rw [Lp.hgt, Lp.size]
    constructor <;> omega
  | _ => simp [Lp.subs] at hb
omit W in
theorem lsize_mem {ps : List Lp} {p : Lp} (h : p ∈ ps) : p.size ≤ lsizes ps := by
  induction ps with
  | nil => cases h
  | cons q ps ih =>
    rw [lsizes]
    rcases List.mem_cons.mp h with rfl | h
    · omega
    · have := ih h; omega
theorem rests_ev : ∀ (m n : Nat) (ps rest : List Lp), lhgts ps ≤ m → m ≤ 30 → lsizes ps ≤ 1000 → rest.length + 2000 * m ≤ 90000 → ∀ (f : Nat) (kvs : List (Key × T)) (s : Sto), kvs.length + (contsB ps rest).length ≤ 100000 → f < s.length →
    run P Γ lf (n + 1 + m) x.f_law_rests [tupL ps, tupL rest, .ref f] (s.set f (.dk kvs)) = .ok (.val (.ref f)) (s.set f (.dk (dAll kvs (contsB ps rest)))) := by
  intro m
  induction m with
  | zero =>
    intro n ps rest h1 hm h2 h3 f kvs s hk hf
    have := len_lsizes ps
    refine rests_core W n ps rest rest.length (Nat.le_refl _) (by omega) f (fun p hp b hb => ?_) kvs hk s hf
    exfalso
    have h6 := lsubs_facts p b hb
    have h7 := lhgts_mem hp
    omega
  | succ m ih =>
    intro n ps rest h1 hm h2 h3 f kvs s hk hf
    have := len_lsizes ps
    rw [show n + 1 + (m + 1) = n + 1 + m + 1 by omega]
    refine rests_core W (n + 1 + m) ps rest rest.length (Nat.le_refl _) (by omega) f (fun p hp b hb rest' kvs s hf hr hk => ?_) kvs hk s hf
    have h6 := lsubs_facts p b hb
    have h7 := lhgts_mem hp
    have h8 := lsize_mem hp
    exact ih n b rest' (by omega) (by omega) (by omega) (by omega) f kvs s hk hf
end
end Tw

set_option Elab.async false
set_option linter.all false
set_option maxRecDepth 100000
set_option maxHeartbeats 4000000
/-! TwG: the law's own going. -/
namespace Tw
open PySem L2 TW
mutual
theorem okT_lp : ∀ p : Lp, okT (2 * p.hgt + 1) p.t
  | .skip => by rw [Lp.t]; exact okT_tup (d := 0) fun t ht => by simp at ht; subst ht; exact str_ok (by simp) _
  | .abort => by rw [Lp.t]; exact okT_tup (d := 0) fun t ht => by simp at ht; subst ht; exact str_ok (by simp) _
  | .act a l => by
    rw [Lp.t]
    refine okT_tup (d := 0) fun t ht => ?_
    simp at ht
    rcases ht with rfl | rfl | rfl
    · exact str_ok (by simp) _
    · exact okT_int _ _
    · exact okT_int _ _
  | .asr a => by
    rw [Lp.t]
    refine okT_tup (d := 0) fun t ht => ?_
    simp at ht
    rcases ht with rfl | rfl
    · exact str_ok (by simp) _
    · exact okT_int _ _
  | .ite s p q => by
    rw [Lp.t, Lp.hgt]
    have h1 := okT_lps p
    have h2 := okT_lps q
    refine (okT_tup (d := 2 * max (lhgts p) (lhgts q) + 2) fun t ht => ?_).mono (by omega)
    simp at ht
    rcases ht with rfl | rfl | rfl | rfl
    · exact str_ok (by simp) _
    · exact okT_int _ _
    · exact h1.mono (by omega)
    · exact h2.mono (by omega)
  | .whl s p => by
    rw [Lp.t, Lp.hgt]
    have h1 := okT_lps p
    refine (okT_tup (d := 2 * lhgts p + 2) fun t ht => ?_).mono (by omega)
    simp at ht
    rcases ht with rfl | rfl | rfl
    · exact str_ok (by simp) _
    · exact okT_int _ _
    · exact h1.mono (by omega)
theorem okT_lps : ∀ ps : List Lp, okT (2 * lhgts ps + 2) (.tup (lpT ps))
  | [] => by rw [lpT, lhgts]; exact (okT_tup (d := 0) fun t ht => by simp at ht).mono (by omega)
  | p :: ps => by
    rw [lpT, lhgts]
    have h1 := okT_lp p
    have h2 := okT_lps ps
    refine okT_tup (d := 2 * max p.hgt (lhgts ps) + 1) fun t ht => ?_
    rcases List.mem_cons.mp ht with rfl | ht
    · exact h1.mono (by omega)
    · rw [lpT_map] at ht
      obtain ⟨q, hq, rfl⟩ := List.mem_map.mp ht
      have := lhgts_mem hq
      exact (okT_mem h2 (by rw [lpT_map]; exact List.mem_map.mpr ⟨q, hq, rfl⟩)).mono (by omega)
end
/-! ### plain going -/
inductive Go where
  | lab (l : Nat) | stops | ends
def Go.t : Go → T
  | .lab l => nT l
  | .stops => .str "stops"
  | .ends => .str "ends"
def pairT (q : Lp × List Lp) : T := .tup [q.1.t, tupL q.2]
def inSeen (seen : List (Lp × List Lp)) (q : Lp × List Lp) : Bool := seen.any fun z => eqT (pairT z) (pairT q)
/-- one turn -/
def goStep (a : Nat) : List Lp → List (Lp × List Lp) → Go ⊕ (List Lp × List (Lp × List Lp))
  | [], _ => .inl .ends
  | .act _ l :: _, _ => .inl (.lab l)
  | .abort :: _, _ => .inl .stops
  | .skip :: r, seen => .inr (r, seen)
  | .asr s :: r, seen => if s.testBit a = true then .inr (r, seen) else .inl .stops
  | .ite s p q :: r, seen => .inr ((if s.testBit a = true then p else q) ++ r, seen)
  | .whl s p :: r, seen => if s.testBit a = true then (if inSeen seen (.whl s p, r) = true then .inl .stops else .inr (p ++ .whl s p :: r, seen ++ [(.whl s p, r)])) else .inr (r, seen)
def goF (a : Nat) : Nat → List Lp → List (Lp × List Lp) → Option Go
  | 0, _, _ => none
  | f + 1, rest, seen => match goStep a rest seen with
    | .inl g => some g
    | .inr (r, s) => goF a f r s
section
variable {P : Pm} {Γ : List TW.Fn} {lf n : Nat} {x : Ix} {s : Sto} (W : LibW Γ x)
theorem okT_pair {q : Lp × List Lp} {h : Nat} (h1 : q.1.hgt ≤ h) (h2 : lhgts q.2 ≤ h) : okT (2 * h + 3) (pairT q) := by
  unfold pairT tupL
  refine okT_tup (d := 2 * h + 2) fun t ht => ?_
  simp at ht
  rcases ht with rfl | rfl
  · exact (okT_lp q.1).mono (by omega)
  · exact (okT_lps q.2).mono (by omega)
theorem inT_seen (st : Sto) {seen : List (Lp × List Lp)} {q : Lp × List Lp} (h1 : q.1.hgt ≤ 28) (h2 : lhgts q.2 ≤ 28) (hs : ∀ z ∈ seen, z.1.hgt ≤ 28 ∧ lhgts z.2 ≤ 28) : inT P st (pairT q) (.lst (seen.map pairT)) = some (inSeen seen q) := by
  have k1 := (okT_pair h1 h2).okD (by omega)
  have k2 : okD (.lst (seen.map pairT)) = true := (okT_lst (d := 2 * 28 + 3) fun t ht => by
    obtain ⟨z, hz, rfl⟩ := List.mem_map.mp ht
    exact okT_pair (hs z hz).1 (hs z hz).2).okD (by omega)
  show (if (okD (T.top st (pairT q)) && okD (.lst (seen.map pairT))) = true then some ((seen.map pairT).any fun t => eqT t (T.top st (pairT q))) else none) = _
  rw [show T.top st (pairT q) = pairT q from rfl, k1, k2, if_pos (by rfl), List.any_map]
  rfl
theorem ne_nil (st : Sto) (r : List Lp) (h : lhgts r ≤ 30) : eqO st (tupL r) (.tup []) = some r.isEmpty := by
  unfold tupL
  rw [eqO_of ((okT_lps r).mono (by omega)) ((okT_tup (d := 0) fun t ht => by cases ht).mono (by omega)) rfl rfl, eqT_tup, eqTs_nil, lpT_map]
  simp
/-- the frame of going -/
def goE (a : Nat) (r : List Lp) (seen : List (Lp × List Lp)) (j : Option T) : TW.Env := [.val (tupL r), .val (.int a), .own (.lst (seen.map pairT)), sl j]
theorem lh_app (p q : List Lp) : lhgts (p ++ q) = max (lhgts p) (lhgts q) := by
  induction p with
  | nil => simp [lhgts]
  | cons a p ih => rw [List.cons_append, lhgts, lhgts, ih, Nat.max_assoc]
theorem cut1 (a : T) (l : List T) : cutT (a :: l) (some 1) none = l := by
  have := cut_from (a :: l) 1 (by simp)
  simpa using this
include W
/-- one turn of the loop -/
theorem go_turn (a : Nat) (ha : a < 8) (p : Lp) (r : List Lp) (seen : List (Lp × List Lp)) (j : Option T) (hh : lhgts (p :: r) ≤ 28) (hs : ∀ z ∈ seen, z.1.hgt ≤ 28 ∧ lhgts z.2 ≤ 28) (hl : r.length + p.size ≤ 100000) (hls : seen.length ≤ 100000) :
    ∃ body, cc_law_going x = ⟨2, 4, [.asg [] 2 (.lst []), .whl (.cmp .ne (.pk 0) (.tup [])) body, .ret [] (.con (.str "ends"))]⟩ ∧ evSs P (run P Γ lf (n + 1)) lf body (goE a (p :: r) seen j) s = match goStep a (p :: r) seen with
      | .inl g => .rt (.val g.t) s
      | .inr (r', seen') => .nx (goE a r' seen' (some p.t)) s := by
  refine ⟨_, rfl, ?_⟩
  rw [lhgts] at hh
  have e1 : ∀ st : Sto, ixT P st (tupL (p :: r)) (.int 0) = some p.t := fun st => by
    unfold tupL
    rw [lpT]
    exact atI_0 _ _
  have e2 : ∀ st : Sto, slT st (tupL (p :: r)) (some 1) none = some (.val (tupL r)) := fun st => by
    unfold tupL
    rw [lpT, TW.sl_tup, cut1]
  have e4 : ∀ (st : Sto) (u v : List Lp), u.length + v.length ≤ 1000000 → opBin st .add (tupL u) (tupL v) = some (.val (tupL (u ++ v))) := fun st u v h => by
    unfold tupL
    rw [opBin_addT, if_pos (fits_of (by rw [lpT_map, lpT_map]; simp; omega)), lpT_map, lpT_map, lpT_map, List.map_append]
  cases p with
  | act b l => simp [goE, e1, e2, opd, Lp.t, eqO_kw, goStep, Go.t]
  | abort => simp [goE, e1, e2, opd, Lp.t, eqO_kw, goStep, Go.t]
  | skip => simp [goE, e1, e2, opd, Lp.t, eqO_kw, goStep, Go.t]
  | asr w =>
    have e3 := lhas_ev (P := P) (lf := lf) (n := n) (s := s) W.has w ha
    cases hb : w.testBit a with
    | true =>
      rw [hb] at e3
      simp [goE, e1, e2, opd, Lp.t, eqO_kw, goStep, Go.t, hb, e3, nT]
    | false =>
      rw [hb] at e3
      simp [goE, e1, e2, opd, Lp.t, eqO_kw, goStep, Go.t, hb, e3, nT]
  | ite w p1 p2 =>
    have e3 := lhas_ev (P := P) (lf := lf) (n := n) (s := s) W.has w ha
    rw [Lp.size] at hl
    have l1 := len_lsizes p1
    have l2 := len_lsizes p2
    cases hb : w.testBit a with
    | true =>
      rw [hb] at e3
      simp [goE, e1, e2, opd, Lp.t, eqO_kw, goStep, Go.t, hb, e3, nT, tupL_t, e4 _ p1 r (by omega)]
    | false =>
      rw [hb] at e3
      simp [goE, e1, e2, opd, Lp.t, eqO_kw, goStep, Go.t, hb, e3, nT, tupL_t, e4 _ p2 r (by omega)]
  | whl w p1 =>
    have e3 := lhas_ev (P := P) (lf := lf) (n := n) (s := s) W.has w ha
    rw [Lp.size] at hl
    have l1 := len_lsizes p1
    have et : (Lp.whl w p1).t = .tup [.str "while", .int (w : Int), tupL p1] := by rw [Lp.t]; rfl
    cases hb : w.testBit a with
    | false =>
      rw [hb] at e3
      simp [goE, e1, e2, et, opd, eqO_kw, goStep, Go.t, hb, e3]
    | true =>
      rw [hb] at e3
      have i1 : inT P s (.tup [.tup [.str "while", .int (w : Int), tupL p1], tupL r]) (.lst (seen.map pairT)) = some (inSeen seen (.whl w p1, r)) := by
        rw [← et]
        exact inT_seen s (q := (.whl w p1, r)) (by show (Lp.whl w p1).hgt ≤ 28; omega) (by show lhgts r ≤ 28; omega) hs
      have e5 : opBin s .add (tupL p1) (.tup [.tup [.str "while", .int (w : Int), tupL p1]]) = some (.val (tupL (p1 ++ [.whl w p1]))) := by
        have := e4 s p1 [.whl w p1] (by simp; omega)
        rw [show tupL [Lp.whl w p1] = .tup [.tup [.str "while", .int (w : Int), tupL p1]] by unfold tupL; rw [lpT, lpT, et]; rfl] at this
        exact this
      have e6 := e4 s (p1 ++ [.whl w p1]) r (by simp; omega)
      have l2 : seen.length < 16777216 := by omega
      cases hi : inSeen seen (.whl w p1, r) with
      | true => simp [goE, e1, e2, et, opd, eqO_kw, goStep, Go.t, hb, e3, i1, hi, fits]
      | false =>
        simp [goE, e1, e2, et, opd, eqO_kw, goStep, Go.t, hb, e3, i1, hi, fits, isL, chg, appO, l2, e5, e6, pairT]
end
end Tw

set_option Elab.async false
set_option linter.all false
set_option maxRecDepth 100000
set_option maxHeartbeats 4000000
/-! TwH: where a program may stand; the going ends. -/
namespace Tw
open PySem L2 TW
mutual
/-- what may be left to be done within p, tail behind it -/
def Lp.inn : Lp → List Lp → List (List Lp)
  | .ite _ p q, tail => allC p tail ++ allC q tail
  | .whl s p, tail => allC p (.whl s p :: tail)
  | .skip, _ => []
  | .abort, _ => []
  | .act _ _, _ => []
  | .asr _, _ => []
def allC : List Lp → List Lp → List (List Lp)
  | [], _ => []
  | p :: ps, r => (p :: (ps ++ r)) :: (p.inn (ps ++ r) ++ allC ps r)
end
mutual
theorem inn_len : ∀ (p : Lp) (t : List Lp), (p.inn t).length + 1 = p.size
  | .skip, t => by simp [Lp.inn, Lp.size]
  | .abort, t => by simp [Lp.inn, Lp.size]
  | .act _ _, t => by simp [Lp.inn, Lp.size]
  | .asr _, t => by simp [Lp.inn, Lp.size]
  | .ite _ p q, t => by
    have h1 := allC_len p t
    have h2 := allC_len q t
    simp [Lp.inn, Lp.size, h1, h2]; omega
  | .whl s p, t => by
    have h1 := allC_len p (.whl s p :: t)
    simp [Lp.inn, Lp.size, h1]; omega
theorem allC_len : ∀ (ps : List Lp) (r : List Lp), (allC ps r).length = lsizes ps
  | [], r => by simp [allC, lsizes]
  | p :: ps, r => by
    have h1 := inn_len p (ps ++ r)
    have h2 := allC_len ps r
    simp [allC, lsizes, h2]; omega
end
theorem ls_app (p q : List Lp) : lsizes (p ++ q) = lsizes p + lsizes q := by
  induction p with
  | nil => simp [lsizes]
  | cons a p ih => rw [List.cons_append, lsizes, lsizes, ih]; omega
mutual
theorem inn_size : ∀ (p : Lp) (t c : List Lp), c ∈ p.inn t → lsizes c ≤ lsizes t + p.size * (p.hgt + 1)
  | .skip, t, c, h => by simp [Lp.inn] at h
  | .abort, t, c, h => by simp [Lp.inn] at h
  | .act _ _, t, c, h => by simp [Lp.inn] at h
  | .asr _, t, c, h => by simp [Lp.inn] at h
  | .ite s p q, t, c, h => by
    rw [Lp.inn, List.mem_append] at h
    rw [Lp.size, Lp.hgt]
    rcases h with h | h
    · have h1 := allC_size p t c h
      refine Nat.le_trans h1 (Nat.add_le_add_left ?_ _)
      exact Nat.mul_le_mul (by omega) (by omega)
    · have h1 := allC_size q t c h
      refine Nat.le_trans h1 (Nat.add_le_add_left ?_ _)
      exact Nat.mul_le_mul (by omega) (by omega)
  | .whl s p, t, c, h => by
    rw [Lp.inn] at h
    have h1 := allC_size p (.whl s p :: t) c h
    rw [lsizes] at h1
    have e : (Lp.whl s p).size = 1 + lsizes p := by rw [Lp.size]
    have e2 : (Lp.whl s p).hgt = lhgts p + 1 := by rw [Lp.hgt]
    rw [e2]
    have h2 : lsizes p * (lhgts p + 1) ≤ (Lp.whl s p).size * (lhgts p + 1) := Nat.mul_le_mul_right _ (by omega)
    rw [show (Lp.whl s p).size * (lhgts p + 1 + 1) = (Lp.whl s p).size * (lhgts p + 1) + (Lp.whl s p).size by rw [Nat.mul_succ]]
    omega
theorem allC_size : ∀ (ps : List Lp) (r c : List Lp), c ∈ allC ps r → lsizes c ≤ lsizes r + lsizes ps * (lhgts ps + 1)
  | [], r, c, h => by simp [allC] at h
  | p :: ps, r, c, h => by
    rw [allC, List.mem_cons, List.mem_append] at h
    rw [lsizes, lhgts]
    have k1 : p.size + lsizes ps ≤ (p.size + lsizes ps) * (max p.hgt (lhgts ps) + 1) := Nat.le_mul_of_pos_right _ (by omega)
    have k2 : (p.size + lsizes ps) * (max p.hgt (lhgts ps) + 1) = p.size * (max p.hgt (lhgts ps) + 1) + lsizes ps * (max p.hgt (lhgts ps) + 1) := Nat.add_mul _ _ _
    have k3 : p.size * (p.hgt + 1) ≤ p.size * (max p.hgt (lhgts ps) + 1) := Nat.mul_le_mul_left _ (by omega)
    have k4 : lsizes ps * (lhgts ps + 1) ≤ lsizes ps * (max p.hgt (lhgts ps) + 1) := Nat.mul_le_mul_left _ (by omega)
    have k5 : lsizes ps ≤ lsizes ps * (max p.hgt (lhgts ps) + 1) := Nat.le_mul_of_pos_right _ (by omega)
    rcases h with rfl | h | h
    · rw [lsizes, ls_app]; omega
    · have h1 := inn_size p (ps ++ r) c h
      rw [ls_app] at h1
      omega
    · have h1 := allC_size ps r c h
      omega
end
/-! ### the next place -/
def eps (a : Nat) : List Lp → Option (List Lp)
  | [] => none
  | .act _ _ :: _ => none
  | .abort :: _ => none
  | .skip :: r => some r
  | .asr s :: r => if s.testBit a = true then some r else none
  | .ite s p q :: r => some ((if s.testBit a = true then p else q) ++ r)
  | .whl s p :: r => if s.testBit a = true then some (p ++ .whl s p :: r) else some r
theorem head_in (ps r : List Lp) : ps ++ r ∈ allC ps r ∨ ps ++ r = r := by
  cases ps with
  | nil => exact .inr rfl
  | cons p ps => exact .inl (by rw [allC]; exact List.mem_cons_self)
mutual
theorem inn_next {a : Nat} : ∀ (p : Lp) (t c c' : List Lp), c ∈ p.inn t → eps a c = some c' → c' ∈ p.inn t ∨ c' = t ∨ c' = p :: t
  | .skip, t, c, c', h, _ => by simp [Lp.inn] at h
  | .abort, t, c, c', h, _ => by simp [Lp.inn] at h
  | .act _ _, t, c, c', h, _ => by simp [Lp.inn] at h
  | .asr _, t, c, c', h, _ => by simp [Lp.inn] at h
  | .ite s p q, t, c, c', h, e => by
    rw [Lp.inn, List.mem_append] at h ⊢
    rcases h with h | h
    · rcases allC_next p t c c' h e with h | h
      · exact .inl (.inl h)
      · exact .inr (.inl h)
    · rcases allC_next q t c c' h e with h | h
      · exact .inl (.inr h)
      · exact .inr (.inl h)
  | .whl s p, t, c, c', h, e => by
    rw [Lp.inn] at h ⊢
    rcases allC_next p _ c c' h e with h | h
    · exact .inl h
    · exact .inr (.inr h)
theorem allC_next {a : Nat} : ∀ (ps r c c' : List Lp), c ∈ allC ps r → eps a c = some c' → c' ∈ allC ps r ∨ c' = r
  | [], r, c, c', h, _ => by simp [allC] at h
  | p :: ps, r, c, c', h, e => by
    have back : c' = ps ++ r → c' ∈ allC (p :: ps) r ∨ c' = r := fun q => by
      subst q
      rcases head_in ps r with h | h
      · exact .inl (by rw [allC, List.mem_cons, List.mem_append]; exact .inr (.inr h))
      · exact .inr h
    have inner : c' ∈ p.inn (ps ++ r) → c' ∈ allC (p :: ps) r ∨ c' = r := fun q => .inl (by rw [allC, List.mem_cons, List.mem_append]; exact .inr (.inl q))
    rw [allC, List.mem_cons, List.mem_append] at h
    rcases h with rfl | h | h
    · cases p with
      | skip => cases e; exact back rfl
      | abort => cases e
      | act _ _ => cases e
      | asr w =>
        simp only [eps] at e
        split at e
        · cases e; exact back rfl
        · cases e
      | ite w p q =>
        simp only [eps] at e
        cases e
        split
        · rcases head_in p (ps ++ r) with h | h
          · exact .inl (by rw [allC, List.mem_cons, List.mem_append, Lp.inn, List.mem_append]; exact .inr (.inl (.inl h)))
          · rw [h]
            rcases head_in ps r with h | h
            · exact .inl (by rw [allC, List.mem_cons, List.mem_append]; exact .inr (.inr h))
            · exact .inr h
        · rcases head_in q (ps ++ r) with h | h
          · exact .inl (by rw [allC, List.mem_cons, List.mem_append, Lp.inn, List.mem_append]; exact .inr (.inl (.inr h)))
          · rw [h]
            rcases head_in ps r with h | h
            · exact .inl (by rw [allC, List.mem_cons, List.mem_append]; exact .inr (.inr h))
            · exact .inr h
      | whl w p =>
        simp only [eps] at e
        split at e
        · cases e
          rcases head_in p (.whl w p :: (ps ++ r)) with h | h
          · exact inner (by rw [Lp.inn]; exact h)
          · rw [h]
            exact .inl (by rw [allC]; exact List.mem_cons_self)
        · cases e; exact back rfl
    · rcases inn_next p (ps ++ r) c c' h e with h | h | h
      · exact inner h
      · exact back h
      · exact .inl (by rw [allC, h]; exact List.mem_cons_self)
    · rcases allC_next ps r c c' h e with h | h
      · exact .inl (by rw [allC, List.mem_cons, List.mem_append]; exact .inr (.inr h))
      · exact .inr h
end
/-! ### acts and what stands behind them -/
mutual
theorem inn_act {b l : Nat} : ∀ (p : Lp) (t u : List Lp), (.act b l :: u) ∈ p.inn t → (l, u) ∈ p.conts t
  | .skip, t, u, h => by simp [Lp.inn] at h
  | .abort, t, u, h => by simp [Lp.inn] at h
  | .act _ _, t, u, h => by simp [Lp.inn] at h
  | .asr _, t, u, h => by simp [Lp.inn] at h
  | .ite s p q, t, u, h => by
    rw [Lp.inn, List.mem_append] at h
    rw [Lp.conts, List.mem_append]
    exact h.imp (allC_act p t u) (allC_act q t u)
  | .whl s p, t, u, h => by
    rw [Lp.inn] at h
    rw [Lp.conts]
    exact allC_act p _ u h
theorem allC_act {b l : Nat} : ∀ (ps r u : List Lp), (.act b l :: u) ∈ allC ps r → (l, u) ∈ contsB ps r
  | [], r, u, h => by simp [allC] at h
  | p :: ps, r, u, h => by
    rw [allC, List.mem_cons, List.mem_append] at h
    rw [contsB, List.mem_append]
    rcases h with h | h | h
    · cases h
      exact .inl (by rw [Lp.conts]; exact List.mem_cons_self)
    · exact .inl (inn_act p _ u h)
    · exact .inr (allC_act ps r u h)
end
mutual
theorem conts_in {l : Nat} : ∀ (p : Lp) (t u : List Lp), (l, u) ∈ p.conts t → u ∈ p.inn t ∨ u = t ∨ u = p :: t
  | .skip, t, u, h => by simp [Lp.conts] at h
  | .abort, t, u, h => by simp [Lp.conts] at h
  | .asr _, t, u, h => by simp [Lp.conts] at h
  | .act _ _, t, u, h => by
    rw [Lp.conts, List.mem_singleton] at h
    cases h
    exact .inr (.inl rfl)
  | .ite s p q, t, u, h => by
    rw [Lp.conts, List.mem_append] at h
    rw [Lp.inn, List.mem_append]
    rcases h with h | h
    · rcases contsB_in p t u h with h | h
      · exact .inl (.inl h)
      · exact .inr (.inl h)
    · rcases contsB_in q t u h with h | h
      · exact .inl (.inr h)
      · exact .inr (.inl h)
  | .whl s p, t, u, h => by
    rw [Lp.conts] at h
    rw [Lp.inn]
    rcases contsB_in p _ u h with h | h
    · exact .inl h
    · exact .inr (.inr h)
theorem contsB_in {l : Nat} : ∀ (ps r u : List Lp), (l, u) ∈ contsB ps r → u ∈ allC ps r ∨ u = r
  | [], r, u, h => by simp [contsB] at h
  | p :: ps, r, u, h => by
    rw [contsB, List.mem_append] at h
    rw [allC, List.mem_cons, List.mem_append]
    rcases h with h | h
    · rcases conts_in p _ u h with h | h | h
      · exact .inl (.inr (.inl h))
      · subst h
        rcases head_in ps r with h | h
        · exact .inl (.inr (.inr h))
        · exact .inr h
      · exact .inl (.inl h)
    · rcases contsB_in ps r u h with h | h
      · exact .inl (.inr (.inr h))
      · exact .inr h
end
end Tw

set_option Elab.async false
set_option linter.all false
set_option maxRecDepth 100000
set_option maxHeartbeats 4000000
/-! TwI: the going in plain words. -/
namespace Tw
open PySem L2 TW
/-! ### == of labelled programs -/
@[simp] theorem eqTs_nn : eqTs [] [] = true := rfl
@[simp] theorem eqTs_cc (a b : T) (as bs : List T) : eqTs (a :: as) (b :: bs) = (eqT a b && eqTs as bs) := rfl
@[simp] theorem eqTs_nc (b : T) (bs : List T) : eqTs [] (b :: bs) = false := rfl
@[simp] theorem eqTs_cn (b : T) (bs : List T) : eqTs (b :: bs) [] = false := rfl
theorem eqT_nT (a b : Nat) : eqT (nT a) (nT b) = decide (a = b) := by
  unfold nT
  rw [eqT_int]
  by_cases h : a = b <;> simp [h, Int.natCast_inj]
mutual
theorem eqT_lp : ∀ p q : Lp, eqT p.t q.t = true ↔ p = q
  | .skip, q => by cases q <;> simp [Lp.t, eqT_tup]
  | .abort, q => by cases q <;> simp [Lp.t, eqT_tup]
  | .act a l, q => by cases q <;> simp [Lp.t, eqT_tup, eqT_nT]
  | .asr a, q => by cases q <;> simp [Lp.t, eqT_tup, eqT_nT]
  | .ite w p p2, q => by
    have h1 := eqTs_lps p
    have h2 := eqTs_lps p2
    cases q <;> simp [Lp.t, eqT_tup, eqT_nT, h1, h2]
  | .whl w p, q => by
    have h1 := eqTs_lps p
    cases q <;> simp [Lp.t, eqT_tup, eqT_nT, h1]
theorem eqTs_lps : ∀ ps qs : List Lp, eqTs (lpT ps) (lpT qs) = true ↔ ps = qs
  | [], qs => by cases qs <;> simp [lpT]
  | p :: ps, qs => by
    have h1 := eqT_lp p
    have h2 := eqTs_lps ps
    cases qs <;> simp [lpT, h1, h2]
end
theorem inSeen_iff {seen : List (Lp × List Lp)} {q : Lp × List Lp} : inSeen seen q = true ↔ q ∈ seen := by
  unfold inSeen
  rw [List.any_eq_true]
  have e : ∀ z : Lp × List Lp, eqT (pairT z) (pairT q) = true ↔ z = q := fun z => by
    obtain ⟨z1, z2⟩ := z
    obtain ⟨q1, q2⟩ := q
    simp [pairT, tupL, eqT_tup, eqT_lp, eqTs_lps]
  constructor
  · rintro ⟨z, h1, h2⟩
    rw [← (e z).mp h2]; exact h1
  · intro h
    exact ⟨q, h, (e q).mpr rfl⟩
/-! ### going on -/
inductive Ep (a : Nat) : List Lp → List Lp → Prop where
  | refl (c : List Lp) : Ep a c c
  | step {c d e : List Lp} (h : eps a c = some d) (r : Ep a d e) : Ep a c e
theorem Ep.trans {a : Nat} {c d e : List Lp} (h : Ep a c d) (r : Ep a d e) : Ep a c e := by
  induction h with
  | refl => exact r
  | step h _ ih => exact .step h (ih r)
theorem Ep.one {a : Nat} {c d : List Lp} (h : eps a c = some d) : Ep a c d := .step h (.refl _)
theorem Ep.det {a : Nat} {c t u : List Lp} (h : Ep a c t) (ht : eps a t = none) (r : Ep a c u) (hu : eps a u = none) : t = u := by
  induction h with
  | refl =>
    cases r with
    | refl => rfl
    | step h _ => rw [ht] at h; cases h
  | step h _ ih =>
    cases r with
    | refl => rw [hu] at h; cases h
    | step h2 r2 =>
      rw [h] at h2; cases h2
      exact ih ht r2
theorem Ep.cyc {a : Nat} {d d' : List Lp} (hd : eps a d = some d') (hc : Ep a d' d) {e t : List Lp} (h : Ep a e t) (r : Ep a e d) (ht : eps a t = none) : False := by
  induction h with
  | refl =>
    cases r with
    | refl => rw [hd] at ht; cases ht
    | step h _ => rw [ht] at h; cases h
  | step h _ ih =>
    refine ih ?_ ht
    cases r with
    | refl => rw [hd] at h; cases h; exact hc
    | step h2 r2 => rw [h] at h2; cases h2; exact r2
/-- where one comes to -/
def Ends (a : Nat) (c : List Lp) : Go → Prop
  | .ends => Ep a c []
  | .lab l => ∃ b u, Ep a c (.act b l :: u)
  | .stops => ∀ t, Ep a c t → (t = [] ∨ ∃ b l u, t = .act b l :: u) → False
structure Orb (a : Nat) (C : List (List Lp)) (c0 cur : List Lp) (seen : List (Lp × List Lp)) : Prop where
  way : Ep a c0 cur
  at_ : cur ∈ C ∨ cur = []
  nd : (seen.map fun z => z.1 :: z.2).Nodup
  sub : ∀ z ∈ seen, z.1 :: z.2 ∈ C
  via : ∀ z ∈ seen, ∃ d', eps a (z.1 :: z.2) = some d' ∧ Ep a d' cur ∧ Ep a c0 (z.1 :: z.2)
theorem nodup_len {α : Type} : ∀ (l m : List α), l.Nodup → (∀ x ∈ l, x ∈ m) → l.length ≤ m.length
  | [], _, _, _ => Nat.zero_le _
  | x :: l, m, nd, h => by
    obtain ⟨m1, m2, rfl⟩ := List.append_of_mem (h x List.mem_cons_self)
    rw [List.nodup_cons] at nd
    have := nodup_len l (m1 ++ m2) nd.2 fun y hy => by
      have := h y (List.mem_cons_of_mem _ hy)
      simp only [List.mem_append, List.mem_cons] at this ⊢
      rcases this with h | rfl | h
      · exact .inl h
      · exact absurd hy nd.1
      · exact .inr h
    simp at this ⊢
    omega
/-- one turn keeps it -/
theorem orb_turn {a : Nat} {C : List (List Lp)} (hC : ∀ c c', c ∈ C → eps a c = some c' → c' ∈ C ∨ c' = []) {c0 cur : List Lp} {seen : List (Lp × List Lp)} (o : Orb a C c0 cur seen) : match goStep a cur seen with
    | .inl g => Ends a c0 g
    | .inr (r, seen') => Orb a C c0 r seen' ∧ eps a cur = some r ∧ (seen' = seen ∧ lsizes r < lsizes cur ∨ seen'.length = seen.length + 1 ∧ seen'.length ≤ C.length) := by
  have stop : ∀ {p : Lp} {r : List Lp}, cur = p :: r → eps a (p :: r) = none → (∀ b l, p ≠ .act b l) → Ends a c0 .stops := fun e hn hp t ht hh => by
    subst e
    have hnt : eps a t = none := by
      rcases hh with rfl | ⟨b, l, u, rfl⟩ <;> rfl
    have := o.way.det hn ht hnt
    subst this
    rcases hh with h | ⟨b, l, u, h⟩
    · cases h
    · cases h; exact hp _ _ rfl
  have keep : ∀ {r : List Lp}, eps a cur = some r → Orb a C c0 r seen := fun {r} e => by
    refine ⟨o.way.trans (.one e), ?_, o.nd, o.sub, fun z hz => ?_⟩
    · rcases o.at_ with h | h
      · exact hC _ _ h e
      · subst h; cases e
    · obtain ⟨d', h1, h2, h3⟩ := o.via z hz
      exact ⟨d', h1, h2.trans (.one e), h3⟩
  cases cur with
  | nil => exact o.way
  | cons p r =>
    cases p with
    | act b l => exact ⟨b, r, o.way⟩
    | abort => exact stop rfl rfl fun _ _ h => by cases h
    | skip => exact ⟨keep rfl, rfl, .inl ⟨rfl, by rw [lsizes, Lp.size]; omega⟩⟩
    | asr w =>
      simp only [goStep]
      by_cases hb : w.testBit a = true
      · rw [if_pos hb]
        have e : eps a (.asr w :: r) = some r := by simp only [Tw.eps]; rw [if_pos hb]
        exact ⟨keep e, e, .inl ⟨rfl, by rw [lsizes, Lp.size]; omega⟩⟩
      · rw [if_neg hb]
        exact stop rfl (by simp only [Tw.eps]; rw [if_neg hb]) fun _ _ h => by cases h
    | ite w p q =>
      simp only [goStep]
      refine ⟨keep rfl, rfl, .inl ⟨by trivial, ?_⟩⟩
      rw [lsizes, Lp.size, ls_app]
      split <;> omega
    | whl w p =>
      simp only [goStep]
      by_cases hb : w.testBit a = true
      · rw [if_pos hb]
        have e : eps a (.whl w p :: r) = some (p ++ .whl w p :: r) := by simp only [Tw.eps]; rw [if_pos hb]
        by_cases hs : inSeen seen (.whl w p, r) = true
        · rw [if_pos hs]
          obtain ⟨d', h1, h2, h3⟩ := o.via _ (inSeen_iff.mp hs)
          intro t ht hh
          refine Ep.cyc h1 h2 ht h3 ?_
          rcases hh with rfl | ⟨b, l, u, rfl⟩ <;> rfl
        · rw [if_neg hs]
          have k := keep e
          have hm : (Lp.whl w p :: r) ∈ C := o.at_.resolve_right fun h => by cases h
          have hn : (Lp.whl w p :: r) ∉ seen.map fun z => z.1 :: z.2 := fun h => by
            obtain ⟨z, hz, he⟩ := List.mem_map.mp h
            obtain ⟨z1, z2⟩ := z
            cases he
            exact hs (inSeen_iff.mpr hz)
          have nd : ((seen ++ [(Lp.whl w p, r)]).map fun z => z.1 :: z.2).Nodup := by
            rw [List.map_append, List.nodup_append]
            refine ⟨o.nd, by simp, fun x hx y hy => ?_⟩
            simp at hy
            subst hy
            exact fun h => hn (h ▸ hx)
          have sub : ∀ z ∈ seen ++ [(Lp.whl w p, r)], z.1 :: z.2 ∈ C := fun z hz => by
            rcases List.mem_append.mp hz with hz | hz
            · exact o.sub z hz
            · simp at hz; subst hz; exact hm
          refine ⟨⟨k.way, k.at_, nd, sub, fun z hz => ?_⟩, e, .inr ⟨by simp, ?_⟩⟩
          · rcases List.mem_append.mp hz with hz | hz
            · exact k.via z hz
            · simp at hz; subst hz
              exact ⟨_, e, .refl _, o.way⟩
          · have := nodup_len _ C nd fun x hx => by
              obtain ⟨z, hz, rfl⟩ := List.mem_map.mp hx
              exact sub z hz
            simpa using this
      · rw [if_neg hb]
        have e : eps a (.whl w p :: r) = some r := by simp only [Tw.eps]; rw [if_neg hb]
        exact ⟨keep e, e, .inl ⟨rfl, by rw [lsizes, Lp.size]; omega⟩⟩
/-- the going ends, and tells where -/
theorem goF_ok {a : Nat} {C : List (List Lp)} (hC : ∀ c c', c ∈ C → eps a c = some c' → c' ∈ C ∨ c' = []) {B : Nat} (hB : ∀ c ∈ C, lsizes c ≤ B) {c0 : List Lp} : ∀ (f : Nat) (cur : List Lp) (seen : List (Lp × List Lp)), Orb a C c0 cur seen → seen.length ≤ C.length → (C.length - seen.length) * (B + 1) + lsizes cur < f →
    ∃ g, goF a f cur seen = some g ∧ Ends a c0 g
  | 0, _, _, _, _, h => by omega
  | f + 1, cur, seen, o, hl, h => by
    have t := orb_turn hC o
    rw [goF]
    cases hg : goStep a cur seen with
    | inl g => rw [hg] at t; exact ⟨g, rfl, t⟩
    | inr q =>
      obtain ⟨r, seen'⟩ := q
      rw [hg] at t
      obtain ⟨t1, t2, t3⟩ := t
      rcases t3 with ⟨rfl, t3⟩ | ⟨t3, t4⟩
      · exact goF_ok hC hB f r seen' t1 hl (by omega)
      · refine goF_ok hC hB f r seen' t1 t4 ?_
        have hr : lsizes r ≤ B := by
          rcases t1.at_ with h | h
          · exact hB r h
          · subst h; rw [lsizes]; omega
        have e : C.length - seen.length = (C.length - seen'.length) + 1 := by omega
        rw [e, Nat.succ_mul] at h
        omega
mutual
theorem inn_hgt : ∀ (p : Lp) (t c : List Lp), c ∈ p.inn t → lhgts c ≤ max p.hgt (lhgts t)
  | .skip, t, c, h => by simp [Lp.inn] at h
  | .abort, t, c, h => by simp [Lp.inn] at h
  | .act _ _, t, c, h => by simp [Lp.inn] at h
  | .asr _, t, c, h => by simp [Lp.inn] at h
  | .ite s p q, t, c, h => by
    rw [Lp.inn, List.mem_append] at h
    rw [Lp.hgt]
    rcases h with h | h
    · have := allC_hgt p t c h; omega
    · have := allC_hgt q t c h; omega
  | .whl s p, t, c, h => by
    rw [Lp.inn] at h
    have := allC_hgt p (.whl s p :: t) c h
    rw [lhgts] at this
    have e : (Lp.whl s p).hgt = lhgts p + 1 := by rw [Lp.hgt]
    omega
theorem allC_hgt : ∀ (ps : List Lp) (r c : List Lp), c ∈ allC ps r → lhgts c ≤ max (lhgts ps) (lhgts r)
  | [], r, c, h => by simp [allC] at h
  | p :: ps, r, c, h => by
    rw [allC, List.mem_cons, List.mem_append] at h
    rw [lhgts]
    rcases h with rfl | h | h
    · rw [lhgts, lh_app]; omega
    · have := inn_hgt p _ c h
      rw [lh_app] at this
      omega
    · have := allC_hgt ps r c h; omega
end
end Tw

set_option Elab.async false
set_option linter.all false
set_option maxRecDepth 100000
set_option maxHeartbeats 4000000
/-! TwJ: tables tell the runs. -/
namespace Tw
open PySem L2 TW
mutual
def Lp.era : Lp → Pg
  | .skip => .skip
  | .abort => .abort
  | .act a _ => .act a
  | .asr s => .asr s
  | .ite s p q => .ite s (eras p) (eras q)
  | .whl s p => .whl s (eras p)
def eras : List Lp → List Pg
  | [] => []
  | p :: ps => p.era :: eras ps
end
mutual
theorem era_lab : ∀ (p : Pg) (k : Nat), (p.lab k).era = p
  | .skip, k => by simp [Pg.lab, Lp.era]
  | .abort, k => by simp [Pg.lab, Lp.era]
  | .act a, k => by simp [Pg.lab, Lp.era]
  | .asr s, k => by simp [Pg.lab, Lp.era]
  | .ite s p q, k => by simp [Pg.lab, Lp.era, eras_labs p, eras_labs q]
  | .whl s p, k => by simp [Pg.lab, Lp.era, eras_labs p]
theorem eras_labs : ∀ (ps : List Pg) (k : Nat), eras (labs ps k) = ps
  | [], k => by simp [labs, eras]
  | p :: ps, k => by simp [labs, eras, era_lab p, eras_labs ps]
end
theorem eras_app : ∀ p q : List Lp, eras (p ++ q) = eras p ++ eras q
  | [], q => by simp [eras]
  | a :: p, q => by simp [eras, eras_app p q]
/-- from x to y -/
def Dn (hs : List Hy) (c : List Pg) (x y : Nat) : Prop := bitAt (tabB hs c same) x y = true
def Sn (hs : List Hy) (p : Pg) (x y : Nat) : Prop := bitAt (tabS hs p) x y = true
theorem mapU_iff {S t : List Nat} (hS : Tab S) (ht : Tab t) {x : Nat} (hx : x < 8) (y : Nat) : bitAt (t.map (unite S)) x y = true ↔ ∃ z, z < 8 ∧ bitAt t x z = true ∧ bitAt S z y = true := by
  rw [mapU_bit ht hx, List.any_eq_true]
  constructor
  · rintro ⟨z, h1, h2⟩
    obtain ⟨h3, h4⟩ := mem8_iff.mp h1
    exact ⟨z, h3, h4, h2⟩
  · rintro ⟨z, h1, h2, h3⟩
    exact ⟨z, mem8_iff.mpr ⟨h1, h2⟩, h3⟩
theorem tabB_iff (hs : List Hy) : ∀ (c : List Pg) (t : List Nat), Tab t → ∀ {x : Nat}, x < 8 → ∀ y, bitAt (tabB hs c t) x y = true ↔ ∃ z, z < 8 ∧ bitAt t x z = true ∧ Dn hs c z y
  | [], t, ht, x, hx, y => by
    rw [tabB]
    unfold Dn
    constructor
    · intro h
      have := ht.lt x y h
      exact ⟨y, this, h, by rw [tabB, same_bit this]; simp⟩
    · rintro ⟨z, hz, h1, h2⟩
      rw [tabB, same_bit hz] at h2
      have := of_decide_eq_true h2
      subst this; exact h1
  | p :: c, t, ht, x, hx, y => by
    rw [tabB, tabB_iff hs c _ (tab_map (tabS_tab hs p) ht) hx]
    constructor
    · rintro ⟨z, hz, h1, h2⟩
      rw [mapU_iff (tabS_tab hs p) ht hx] at h1
      obtain ⟨u, hu, h3, h4⟩ := h1
      refine ⟨u, hu, h3, ?_⟩
      unfold Dn
      rw [tabB, tabB_iff hs c _ (tab_map (tabS_tab hs p) tab_same) hu]
      exact ⟨z, hz, (mapU_iff (tabS_tab hs p) tab_same hu z).mpr ⟨u, hu, by rw [same_bit hu]; simp, h4⟩, h2⟩
    · rintro ⟨u, hu, h1, h2⟩
      unfold Dn at h2
      rw [tabB, tabB_iff hs c _ (tab_map (tabS_tab hs p) tab_same) hu] at h2
      obtain ⟨z, hz, h3, h4⟩ := h2
      refine ⟨z, hz, (mapU_iff (tabS_tab hs p) ht hx z).mpr ⟨u, hu, h1, ?_⟩, h4⟩
      obtain ⟨v, hv, h5, h6⟩ := (mapU_iff (tabS_tab hs p) tab_same hu z).mp h3
      rw [same_bit hu] at h5
      have := of_decide_eq_true h5
      subst this; exact h6
theorem Dn_lt {hs : List Hy} {c : List Pg} {x y : Nat} (h : Dn hs c x y) : y < 8 := (tabB_tab hs c same tab_same).lt x y h
theorem Sn_lt {hs : List Hy} {c : Pg} {x y : Nat} (h : Sn hs c x y) : y < 8 := (tabS_tab hs c).lt x y h
theorem Dn_nil {hs : List Hy} {x : Nat} (hx : x < 8) (y : Nat) : Dn hs [] x y ↔ x = y := by
  unfold Dn
  rw [tabB, same_bit hx]
  simp
theorem Dn_cons {hs : List Hy} {p : Pg} {c : List Pg} {x : Nat} (hx : x < 8) (y : Nat) : Dn hs (p :: c) x y ↔ ∃ z, z < 8 ∧ Sn hs p x z ∧ Dn hs c z y := by
  unfold Dn
  rw [tabB, tabB_iff hs c _ (tab_map (tabS_tab hs p) tab_same) hx]
  have : ∀ z, bitAt (same.map (unite (tabS hs p))) x z = true ↔ Sn hs p x z := fun z => by
    rw [mapU_iff (tabS_tab hs p) tab_same hx]
    constructor
    · rintro ⟨v, hv, h5, h6⟩
      rw [same_bit hx] at h5
      have := of_decide_eq_true h5
      subst this; exact h6
    · intro h
      exact ⟨x, hx, by rw [same_bit hx]; simp, h⟩
  simp only [this]
  exact Iff.rfl
theorem Dn_app {hs : List Hy} : ∀ {p c : List Pg} {x : Nat}, x < 8 → ∀ y, Dn hs (p ++ c) x y ↔ ∃ z, z < 8 ∧ Dn hs p x z ∧ Dn hs c z y
  | [], c, x, hx, y => by
    constructor
    · intro h
      exact ⟨x, hx, (Dn_nil hx x).mpr rfl, h⟩
    · rintro ⟨z, hz, h1, h2⟩
      rw [Dn_nil hx] at h1
      subst h1; exact h2
  | q :: p, c, x, hx, y => by
    rw [List.cons_append, Dn_cons hx]
    constructor
    · rintro ⟨z, hz, h1, h2⟩
      obtain ⟨u, hu, h3, h4⟩ := (Dn_app hz y).mp h2
      exact ⟨u, hu, (Dn_cons hx u).mpr ⟨z, hz, h1, h3⟩, h4⟩
    · rintro ⟨u, hu, h1, h2⟩
      obtain ⟨z, hz, h3, h4⟩ := (Dn_cons hx u).mp h1
      exact ⟨z, hz, h3, (Dn_app hz y).mpr ⟨u, hu, h4, h2⟩⟩
theorem Dn_one {hs : List Hy} {p : Pg} {x : Nat} (hx : x < 8) (y : Nat) : Dn hs [p] x y ↔ Sn hs p x y := by
  rw [Dn_cons hx]
  constructor
  · rintro ⟨z, hz, h1, h2⟩
    rw [Dn_nil hz] at h2
    subst h2; exact h1
  · intro h
    exact ⟨y, Sn_lt h, h, (Dn_nil (Sn_lt h) y).mpr rfl⟩
/-! ### the steps -/
theorem Sn_skip {hs : List Hy} {x : Nat} (hx : x < 8) (y : Nat) : Sn hs .skip x y ↔ x = y := by
  unfold Sn
  rw [tabS, same_bit hx]; simp
theorem Sn_abort {hs : List Hy} {x : Nat} (y : Nat) : ¬ Sn hs .abort x y := by
  unfold Sn
  rw [tabS, noth_bit]; simp
theorem Sn_act {hs : List Hy} {b x : Nat} (hx : x < 8) (y : Nat) : Sn hs (.act b) x y ↔ y < 8 ∧ lead hs b x y = true := by
  unfold Sn
  rw [tabS, bitAt_map (α := Nat) hx, maskOf_bit, hit_one hs b hx]
  simp
theorem Sn_asr {hs : List Hy} {s x : Nat} (hx : x < 8) (y : Nat) : Sn hs (.asr s) x y ↔ s.testBit x = true ∧ x = y := by
  unfold Sn
  rw [tabS, choose_bit _ _ _ hx, same_bit hx, noth_bit]
  cases s.testBit x <;> simp
theorem Sn_ite {hs : List Hy} {s x : Nat} {p q : List Pg} (hx : x < 8) (y : Nat) : Sn hs (.ite s p q) x y ↔ if s.testBit x = true then Dn hs p x y else Dn hs q x y := by
  unfold Sn
  rw [tabS, choose_bit _ _ _ hx]
  split <;> exact Iff.rfl
theorem Sn_whl {hs : List Hy} {s x : Nat} {p : List Pg} (hx : x < 8) (y : Nat) : Sn hs (.whl s p) x y ↔ if s.testBit x = true then ∃ z, z < 8 ∧ Dn hs p x z ∧ Sn hs (.whl s p) z y else x = y := by
  have hB := tabB_tab hs p same tab_same
  unfold Sn
  rw [tabS]
  have e := rounds_fix (own := s) hB
  conv => lhs; rw [← e, rndF_bit hB hx]
  split
  · rw [List.any_eq_true]
    constructor
    · rintro ⟨z, h1, h2⟩
      obtain ⟨h3, h4⟩ := mem8_iff.mp h1
      exact ⟨z, h3, h4, h2⟩
    · rintro ⟨z, h1, h2, h3⟩
      exact ⟨z, mem8_iff.mpr ⟨h1, h2⟩, h3⟩
  · simp
/-! ### runs -/
inductive Rn (hs : List Hy) : List Lp → Nat → Nat → Prop where
  | fin (x : Nat) : Rn hs [] x x
  | eps {c d : List Lp} {x y : Nat} (h : eps x c = some d) (r : Rn hs d x y) : Rn hs c x y
  | act {b l : Nat} {u : List Lp} {x z y : Nat} (h : lead hs b x z = true) (hz : z < 8) (r : Rn hs u z y) : Rn hs (.act b l :: u) x y
theorem eps_app {a : Nat} {c d r : List Lp} (h : eps a c = some d) : eps a (c ++ r) = some (d ++ r) := by
  cases c with
  | nil => cases h
  | cons p c =>
    cases p with
    | act _ _ => cases h
    | abort => cases h
    | skip => cases h; rfl
    | asr w =>
      simp only [eps] at h
      split at h
      · rename_i hb
        cases h
        simp only [List.cons_append, Tw.eps]
        rw [if_pos hb]
      · cases h
    | ite w p q =>
      simp only [eps] at h
      cases h
      simp only [List.cons_append, Tw.eps, List.append_assoc]
    | whl w p =>
      simp only [eps] at h
      simp only [List.cons_append, Tw.eps]
      split at h
      · rename_i hb
        cases h
        rw [if_pos hb]
        simp
      · rename_i hb
        cases h
        rw [if_neg hb]
theorem Rn.app {hs : List Hy} {p r : List Lp} {x z y : Nat} (h : Rn hs p x z) (h2 : Rn hs r z y) : Rn hs (p ++ r) x y := by
  induction h with
  | fin x => exact h2
  | eps h _ ih => exact .eps (eps_app h) (ih h2)
  | act h hz _ ih => exact .act h hz (ih h2)
/-- the table holds every run -/
theorem Rn.dn {hs : List Hy} {c : List Lp} {x y : Nat} (h : Rn hs c x y) (hx : x < 8) : Dn hs (eras c) x y := by
  induction h with
  | fin x => rw [eras]; exact (Dn_nil hx x).mpr rfl
  | @eps c d x y h _ ih =>
    have ih := ih hx
    cases c with
    | nil => cases h
    | cons p c =>
      rw [eras, Dn_cons hx]
      cases p with
      | act _ _ => cases h
      | abort => cases h
      | skip =>
        cases h
        exact ⟨x, hx, by rw [Lp.era]; exact (Sn_skip hx x).mpr rfl, ih⟩
      | asr w =>
        simp only [Tw.eps] at h
        split at h
        · rename_i hb
          cases h
          exact ⟨x, hx, by rw [Lp.era]; exact (Sn_asr hx x).mpr ⟨hb, rfl⟩, ih⟩
        · cases h
      | ite w p q =>
        simp only [Tw.eps] at h
        cases h
        rw [eras_app] at ih
        obtain ⟨z, hz, h1, h2⟩ := (Dn_app hx y).mp ih
        refine ⟨z, hz, ?_, h2⟩
        rw [Lp.era, Sn_ite hx]
        split at h1
        · rename_i hb; rw [if_pos hb]; exact h1
        · rename_i hb; rw [if_neg hb]; exact h1
      | whl w p =>
        simp only [Tw.eps] at h
        split at h
        · rename_i hb
          cases h
          rw [eras_app, eras] at ih
          obtain ⟨z, hz, h1, h2⟩ := (Dn_app hx y).mp ih
          obtain ⟨u, hu, h3, h4⟩ := (Dn_cons hz y).mp h2
          refine ⟨u, hu, ?_, h4⟩
          rw [Lp.era] at h3 ⊢
          rw [Sn_whl hx, if_pos hb]
          exact ⟨z, hz, h1, h3⟩
        · rename_i hb
          cases h
          refine ⟨x, hx, ?_, ih⟩
          rw [Lp.era, Sn_whl hx, if_neg hb]
  | @act b l u x z y h hz _ ih =>
    rw [eras, Dn_cons hx]
    exact ⟨z, hz, by rw [Lp.era]; exact (Sn_act hx z).mpr ⟨hz, h⟩, ih hz⟩
/-- what the table holds is run -/
theorem whl_rn {hs : List Hy} {s : Nat} {p : List Lp} (hp : ∀ x y, x < 8 → Dn hs (eras p) x y → Rn hs p x y) : ∀ (k x y : Nat), x < 8 → bitAt (iter (rndF s (tabB hs (eras p) same)) k (rnd0 s)) x y = true → Rn hs [.whl s p] x y
  | 0, x, y, hx, h => by
    have h : bitAt (choose8 s noth same) x y = true := h
    rw [choose_bit _ _ _ hx, noth_bit, same_bit hx] at h
    split at h
    · cases h
    · rename_i hb
      have := of_decide_eq_true h
      subst this
      exact .eps (d := []) (by simp only [Tw.eps]; rw [if_neg hb]) (.fin x)
  | k + 1, x, y, hx, h => by
    rw [iter_succ', rndF_bit (tabB_tab hs _ same tab_same) hx] at h
    split at h
    · rename_i hb
      rw [List.any_eq_true] at h
      obtain ⟨z, h1, h2⟩ := h
      obtain ⟨h3, h4⟩ := mem8_iff.mp h1
      exact .eps (d := p ++ [.whl s p]) (by simp only [Tw.eps]; rw [if_pos hb]) ((hp x z hx h4).app (whl_rn hp k z y h3 h2))
    · rename_i hb
      have := of_decide_eq_true h
      subst this
      exact .eps (d := []) (by simp only [Tw.eps]; rw [if_neg hb]) (.fin x)
mutual
theorem sn_rn {hs : List Hy} : ∀ (p : Lp) (x y : Nat), x < 8 → Sn hs p.era x y → Rn hs [p] x y
  | .skip, x, y, hx, h => by
    rw [Lp.era, Sn_skip hx] at h
    subst h
    exact .eps (d := []) rfl (.fin x)
  | .abort, x, y, hx, h => by
    rw [Lp.era] at h
    exact absurd h (Sn_abort y)
  | .act b l, x, y, hx, h => by
    rw [Lp.era, Sn_act hx] at h
    exact .act h.2 h.1 (.fin y)
  | .asr s, x, y, hx, h => by
    rw [Lp.era, Sn_asr hx] at h
    obtain ⟨hb, rfl⟩ := h
    exact .eps (d := []) (by simp only [Tw.eps]; rw [if_pos hb]) (.fin x)
  | .ite s p q, x, y, hx, h => by
    rw [Lp.era, Sn_ite hx] at h
    split at h
    · rename_i hb
      exact .eps (d := p ++ []) (by simp only [Tw.eps]; rw [if_pos hb]) (by rw [List.append_nil]; exact dn_rn p x y hx h)
    · rename_i hb
      exact .eps (d := q ++ []) (by simp only [Tw.eps]; rw [if_neg hb]) (by rw [List.append_nil]; exact dn_rn q x y hx h)
  | .whl s p, x, y, hx, h => by
    rw [Lp.era] at h
    unfold Sn at h
    rw [tabS] at h
    exact whl_rn (dn_rn p) 64 x y hx h
theorem dn_rn {hs : List Hy} : ∀ (ps : List Lp) (x y : Nat), x < 8 → Dn hs (eras ps) x y → Rn hs ps x y
  | [], x, y, hx, h => by
    rw [eras, Dn_nil hx] at h
    subst h; exact .fin x
  | p :: ps, x, y, hx, h => by
    rw [eras, Dn_cons hx] at h
    obtain ⟨z, hz, h1, h2⟩ := h
    exact (sn_rn p x z hx h1).app (dn_rn ps z y hz h2)
end
theorem Rn.bit {hs : List Hy} {ps : List Pg} {x y : Nat} (hx : x < 8) : Rn hs (labs ps 0) x y ↔ bitAt (tabB hs ps same) x y = true := by
  constructor
  · intro h
    have := h.dn hx
    rw [eras_labs] at this
    exact this
  · intro h
    exact dn_rn _ x y hx (by rw [eras_labs]; exact h)
/-! ### runs from act to act -/
inductive Ac (hs : List Hy) : List Lp → Nat → Nat → Prop where
  | fin {c : List Lp} {x : Nat} (h : Ep x c []) : Ac hs c x x
  | act {c u : List Lp} {b l x z y : Nat} (e : Ep x c (.act b l :: u)) (h : lead hs b x z = true) (hz : z < 8) (r : Ac hs u z y) : Ac hs c x y
theorem Rn.ac {hs : List Hy} {c : List Lp} {x y : Nat} (h : Rn hs c x y) : Ac hs c x y := by
  induction h with
  | fin x => exact .fin (.refl _)
  | eps h _ ih =>
    cases ih with
    | fin e => exact .fin (.step h e)
    | act e h2 hz r => exact .act (.step h e) h2 hz r
  | act h hz _ ih => exact .act (.refl _) h hz ih
theorem Ep.rn {hs : List Hy} {c d : List Lp} {x y : Nat} (h : Ep x c d) (r : Rn hs d x y) : Rn hs c x y := by
  induction h with
  | refl => exact r
  | step h _ ih => exact .eps h (ih r)
theorem Ac.rn {hs : List Hy} {c : List Lp} {x y : Nat} (h : Ac hs c x y) : Rn hs c x y := by
  induction h with
  | fin e => exact e.rn (.fin _)
  | act e h hz _ ih => exact e.rn (.act h hz ih)
end Tw

set_option Elab.async false
set_option linter.all false
set_option maxRecDepth 100000
set_option maxHeartbeats 4000000
/-! TwK: the law's going and walks are evaluated. -/
namespace Tw
open PySem L2 TW
def goBody (x : Ix) : List TW.S := match (cc_law_going x).body with
  | [_, .whl _ b, _] => b
  | _ => []
theorem going_eq (x : Ix) : cc_law_going x = ⟨2, 4, [.asg [] 2 (.lst []), .whl (.cmp .ne (.pk 0) (.tup [])) (goBody x), .ret [] (.con (.str "ends"))]⟩ := rfl
def goOut (g : Go) (env : TW.Env) (s : Sto) : Out := match g with
  | .ends => .nx env s
  | .lab l => .rt (.val (nT l)) s
  | .stops => .rt (.val (.str "stops")) s
/-- a closed row of places, within bounds -/
structure Plc (a : Nat) (C : List (List Lp)) : Prop where
  clos : ∀ c c', c ∈ C → eps a c = some c' → c' ∈ C ∨ c' = []
  size : ∀ c ∈ C, lsizes c ≤ 90000
  hgt : ∀ c ∈ C, lhgts c ≤ 28
  len : C.length ≤ 90000
section
variable {P : Pm} {Γ : List TW.Fn} {lf n : Nat} {x : Ix} {s r : Sto} (W : LibW Γ x)
include W
theorem go_loop {a : Nat} (ha : a < 8) {C : List (List Lp)} (pc : Plc a C) {c0 : List Lp} : ∀ (k m : Nat) (cur : List Lp) (seen : List (Lp × List Lp)) (j : Option T) (g : Go), Orb a C c0 cur seen → goF a k cur seen = some g → k ≤ m →
    ∃ env', whGo (fun env s => evC P (run P Γ lf (n + 1)) env (some (.cmp .ne (.pk 0) (.tup []))) s) (fun env s => evSs P (run P Γ lf (n + 1)) lf (goBody x) env s) m (goE a cur seen j) s = goOut g env' s
  | 0, _, _, _, _, _, _, h, _ => by cases h
  | k + 1, 0, _, _, _, _, _, _, h => by omega
  | k + 1, m + 1, [], seen, j, g, o, h, hk => by
    rw [goF] at h
    cases h
    refine ⟨goE a [] seen j, ?_⟩
    have e := ne_nil s [] (by rw [lhgts]; omega)
    rw [whGo]
    simp [goE, opd, fits, e, goOut]
  | k + 1, m + 1, p :: r, seen, j, g, o, h, hk => by
    have hm : (p :: r) ∈ C := o.at_.resolve_right fun h => by cases h
    have h1 := pc.size _ hm
    have h2 := pc.hgt _ hm
    have h3 := len_lsizes r
    rw [lsizes] at h1
    have hs : ∀ z ∈ seen, z.1.hgt ≤ 28 ∧ lhgts z.2 ≤ 28 := fun z hz => by
      have := pc.hgt _ (o.sub z hz)
      rw [lhgts] at this
      exact ⟨by omega, by omega⟩
    have hl : seen.length ≤ C.length := by
      have := nodup_len _ C o.nd fun y hy => by
        obtain ⟨z, hz, rfl⟩ := List.mem_map.mp hy
        exact o.sub z hz
      simpa using this
    obtain ⟨body, e1, e2⟩ := go_turn (P := P) (lf := lf) (n := n) (s := s) W a ha p r seen j h2 hs (by omega) (by have := pc.len; omega)
    have eb : goBody x = body := by unfold goBody; rw [e1]
    rw [eb]
    have t := orb_turn pc.clos o
    have e := ne_nil s (p :: r) (by omega)
    rw [goF] at h
    have step : whGo (fun env s => evC P (run P Γ lf (n + 1)) env (some (.cmp .ne (.pk 0) (.tup []))) s) (fun env s => evSs P (run P Γ lf (n + 1)) lf body env s) (m + 1) (goE a (p :: r) seen j) s = match evSs P (run P Γ lf (n + 1)) lf body (goE a (p :: r) seen j) s with
        | .nx env' s' => whGo (fun env s => evC P (run P Γ lf (n + 1)) env (some (.cmp .ne (.pk 0) (.tup []))) s) (fun env s => evSs P (run P Γ lf (n + 1)) lf body env s) m env' s'
        | .ct env' s' => whGo (fun env s => evC P (run P Γ lf (n + 1)) env (some (.cmp .ne (.pk 0) (.tup []))) s) (fun env s => evSs P (run P Γ lf (n + 1)) lf body env s) m env' s'
        | .bk env' s' => .nx env' s'
        | o => o := by
      rw [whGo]
      have c : evC P (run P Γ lf (n + 1)) (goE a (p :: r) seen j) (some (.cmp .ne (.pk 0) (.tup []))) s = .ok true s := by
        simp [goE, opd, fits, e]
      rw [c]
      rfl
    rw [step, e2]
    cases hg : goStep a (p :: r) seen with
    | inl g' =>
      rw [hg] at h
      cases h
      refine ⟨[], ?_⟩
      cases g with
      | ends =>
        exfalso
        cases p <;> simp only [goStep] at hg <;> (repeat (split at hg)) <;> cases hg
      | lab l => rfl
      | stops => rfl
    | inr q =>
      obtain ⟨r', seen'⟩ := q
      rw [hg] at h t
      obtain ⟨env', e3⟩ := go_loop ha pc k m r' seen' (some p.t) g t.1 h (by omega)
      refine ⟨env', ?_⟩
      rw [← eb]
      exact e3
theorem going_ev {a : Nat} (ha : a < 8) {C : List (List Lp)} (pc : Plc a C) {c0 : List Lp} (h0 : c0 ∈ C ∨ c0 = []) {k : Nat} {g : Go} (hg : goF a k c0 [] = some g) (hk : k ≤ lf) : run P Γ lf (n + 2) x.f_law_going [tupL c0, .int a] s = .ok (.val g.t) s := by
  rw [run_at W.going (by rw [going_eq]; rfl), going_eq]
  have o : Orb a C c0 c0 [] := ⟨.refl _, h0, by simp, by simp, by simp⟩
  obtain ⟨env', e⟩ := go_loop (P := P) (lf := lf) (n := n) (s := s) (x := x) W ha pc k lf c0 [] none g o hg hk
  have e : whGo (fun env s => (frzR (evE P (run P Γ lf (n + 1)) env (.cmp .ne (.pk 0) (.tup [])) s)).bind fun x s1 => R.of (bool? x) s1) (fun env s => evSs P (run P Γ lf (n + 1)) lf (goBody x) env s) lf [.val (tupL c0), .val (.int a), .own (.lst []), .no] s = goOut g env' s := e
  simp only [startE_def]
  show (evSs P (run P Γ lf (n + 1)) lf [.asg [] 2 (.lst []), .whl (.cmp .ne (.pk 0) (.tup [])) (goBody x), .ret [] (.con (.str "ends"))] [.val (tupL c0), .val (.int a), .no, .no] s).res = _
  rw [xss_cons]
  have e1 : evS P (run P Γ lf (n + 1)) lf (.asg [] 2 (.lst [])) [.val (tupL c0), .val (.int a), .no, .no] s = .nx [.val (tupL c0), .val (.int a), .own (.lst []), .no] s := by
    simp [fits]
  rw [e1, seq_nx, xss_cons, xs_whl]
  have e2 : whGo (fun env s => evC P (run P Γ lf (n + 1)) env (some (.cmp .ne (.pk 0) (.tup []))) s) (fun env s => evSs P (run P Γ lf (n + 1)) lf (goBody x) env s) lf [.val (tupL c0), .val (.int a), .own (.lst []), .no] s = goOut g env' s := e
  rw [e2]
  cases g with
  | ends => simp [goOut, Go.t]
  | lab l => simp [goOut, Go.t]
  | stops => simp [goOut, Go.t]
end
/-! ### places -/
mutual
theorem conts_lab : ∀ (p : Pg) (k : Nat) (t : List Lp), ((p.lab k).conts t).map (·.1) = (List.range p.acts.length).map (k + 1 + ·)
  | .skip, k, t => by simp [Pg.lab, Lp.conts, Pg.acts]
  | .abort, k, t => by simp [Pg.lab, Lp.conts, Pg.acts]
  | .act a, k, t => by simp [Pg.lab, Lp.conts, Pg.acts]
  | .asr s, k, t => by simp [Pg.lab, Lp.conts, Pg.acts]
  | .ite s p q, k, t => by
    rw [Pg.lab, Lp.conts, List.map_append, conts_labs p, conts_labs q, Pg.acts, List.length_append, List.range_add, List.map_append, List.map_map]
    congr 1
    apply List.map_congr_left
    intro i _
    simp; omega
  | .whl s p, k, t => by
    rw [Pg.lab, Lp.conts, conts_labs p, Pg.acts]
theorem conts_labs : ∀ (ps : List Pg) (k : Nat) (t : List Lp), (contsB (labs ps k) t).map (·.1) = (List.range (actsOf ps).length).map (k + 1 + ·)
  | [], k, t => by simp [labs, contsB, actsOf]
  | p :: ps, k, t => by
    rw [labs, contsB, List.map_append, conts_lab p, conts_labs ps, actsOf, List.length_append, List.range_add, List.map_append, List.map_map]
    congr 1
    apply List.map_congr_left
    intro i _
    simp; omega
end
mutual
theorem lab_act {b l : Nat} : ∀ (p : Pg) (k : Nat) (t u : List Lp), (.act b l :: u) ∈ (p.lab k).inn t → k < l ∧ p.acts[l - 1 - k]? = some b
  | .skip, k, t, u, h => by simp [Pg.lab, Lp.inn] at h
  | .abort, k, t, u, h => by simp [Pg.lab, Lp.inn] at h
  | .act _, k, t, u, h => by simp [Pg.lab, Lp.inn] at h
  | .asr _, k, t, u, h => by simp [Pg.lab, Lp.inn] at h
  | .ite s p q, k, t, u, h => by
    rw [Pg.lab, Lp.inn, List.mem_append] at h
    rw [Pg.acts]
    rcases h with h | h
    · obtain ⟨h1, h2⟩ := labs_act p k t u h
      exact ⟨h1, by rw [List.getElem?_append_left (List.getElem?_eq_some_iff.mp h2).1]; exact h2⟩
    · obtain ⟨h1, h2⟩ := labs_act q _ t u h
      exact ⟨by omega, by rw [List.getElem?_append_right (by omega), show l - 1 - k - (actsOf p).length = l - 1 - (k + (actsOf p).length) by omega]; exact h2⟩
  | .whl s p, k, t, u, h => by
    rw [Pg.lab, Lp.inn] at h
    rw [Pg.acts]
    exact labs_act p k _ u h
theorem labs_act {b l : Nat} : ∀ (ps : List Pg) (k : Nat) (r u : List Lp), (.act b l :: u) ∈ allC (labs ps k) r → k < l ∧ (actsOf ps)[l - 1 - k]? = some b
  | [], k, r, u, h => by simp [labs, allC] at h
  | p :: ps, k, r, u, h => by
    rw [labs, allC, List.mem_cons, List.mem_append] at h
    rw [actsOf]
    rcases h with h | h | h
    · cases p with
      | act a =>
        rw [Pg.lab] at h
        cases h
        exact ⟨by omega, by simp [Pg.acts]⟩
      | _ => rw [Pg.lab] at h; cases h
    · obtain ⟨h1, h2⟩ := lab_act p k _ u h
      exact ⟨h1, by rw [List.getElem?_append_left (List.getElem?_eq_some_iff.mp h2).1]; exact h2⟩
    · obtain ⟨h1, h2⟩ := labs_act ps _ r u h
      exact ⟨by omega, by rw [List.getElem?_append_right (by omega), show l - 1 - k - p.acts.length = l - 1 - (k + p.acts.length) by omega]; exact h2⟩
end
def cnts (ps : List Pg) : List (Nat × List Lp) := contsB (labs ps 0) []
/-- what is left behind place l -/
def restAt (ps : List Pg) : Nat → List Lp
  | 0 => labs ps 0
  | l + 1 => ((cnts ps).getD l (0, [])).2
theorem cnts_len (ps : List Pg) : (cnts ps).length = (actsOf ps).length := by
  have := congrArg List.length (conts_labs ps 0 [])
  simpa [cnts] using this
theorem cnts_at {ps : List Pg} {i : Nat} {q : Nat × List Lp} (h : (cnts ps)[i]? = some q) : q = (i + 1, restAt ps (i + 1)) := by
  have h1 : ((cnts ps).map (·.1))[i]? = some q.1 := by rw [List.getElem?_map, h]; rfl
  unfold cnts at h1
  rw [conts_labs] at h1
  have hl : i < (actsOf ps).length := by rw [← cnts_len]; exact (List.getElem?_eq_some_iff.mp h).1
  rw [List.getElem?_map, List.getElem?_range hl] at h1
  have e : q.1 = i + 1 := by simp at h1; omega
  obtain ⟨q1, q2⟩ := q
  simp only at e
  subst e
  rw [restAt, List.getD_eq_getElem?_getD, h]
  rfl
theorem cnts_mem {ps : List Pg} {l : Nat} {u : List Lp} (h : (l, u) ∈ cnts ps) : ∃ i, l = i + 1 ∧ i < (actsOf ps).length ∧ u = restAt ps l := by
  obtain ⟨i, hi, e⟩ := List.getElem_of_mem h
  have h2 : (cnts ps)[i]? = some (l, u) := by rw [List.getElem?_eq_getElem hi, e]
  have h3 := cnts_at h2
  cases h3
  exact ⟨i, rfl, by rw [← cnts_len]; exact hi, rfl⟩
theorem dGet_put {κ : Type} [DecidableEq κ] (k q : κ) (v : T) : ∀ kvs : List (κ × T), dGet k (dPut q v kvs) = if q = k then some v else dGet k kvs := by
  have h1 : ∀ kvs : List (κ × T), (kvs.any fun kv => decide (kv.1 = q)) = true → dGet k (kvs.map (fun kv => if kv.1 = q then (kv.1, v) else kv)) = if q = k then some v else dGet k kvs := by
    intro kvs
    induction kvs with
    | nil => intro h; simp at h
    | cons kv kvs ih =>
      intro h
      obtain ⟨a, b⟩ := kv
      rw [List.map_cons]
      by_cases ha : a = q
      · subst ha
        rw [if_pos rfl]
        rw [dGet, dGet]
        by_cases hk : a = k
        · simp [hk]
        · simp only [if_neg hk]
          by_cases h2 : (kvs.any fun kv => decide (kv.1 = a)) = true
          · rw [ih h2, if_neg hk]
          · have : kvs.map (fun kv => if kv.1 = a then (kv.1, v) else kv) = kvs := by
              conv => rhs; rw [← List.map_id kvs]
              apply List.map_congr_left
              intro z hz
              have : z.1 ≠ a := fun e => h2 (List.any_eq_true.mpr ⟨z, hz, by simp [e]⟩)
              simp [this]
            rw [this]
      · rw [if_neg ha, dGet, dGet]
        have h2 : (kvs.any fun kv => decide (kv.1 = q)) = true := by simpa [ha] using h
        rw [ih h2]
        by_cases hk : a = k
        · have : q ≠ k := fun e => ha (hk.trans e.symm)
          simp [hk, this]
        · simp [hk]
  have h2 : ∀ kvs : List (κ × T), (kvs.any fun kv => decide (kv.1 = q)) = false → dGet k (kvs ++ [(q, v)]) = if q = k then some v else dGet k kvs := by
    intro kvs
    induction kvs with
    | nil => intro _; rfl
    | cons kv kvs ih =>
      intro h
      obtain ⟨a, b⟩ := kv
      rw [List.any_cons, Bool.or_eq_false_iff] at h
      have ha : a ≠ q := of_decide_eq_false h.1
      have h2 := h.2
      rw [List.cons_append, dGet, dGet, ih h2]
      by_cases hk : a = k
      · have : q ≠ k := fun e => ha (hk.trans e.symm)
        simp [hk, this]
      · simp [hk]
  intro kvs
  unfold dPut
  split
  · rename_i h; exact h1 kvs h
  · rename_i h; exact h2 kvs (Bool.eq_false_iff.mpr h)
theorem dGet_all : ∀ (L : List (Nat × List Lp)) (kvs : List (Key × T)) (l : Nat), dGet (.inl (l : Int)) (dAll kvs L) = match (L.reverse.find? fun q => decide (q.1 = l)) with
    | some q => some (tupL q.2)
    | none => dGet (.inl (l : Int)) kvs
  | [], kvs, l => by simp [dAll]
  | q :: L, kvs, l => by
    show dGet _ (dAll (dPut (.inl (q.1 : Int)) (tupL q.2) kvs) L) = _
    rw [dGet_all L, List.reverse_cons, List.find?_append, dGet_put]
    cases h : L.reverse.find? fun q => decide (q.1 = l) with
    | some z => simp
    | none =>
      by_cases hq : q.1 = l
      · simp [hq]
      · have : (Sum.inl (q.1 : Int) : Key) ≠ .inl (l : Int) := fun e => hq (by simpa [Int.natCast_inj] using e)
        simp [hq, this]
/-- the table of what is left -/
def restD (ps : List Pg) : List (Key × T) := dAll [(.inl 0, tupL (labs ps 0))] (cnts ps)
theorem rest_get {ps : List Pg} {l : Nat} (h : l ≤ (actsOf ps).length) : dGet (.inl (l : Int)) (restD ps) = some (tupL (restAt ps l)) := by
  unfold restD
  rw [dGet_all]
  cases hf : (cnts ps).reverse.find? fun q => decide (q.1 = l) with
  | some q =>
    have h1 := List.find?_some hf
    have h2 := List.mem_reverse.mp (List.mem_of_find?_eq_some hf)
    have h1 : q.1 = l := of_decide_eq_true h1
    obtain ⟨q1, q2⟩ := q
    simp only at h1
    subst h1
    obtain ⟨i, _, _, e⟩ := cnts_mem h2
    simp [e]
  | none =>
    rw [List.find?_eq_none] at hf
    cases l with
    | zero => simp [dGet, restAt]
    | succ i =>
      exfalso
      have hi : i < (cnts ps).length := by rw [cnts_len]; omega
      have h3 : (cnts ps)[i]? = some (cnts ps)[i] := List.getElem?_eq_getElem hi
      have h4 := cnts_at h3
      exact hf (cnts ps)[i] (List.mem_reverse.mpr (List.getElem_mem hi)) (by rw [h4]; simp)
/-- the places of a program -/
def plcs (ps : List Pg) : List (List Lp) := allC (labs ps 0) []
theorem plcs_ok {ps : List Pg} (h1 : hgts ps ≤ 25) (h2 : sizes ps ≤ 200) (a : Nat) : Plc a (plcs ps) := by
  obtain ⟨f1, f2⟩ := labs_facts ps 0
  refine ⟨fun c c' hc e => allC_next _ _ c c' hc e, fun c hc => ?_, fun c hc => ?_, ?_⟩
  · have := allC_size _ _ c hc
    rw [f1, f2, lsizes] at this
    have h3 : sizes ps * (hgts ps + 1) ≤ 200 * 26 := Nat.mul_le_mul h2 (by omega)
    omega
  · have := allC_hgt _ _ c hc
    rw [f1, lhgts] at this
    omega
  · unfold plcs
    rw [allC_len, f2]; omega
theorem rest_in {ps : List Pg} {l : Nat} (h : l ≤ (actsOf ps).length) : restAt ps l ∈ plcs ps ∨ restAt ps l = [] := by
  cases l with
  | zero =>
    rcases head_in (labs ps 0) [] with h | h
    · rw [List.append_nil] at h; exact .inl h
    · rw [List.append_nil] at h; exact .inr h
  | succ i =>
    have hi : i < (cnts ps).length := by rw [cnts_len]; omega
    have h3 : (cnts ps)[i]? = some (cnts ps)[i] := List.getElem?_eq_getElem hi
    have h4 := cnts_at h3
    have h5 := List.getElem_mem hi
    rw [h4] at h5
    exact contsB_in _ _ _ h5
theorem Ep.in_ {a : Nat} {C : List (List Lp)} (hC : ∀ c c', c ∈ C → eps a c = some c' → c' ∈ C ∨ c' = []) {c d : List Lp} (h : Ep a c d) (hc : c ∈ C ∨ c = []) : d ∈ C ∨ d = [] := by
  induction h with
  | refl => exact hc
  | step h _ ih =>
    refine ih ?_
    rcases hc with hc | rfl
    · exact hC _ _ hc h
    · cases h
/-- an act that is come to -/
theorem act_at {ps : List Pg} {a l b l2 : Nat} {u : List Lp} (h : l ≤ (actsOf ps).length) (e : Ep a (restAt ps l) (.act b l2 :: u)) : ∃ i, l2 = i + 1 ∧ (actsOf ps)[i]? = some b ∧ u = restAt ps l2 := by
  have h1 := e.in_ (C := plcs ps) (fun c c' hc e => allC_next _ _ c c' hc e) (rest_in h)
  have h1 := h1.resolve_right fun h => by cases h
  have h2 := labs_act ps 0 [] u h1
  have h3 : (l2, u) ∈ cnts ps := allC_act _ _ u h1
  obtain ⟨i, rfl, hi, e⟩ := cnts_mem h3
  exact ⟨i, rfl, by simpa using h2.2, e⟩
/-- the going from a place -/
theorem go_ex {ps : List Pg} (h1 : hgts ps ≤ 25) (h2 : sizes ps ≤ 200) {l : Nat} (h : l ≤ (actsOf ps).length) (a : Nat) {K : Nat} (hK : 1100000 < K) : ∃ g, goF a K (restAt ps l) [] = some g ∧ Ends a (restAt ps l) g := by
  obtain ⟨f1, f2⟩ := labs_facts ps 0
  obtain ⟨B, eB⟩ : ∃ B : Nat, B = 5200 := ⟨_, rfl⟩
  have hB : ∀ c ∈ plcs ps, lsizes c ≤ B := fun c hc => by
    have := allC_size _ _ c hc
    rw [f1, f2, lsizes] at this
    have h3 : sizes ps * (hgts ps + 1) ≤ 200 * 26 := Nat.mul_le_mul h2 (by omega)
    omega
  have hl : (plcs ps).length ≤ 200 := by
    unfold plcs
    rw [allC_len, f2]; exact h2
  refine goF_ok (C := plcs ps) (fun c c' hc e => allC_next _ _ c c' hc e) (B := B) hB K (restAt ps l) [] ⟨.refl _, rest_in h, by simp, by simp, by simp⟩ (Nat.zero_le _) ?_
  have h4 : lsizes (restAt ps l) ≤ B := by
    rcases rest_in h with h | h
    · exact hB _ h
    · rw [h, lsizes]; omega
  have h5 : ((plcs ps).length - ([] : List (Lp × List Lp)).length) * (B + 1) ≤ 200 * (B + 1) := Nat.mul_le_mul_right _ hl
  omega
/-- what goes where -/
structure GoW (ps : List Pg) (gw : Nat → Nat → Go) : Prop where
  ends : ∀ l a, l ≤ (actsOf ps).length → a < 8 → Ends a (restAt ps l) (gw l a)
section
variable {P : Pm} {Γ : List TW.Fn} {lf n : Nat} {x : Ix} {s r : Sto} (W : LibW Γ x)
theorem ix_refK {st : Sto} {m : Nat} {kvs : List (Key × T)} (h : st[m]? = some (.dk kvs)) (i : Int) : ixT P st (.ref m) (.int i) = dGet (.inl i) kvs := by
  have : ∀ o : Option O, o = some (.dk kvs) → (match o with
    | some (.dk kvs) => (T.int i).key?.bind fun k => dGet k kvs
    | some (.dt kvs) => ((T.int i).kt? P).bind fun k => dGet k kvs
    | some (.lst ts) => atI ts i
    | none => none) = dGet (.inl i) kvs := by
    rintro _ rfl
    rfl
  exact this _ h
theorem add_lref {st : Sto} {m : Nat} {xs ys : List T} (h : st[m]? = some (.lst ys)) (hl : xs.length + ys.length ≤ 16777216) : opBin st .add (.lst xs) (.ref m) = some (.own (.lst (xs ++ ys))) := by
  have e : (T.ref m).lst? st = some ys := by
    unfold T.lst?
    rw [ob_ref, h]
  show (match (T.lst xs).lst? st, (T.ref m).lst? st with
    | some a, some b => if fits (a.length + b.length) then some (Ow.own (.lst (a ++ b))) else none
    | _, _ => none) = _
  rw [e]
  show (if fits (xs.length + ys.length) = true then _ else _) = _
  rw [if_pos (fits_of hl)]
theorem small62_nat {k : Nat} (h : k ≤ 1000000) : small62 ((k : Int) + 1) = true := by
  unfold small62
  rw [Bool.and_eq_true, decide_eq_true_eq, decide_eq_true_eq]
  generalize hi : (k : Int) = i
  have h0 : 0 ≤ i := by omega
  have h1 : i ≤ 1000000 := by omega
  clear hi h
  omega
theorem len_lref {st : Sto} {m : Nat} {ys : List T} (h : st[m]? = some (.lst ys)) : bltT st .len (.ref m) = some (.val (.int ys.length)) := by
  have e : (T.ref m).lst? st = some ys := by
    unfold T.lst?
    rw [ob_ref, h]
  show (((T.ref m).lst? st).map (·.length)).map (fun (n : Nat) => Ow.val (T.int (n : Int))) = _
  rw [e]
  rfl
theorem set_last (s : Sto) (o o' : O) : (s ++ [o]).set s.length o' = s ++ [o'] := by
  rw [List.set_append_right _ _ (Nat.le_refl _)]
  simp
theorem get_last (s : Sto) (o : O) : (s ++ [o])[s.length]? = some o := by simp
def goL (ps : List Pg) (gw : Nat → Nat → Go) : T := .lst ((List.range ((actsOf ps).length + 1)).map fun l => .lst ((List.range 8).map fun a => (gw l a).t))
def actL (ps : List Pg) : T := .lst (.int (-1) :: (actsOf ps).map nT)
include W
theorem walks_e1 {ps : List Pg} (h1 : hgts ps ≤ 25) (h2 : sizes ps ≤ 200) (h3 : oks ps = true) (s : Sto) : run P Γ lf (n + 29) x.f_law_labelled [tupP ps, .ref s.length] (s ++ [.lst []]) = .ok (.val (tupL (labs ps 0))) (s ++ [.lst ((actsOf ps).map nT)]) := by
  have al := acts_le ps
  have := lab_ev (P := P) (lf := lf) W 25 (n + 3) ps h1 (by omega) h3 s.length [] (s ++ [.lst []]) (by rw [List.length_nil]; omega) (by simp)
  rw [set_last, set_last, show n + 3 + 1 + 25 = n + 29 by omega] at this
  exact this
theorem walks_e2 {ps : List Pg} (h1 : hgts ps ≤ 25) (h2 : sizes ps ≤ 200) (s : Sto) : run P Γ lf (n + 29) x.f_law_rests [tupL (labs ps 0), .tup [], .ref (s.length + 1)] (s ++ [.lst ((actsOf ps).map nT), .dk [(.inl 0, tupL (labs ps 0))]]) = .ok (.val (.ref (s.length + 1))) (s ++ [.lst ((actsOf ps).map nT), .dk (restD ps)]) := by
  have al := acts_le ps
  obtain ⟨f1, f2⟩ := labs_facts ps 0
  have cl : (contsB (labs ps 0) []).length = (actsOf ps).length := cnts_len ps
  have := rests_ev (P := P) (lf := lf) W 25 (n + 3) (labs ps 0) [] (by omega) (by omega) (by omega) (by rw [List.length_nil]; omega) (s.length + 1) [(.inl 0, tupL (labs ps 0))] (s ++ [.lst ((actsOf ps).map nT), .dk []]) (by rw [cl]; simp; omega) (by simp)
  have q : ∀ d d' : O, (s ++ [O.lst ((actsOf ps).map nT), d]).set (s.length + 1) d' = s ++ [.lst ((actsOf ps).map nT), d'] := fun d d' => by
    rw [List.set_append_right _ _ (by omega)]
    simp
  rw [q, q, show tupL [] = .tup [] by unfold tupL; rw [lpT], show n + 3 + 1 + 25 = n + 29 by omega] at this
  unfold restD cnts
  exact this
theorem walks_row {ps : List Pg} (h1 : hgts ps ≤ 25) (h2 : sizes ps ≤ 200) (hlf : 1100000 < lf) {gw : Nat → Nat → Go} (sp : ∀ l a, l ≤ (actsOf ps).length → goF a lf (restAt ps l) [] = some (gw l a) ∧ Ends a (restAt ps l) (gw l a)) {a l : Nat} (ha : a < 8) (hl : l ≤ (actsOf ps).length) (s : Sto) :
    run P Γ lf (n + 29) x.f_law_going [tupL (restAt ps l), .int a] s = .ok (.val (gw l a).t) s := by
  have := going_ev (P := P) (lf := lf) (n := n + 27) (s := s) W ha (plcs_ok h1 h2 a) (rest_in hl) (sp l a hl).1 (Nat.le_refl _)
  rw [show n + 27 + 2 = n + 29 by omega] at this
  exact this
theorem walks_ev (hlf : 1100000 < lf) {ps : List Pg} (h1 : hgts ps ≤ 25) (h2 : sizes ps ≤ 200) (h3 : oks ps = true) : ∃ gw, GoW ps gw ∧ ∀ s, run P Γ lf (n + 30) x.f_law_walks [tupP ps] s = .ok (.val (.tup [goL ps gw, actL ps])) (s ++ [.lst ((actsOf ps).map nT), .dk (restD ps)]) := by
  have ex : ∀ l a, ∃ g, l ≤ (actsOf ps).length → goF a lf (restAt ps l) [] = some g ∧ Ends a (restAt ps l) g := fun l a => by
    by_cases h : l ≤ (actsOf ps).length
    · obtain ⟨g, h⟩ := go_ex h1 h2 h a hlf
      exact ⟨g, fun _ => h⟩
    · exact ⟨.stops, fun q => absurd q h⟩
  obtain ⟨gw, sp⟩ : ∃ gw : Nat → Nat → Go, ∀ l a, l ≤ (actsOf ps).length → goF a lf (restAt ps l) [] = some (gw l a) ∧ Ends a (restAt ps l) (gw l a) := ⟨fun l a => Classical.choose (ex l a), fun l a => Classical.choose_spec (ex l a)⟩
  refine ⟨gw, ⟨fun l a hl _ => (sp l a hl).2⟩, fun s => ?_⟩
  rw [run_at W.walks rfl]
  have al := acts_le ps
  have e1 := walks_e1 (P := P) (lf := lf) (n := n) W h1 h2 h3 s
  have e2 := walks_e2 (P := P) (lf := lf) (n := n) W h1 h2 s
  have g1 : (s ++ [O.lst ((actsOf ps).map nT), .dk (restD ps)])[s.length]? = some (.lst ((actsOf ps).map nT)) := by simp
  have g2 : (s ++ [O.lst ((actsOf ps).map nT), .dk (restD ps)])[s.length + 1]? = some (.dk (restD ps)) := by simp
  have sm := small62_nat (k := (actsOf ps).length) (by omega)
  have rg : rngT 0 (((actsOf ps).length : Int) + 1) = (List.range ((actsOf ps).length + 1)).map nT := rngT_nat ((actsOf ps).length + 1)
  have ad := add_lref g1 (xs := [.int (-1)]) (by simp; omega)
  have bl := len_lref g1
  have dk : ∀ v : T, dkAll [.int 0, v] [] = some [(.inl 0, v)] := fun v => rfl
  simp (implicitDefEqProofs := false) [cc_law_walks, startE_def, opd, fits, e1, dk, e2, bl, sm, rg]
  rw [lcGo_map (h := fun l => .lst ((List.range 8).map fun a => (gw l a).t)) (fun l hl => by
    have hl : l ≤ (actsOf ps).length := by have := List.mem_range.mp hl; omega
    have eg := (ix_refK (P := P) g2 (l : Int)).trans (rest_get hl)
    simp [rng8, small62, nT, opd]
    rw [lcGo_map (h := fun a => (gw l a).t) (fun a ha => by
      have ge := walks_row (P := P) (n := n) W h1 h2 hlf sp (List.mem_range.mp ha) hl (s ++ [O.lst ((actsOf ps).map nT), .dk (restD ps)])
      simp [nT, eg, ge]) (by simp)]
    simp) (by simp; omega)]
  simp [ad, goL, actL]
end
end Tw

set_option Elab.async false
set_option linter.all false
set_option maxRecDepth 100000
set_option maxHeartbeats 4000000
/-! TwL: the law's work list. -/
namespace Tw
open PySem L2 TW
abbrev Nd := Nat × Nat
def ndT (q : Nd) : T := .tup [nT q.1, nT q.2]
def ndK (q : Nd) : List Key := [.inl (q.1 : Int), .inl (q.2 : Int)]
def seenO (seen : List Nd) : O := .dt (seen.map fun q => (ndK q, .bl true))
theorem ndK_inj {p q : Nd} : ndK p = ndK q ↔ p = q := by
  obtain ⟨a, b⟩ := p
  obtain ⟨c, d⟩ := q
  simp [ndK, Int.natCast_inj]
/-- what is led to -/
def nxt (hs : List Hy) (acts : List Nat) (l a : Nat) : List Nd := ((List.range 8).filter fun b => lead hs (acts.getD (l - 1) 0) a b).map fun b => (l, b)
def wlStep (gw : Nat → Nat → Go) (acts : List Nat) (hs : List Hy) (q : Nd) (seen line : List Nd) (found : List Nat) : List Nd × List Nd × List Nat :=
  if q ∈ seen then (seen, line, found)
  else match gw q.1 q.2 with
    | .ends => (seen ++ [q], line, found ++ [q.2])
    | .stops => (seen ++ [q], line, found)
    | .lab l => (seen ++ [q], line ++ nxt hs acts l q.2, found)
/-- an edge -/
def Ed (gw : Nat → Nat → Go) (acts : List Nat) (hs : List Hy) (p q : Nd) : Prop := ∃ l, gw p.1 p.2 = .lab l ∧ q ∈ nxt hs acts l p.2
inductive Rc (gw : Nat → Nat → Go) (acts : List Nat) (hs : List Hy) (p : Nd) : Nd → Prop where
  | refl : Rc gw acts hs p p
  | snoc {q r : Nd} (h : Rc gw acts hs p q) (e : Ed gw acts hs q r) : Rc gw acts hs p r
structure Wl (gw : Nat → Nat → Go) (acts : List Nat) (hs : List Hy) (st : Nd) (seen line : List Nd) (found : List Nat) : Prop where
  rc : ∀ q, q ∈ seen ∨ q ∈ line → Rc gw acts hs st q
  bnd : ∀ q, q ∈ seen ∨ q ∈ line → q.1 ≤ acts.length ∧ q.2 < 8
  clos : ∀ q ∈ seen, ∀ r, Ed gw acts hs q r → r ∈ seen ∨ r ∈ line
  st : st ∈ seen ∨ st ∈ line
  fnd : ∀ y, y ∈ found ↔ ∃ l, (l, y) ∈ seen ∧ gw l y = .ends
  nd : seen.Nodup
  flen : found.length ≤ seen.length
def allN (k : Nat) : List Nd := (List.range (k + 1)).flatMap fun l => (List.range 8).map fun a => (l, a)
theorem allN_mem {k : Nat} {q : Nd} (h : q.1 ≤ k ∧ q.2 < 8) : q ∈ allN k := by
  obtain ⟨a, b⟩ := q
  unfold allN
  rw [List.mem_flatMap]
  exact ⟨a, List.mem_range.mpr (by simp at h; omega), List.mem_map.mpr ⟨b, List.mem_range.mpr h.2, rfl⟩⟩
theorem allN_len (k : Nat) : (allN k).length = 8 * (k + 1) := by
  unfold allN
  rw [List.length_flatMap]
  have : ∀ l : List Nat, (l.map fun a => ((List.range 8).map fun b => (a, b)).length).sum = 8 * l.length := by
    intro l
    induction l with
    | nil => rfl
    | cons a l ih => rw [List.map_cons, List.sum_cons, ih]; simp; omega
  rw [this]
  simp
theorem Wl.seen_len {gw : Nat → Nat → Go} {acts : List Nat} {hs : List Hy} {st : Nd} {seen line : List Nd} {found : List Nat} (w : Wl gw acts hs st seen line found) : seen.length ≤ 8 * (acts.length + 1) := by
  rw [← allN_len]
  exact nodup_len _ _ w.nd fun q hq => allN_mem (w.bnd q (.inl hq))
theorem nxt_len (hs : List Hy) (acts : List Nat) (l a : Nat) : (nxt hs acts l a).length ≤ 8 := by
  unfold nxt
  rw [List.length_map]
  exact Nat.le_trans (List.length_filter_le _ _) (by simp)
theorem wl_turn {gw : Nat → Nat → Go} {acts : List Nat} {hs : List Hy} (hg : ∀ l a k, l ≤ acts.length → a < 8 → gw l a = .lab k → 1 ≤ k ∧ k ≤ acts.length) {st q : Nd} {seen line : List Nd} {found : List Nat} (w : Wl gw acts hs st seen (line ++ [q]) found) :
    Wl gw acts hs st (wlStep gw acts hs q seen line found).1 (wlStep gw acts hs q seen line found).2.1 (wlStep gw acts hs q seen line found).2.2 ∧
      ((wlStep gw acts hs q seen line found).1.length = seen.length ∧ (wlStep gw acts hs q seen line found).2.1.length = line.length ∨
        (wlStep gw acts hs q seen line found).1.length = seen.length + 1 ∧ (wlStep gw acts hs q seen line found).2.1.length ≤ line.length + 8) := by
  have mem : ∀ r, r ∈ line ++ [q] ↔ r ∈ line ∨ r = q := fun r => by simp
  have hq := w.rc q (.inr (by simp))
  have hb := w.bnd q (.inr (by simp))
  unfold wlStep
  by_cases hs' : q ∈ seen
  · rw [if_pos hs']
    refine ⟨⟨fun r hr => w.rc r (hr.imp id fun h => (mem r).mpr (.inl h)), fun r hr => w.bnd r (hr.imp id fun h => (mem r).mpr (.inl h)), fun p hp r e => ?_, ?_, w.fnd, w.nd, w.flen⟩, .inl ⟨rfl, rfl⟩⟩
    · rcases w.clos p hp r e with h | h
      · exact .inl h
      · rcases (mem r).mp h with h | rfl
        · exact .inr h
        · exact .inl hs'
    · rcases w.st with h | h
      · exact .inl h
      · rcases (mem st).mp h with h | rfl
        · exact .inr h
        · exact .inl hs'
  · rw [if_neg hs']
    have nd : (seen ++ [q]).Nodup := by
      rw [List.nodup_append]
      exact ⟨w.nd, by simp, fun a ha b hb => by simp at hb; subst hb; exact fun e => hs' (e ▸ ha)⟩
    have core : ∀ (new : List Nd) (f : List Nat), (∀ r, Ed gw acts hs q r ↔ r ∈ new) → (∀ y, y ∈ f ↔ ∃ l, (l, y) ∈ seen ++ [q] ∧ gw l y = .ends) → f.length ≤ seen.length + 1 → Wl gw acts hs st (seen ++ [q]) (line ++ new) f := by
      intro new f h1 h2 h3
      refine ⟨fun r hr => ?_, fun r hr => ?_, fun p hp r e => ?_, ?_, h2, nd, by simpa using h3⟩
      · rcases hr with hr | hr
        · rcases List.mem_append.mp hr with hr | hr
          · exact w.rc r (.inl hr)
          · simp at hr; subst hr; exact hq
        · rcases List.mem_append.mp hr with hr | hr
          · exact w.rc r (.inr ((mem r).mpr (.inl hr)))
          · exact .snoc hq ((h1 r).mpr hr)
      · rcases hr with hr | hr
        · rcases List.mem_append.mp hr with hr | hr
          · exact w.bnd r (.inl hr)
          · simp at hr; subst hr; exact hb
        · rcases List.mem_append.mp hr with hr | hr
          · exact w.bnd r (.inr ((mem r).mpr (.inl hr)))
          · obtain ⟨l, e1, e2⟩ := (h1 r).mpr hr
            unfold nxt at e2
            obtain ⟨b, hb2, rfl⟩ := List.mem_map.mp e2
            have := List.mem_range.mp (List.mem_filter.mp hb2).1
            exact ⟨(hg _ _ _ hb.1 hb.2 e1).2, this⟩
      · rcases List.mem_append.mp hp with hp | hp
        · rcases w.clos p hp r e with h | h
          · exact .inl (by simp [h])
          · rcases (mem r).mp h with h | rfl
            · exact .inr (by simp [h])
            · exact .inl (by simp)
        · simp at hp
          subst hp
          exact .inr (by simp [(h1 r).mp e])
      · rcases w.st with h | h
        · exact .inl (by simp [h])
        · rcases (mem st).mp h with h | rfl
          · exact .inr (by simp [h])
          · exact .inl (by simp)
    have fnd2 : ∀ y, (∃ l, (l, y) ∈ seen ++ [q] ∧ gw l y = .ends) ↔ y ∈ found ∨ (y = q.2 ∧ gw q.1 q.2 = .ends) := by
      intro y
      rw [w.fnd y]
      constructor
      · rintro ⟨l, h1, h2⟩
        rcases List.mem_append.mp h1 with h1 | h1
        · exact .inl ⟨l, h1, h2⟩
        · simp at h1; subst h1; exact .inr ⟨rfl, h2⟩
      · rintro (⟨l, h1, h2⟩ | ⟨rfl, h2⟩)
        · exact ⟨l, by simp [h1], h2⟩
        · exact ⟨q.1, by simp, h2⟩
    have fl := w.flen
    cases he : gw q.1 q.2 with
    | ends =>
      refine ⟨?_, .inr ⟨by simp, by simp⟩⟩
      have := core [] (found ++ [q.2]) (fun r => by simp [Ed, he]) (fun y => by rw [fnd2 y]; simp [he]) (by simp; omega)
      simpa using this
    | stops =>
      refine ⟨?_, .inr ⟨by simp, by simp⟩⟩
      have := core [] found (fun r => by simp [Ed, he]) (fun y => by rw [fnd2 y]; simp [he]) (by omega)
      simpa using this
    | lab l =>
      have := core (nxt hs acts l q.2) found (fun r => by simp [Ed, he]) (fun y => by rw [fnd2 y]; simp [he]) (by omega)
      refine ⟨this, .inr ⟨by simp, ?_⟩⟩
      have := nxt_len hs acts l q.2
      simp; omega
/-- at the end -/
theorem Wl.done {gw : Nat → Nat → Go} {acts : List Nat} {hs : List Hy} {st : Nd} {seen : List Nd} {found : List Nat} (w : Wl gw acts hs st seen [] found) (y : Nat) : y ∈ found ↔ ∃ l, Rc gw acts hs st (l, y) ∧ gw l y = .ends := by
  rw [w.fnd y]
  have all : ∀ q, Rc gw acts hs st q → q ∈ seen := by
    intro q h
    induction h with
    | refl => exact w.st.resolve_right (by simp)
    | snoc _ e ih => exact (w.clos _ ih _ e).resolve_right (by simp)
  constructor
  · rintro ⟨l, h1, h2⟩
    exact ⟨l, w.rc _ (.inl h1), h2⟩
  · rintro ⟨l, h1, h2⟩
    exact ⟨l, all _ h1, h2⟩
/-! ### what is found are the ends -/
theorem go_lab {ps : List Pg} {gw : Nat → Nat → Go} (G : GoW ps gw) {l a k : Nat} (hl : l ≤ (actsOf ps).length) (ha : a < 8) (h : gw l a = .lab k) : ∃ b, (actsOf ps)[k - 1]? = some b ∧ 1 ≤ k ∧ k ≤ (actsOf ps).length ∧ Ep a (restAt ps l) (.act b k :: restAt ps k) := by
  have e := G.ends l a hl ha
  rw [h] at e
  obtain ⟨b, u, e⟩ := e
  obtain ⟨i, rfl, h2, rfl⟩ := act_at hl e
  have := (List.getElem?_eq_some_iff.mp h2).1
  exact ⟨b, by simpa using h2, by omega, by omega, e⟩
theorem ac_rc {hs : List Hy} {ps : List Pg} {gw : Nat → Nat → Go} (G : GoW ps gw) {st : Nd} {c : List Lp} {x y : Nat} (h : Ac hs c x y) : ∀ l, l ≤ (actsOf ps).length → x < 8 → c = restAt ps l → Rc gw (actsOf ps) hs st (l, x) → ∃ l2, Rc gw (actsOf ps) hs st (l2, y) ∧ gw l2 y = .ends := by
  induction h with
  | @fin c x e =>
    intro l hl hx hc hr
    subst hc
    refine ⟨l, hr, ?_⟩
    have t := G.ends l x hl hx
    cases hg : gw l x with
    | ends => rfl
    | stops => rw [hg] at t; exact (t [] e (.inl rfl)).elim
    | lab k =>
      obtain ⟨b, _, _, _, e2⟩ := go_lab G hl hx hg
      have := e.det rfl e2 rfl
      cases this
  | @act c u b k x z y e h hz r ih =>
    intro l hl hx hc hr
    subst hc
    obtain ⟨i, rfl, h2, rfl⟩ := act_at hl e
    have t := G.ends l x hl hx
    have hg : gw l x = .lab (i + 1) := by
      cases hg : gw l x with
      | ends =>
        rw [hg] at t
        have t : Ep x (restAt ps l) [] := t
        have := t.det rfl e rfl
        cases this
      | stops => rw [hg] at t; exact (t _ e (.inr ⟨_, _, _, rfl⟩)).elim
      | lab k =>
        obtain ⟨b2, _, _, _, e2⟩ := go_lab G hl hx hg
        have := e2.det rfl e rfl
        cases this; rfl
    have hi := (List.getElem?_eq_some_iff.mp h2).1
    refine ih (i + 1) (by omega) hz rfl (.snoc hr ⟨i + 1, hg, ?_⟩)
    unfold nxt
    refine List.mem_map.mpr ⟨z, List.mem_filter.mpr ⟨List.mem_range.mpr hz, ?_⟩, rfl⟩
    rw [List.getD_eq_getElem?_getD, show i + 1 - 1 = i by omega, h2]
    exact h
theorem rc_rn {hs : List Hy} {ps : List Pg} {gw : Nat → Nat → Go} (G : GoW ps gw) {st q : Nd} (hst : st.1 ≤ (actsOf ps).length ∧ st.2 < 8) (h : Rc gw (actsOf ps) hs st q) : (q.1 ≤ (actsOf ps).length ∧ q.2 < 8) ∧ ∀ y, Rn hs (restAt ps q.1) q.2 y → Rn hs (restAt ps st.1) st.2 y := by
  induction h with
  | refl => exact ⟨hst, fun y h => h⟩
  | @snoc q r _ e ih =>
    obtain ⟨h1, h2⟩ := ih
    obtain ⟨k, e1, e2⟩ := e
    obtain ⟨b, g1, g2, g3, g4⟩ := go_lab G h1.1 h1.2 e1
    unfold nxt at e2
    obtain ⟨z, hz, rfl⟩ := List.mem_map.mp e2
    obtain ⟨hz1, hz2⟩ := List.mem_filter.mp hz
    rw [List.getD_eq_getElem?_getD, g1] at hz2
    have hz1 := List.mem_range.mp hz1
    exact ⟨⟨g3, hz1⟩, fun y r => h2 y (g4.rn (.act hz2 hz1 r))⟩
/-- found are the bits of the table -/
theorem found_iff {hs : List Hy} {ps : List Pg} {gw : Nat → Nat → Go} (G : GoW ps gw) {x : Nat} (hx : x < 8) {seen : List Nd} {found : List Nat} (w : Wl gw (actsOf ps) hs (0, x) seen [] found) (y : Nat) : y ∈ found ↔ bitAt (tabB hs ps same) x y = true := by
  rw [w.done y, ← Rn.bit hx]
  constructor
  · rintro ⟨l, h1, h2⟩
    obtain ⟨⟨h3, h4⟩, h5⟩ := rc_rn G (st := (0, x)) ⟨Nat.zero_le _, hx⟩ h1
    have e := G.ends l y h3 h4
    rw [h2] at e
    exact h5 y (e.rn (.fin y))
  · intro h
    exact ac_rc G h.ac 0 (Nat.zero_le _) hx rfl .refl
end Tw

set_option Elab.async false
set_option linter.all false
set_option maxRecDepth 100000
set_option maxHeartbeats 4000000
/-! TwM: the law's ends are evaluated. -/
namespace Tw
open PySem L2 TW
/-! ### sums of bits -/
def sumP : List Nat → Nat
  | [] => 0
  | a :: l => 2 ^ a + sumP l
theorem sumP_app (l : List Nat) (a : Nat) : sumP (l ++ [a]) = sumP l + 2 ^ a := by
  induction l with
  | nil => simp [sumP]
  | cons b l ih => simp [sumP, ih]; omega
theorem sumP_rev (l : List Nat) : sumP l.reverse = sumP l := by
  induction l with
  | nil => rfl
  | cons b l ih => rw [List.reverse_cons, sumP_app, ih, sumP]; omega
theorem sumP_desc : ∀ l : List Nat, l.Pairwise (fun a b => b < a) → (∀ y, (sumP l).testBit y = decide (y ∈ l)) ∧ ∀ h, (∀ a ∈ l, a < h) → sumP l < 2 ^ h
  | [], _ => ⟨fun y => by simp [sumP], fun h _ => by simp [sumP]; exact Nat.two_pow_pos h⟩
  | a :: l, hp => by
    rw [List.pairwise_cons] at hp
    obtain ⟨h1, h2⟩ := sumP_desc l hp.2
    have lt := h2 a fun b hb => hp.1 b hb
    have up : sumP (a :: l) < 2 ^ (a + 1) := by rw [sumP, Nat.pow_succ]; omega
    refine ⟨fun y => ?_, fun h hh => ?_⟩
    · rw [sumP]
      rcases Nat.lt_trichotomy y a with q | q | q
      · rw [Nat.testBit_two_pow_add_gt q, h1 y]
        have : y ≠ a := by omega
        simp [this]
      · subst q
        rw [Nat.testBit_two_pow_add_eq, Nat.testBit_lt_two_pow lt]
        simp
      · have : (2 ^ a + sumP l).testBit y = false := Nat.testBit_lt_two_pow (Nat.lt_of_lt_of_le up (Nat.pow_le_pow_right (by decide) q))
        rw [this]
        have n1 : y ≠ a := by omega
        have n2 : y ∉ l := fun hy => by have := hp.1 y hy; omega
        simp [n1, n2]
    · have := hh a List.mem_cons_self
      exact Nat.lt_of_lt_of_le up (Nat.pow_le_pow_right (by decide) this)
theorem sumP_bit {l : List Nat} (h : l.Pairwise (· < ·)) (y : Nat) : (sumP l).testBit y = decide (y ∈ l) := by
  have := (sumP_desc l.reverse (List.pairwise_reverse.mpr h)).1 y
  rw [sumP_rev] at this
  simpa using this
theorem ints_nat (l : List Nat) : ints? (l.map nT) = some (l.map fun i : Nat => (i : Int)) := by
  have := ints_of (l.map fun i : Nat => (i : Int))
  rw [List.map_map] at this
  exact this
/-- the set, in order, as naturals -/
theorem setI_nat (l : List Nat) : ∃ m : List Nat, setI (l.map fun i : Nat => (i : Int)) = m.map (fun i : Nat => (i : Int)) ∧ m.Pairwise (· < ·) ∧ ∀ y, y ∈ m ↔ y ∈ l := by
  have pos : ∀ i ∈ setI (l.map fun i : Nat => (i : Int)), 0 ≤ i := fun i hi => by
    rw [setI_mem] at hi
    obtain ⟨k, _, rfl⟩ := List.mem_map.mp hi
    omega
  have e : ((setI (l.map fun i : Nat => (i : Int))).map Int.toNat).map (fun i : Nat => (i : Int)) = setI (l.map fun i : Nat => (i : Int)) := by
    rw [List.map_map]
    conv => rhs; rw [← List.map_id (setI (l.map fun i : Nat => (i : Int)))]
    apply List.map_congr_left
    intro i hi
    have := pos i hi
    simp; omega
  refine ⟨(setI (l.map fun i : Nat => (i : Int))).map Int.toNat, e.symm, ?_, fun y => ?_⟩
  · have := setI_sorted (l.map fun i : Nat => (i : Int))
    rw [← e, List.pairwise_map] at this
    exact this.imp fun {a b} h => by omega
  · have : (y : Int) ∈ setI (l.map fun i : Nat => (i : Int)) ↔ y ∈ l := by
      rw [setI_mem]
      simp [Int.natCast_inj]
    rw [← this]
    constructor
    · intro h
      obtain ⟨i, hi, rfl⟩ := List.mem_map.mp h
      rw [Int.toNat_of_nonneg (pos i hi)]; exact hi
    · intro h
      exact List.mem_map.mpr ⟨_, h, by simp⟩
section
variable {P : Pm} {Γ : List TW.Fn} {lf n : Nat} {x : Ix} {s r : Sto} (W : LibW Γ x)
include W
theorem set_of_ev {found : List Nat} (hl : found.length < 4000) (h8 : ∀ y ∈ found, y < 8) : ∃ v : Nat, run P Γ lf (n + 1) x.f_law_set_of [.lst (found.map nT)] s = .ok (.val (nT v)) s ∧ ∀ y, v.testBit y = decide (y ∈ found) := by
  obtain ⟨m, e, hp, hm⟩ := setI_nat found
  refine ⟨sumP m, ?_, fun y => by rw [sumP_bit hp y]; simp [hm y]⟩
  rw [run_at W.set_of rfl]
  have ml : m.length ≤ 8 := by
    have := nodup_len m (List.range 8) (hp.imp fun {a b} h => Nat.ne_of_lt h) fun y hy => List.mem_range.mpr (h8 y ((hm y).mp hy))
    simpa using this
  have b1 : bltT s .sorSet (.lst (found.map nT)) = some (.own (.lst (m.map nT))) := by
    show ((some (found.map nT)).bind ints?).bind (fun ns => if decide (ns.length < 4000) && decide ((setI ns).length < 64) then some (Ow.own (.lst ((setI ns).map .int))) else none) = _
    rw [Option.bind_some, ints_nat, Option.bind_some, e, if_pos (by simp; omega), List.map_map]
    rfl
  simp [cc_law_set_of, startE_def, opd, b1, fits]
  rw [lcGo_map (h := fun a => nT (2 ^ a)) (fun a ha => by
    have := pow8 (h8 a ((hm a).mp ha))
    simp [nT] at this ⊢
    simp [this]) (by simp; omega)]
  simp
  have e2 : (m.map fun a => nT (2 ^ a)) = (m.map fun a => 2 ^ a).map nT := by simp [List.map_map, Function.comp_def]
  have e3 : bltT s .sum (.lst (m.map fun a => nT (2 ^ a))) = some (.val (.int ((m.map fun a => 2 ^ a).map fun i : Nat => (i : Int)).sum)) := by
    show (((some (m.map fun a => nT (2 ^ a))).bind ints?).map fun ns => Ow.val (.int ns.sum)) = _
    rw [e2, Option.bind_some, ints_nat]
    rfl
  rw [e3]
  have : ∀ m : List Nat, ((m.map fun a => 2 ^ a).map fun i : Nat => (i : Int)).sum = ((sumP m : Nat) : Int) := by
    intro m
    induction m with
    | nil => rfl
    | cons a m ih => simp only [List.map_cons, List.sum_cons, ih, sumP]; simp
  rw [this]
  rfl
/-! ### the work list -/
def wlBody (x : Ix) : List TW.S := match (cc_law_ends x).body with
  | [_, _, .whl _ b, _] => b
  | _ => []
omit W in
theorem ends_eq (x : Ix) : cc_law_ends x = ⟨3, 12, [.unp [0] [3, 4] (.call x.f_law_walks [.var 0]), .par [2] [5, 6, 7] [.dct true [], .lst [.tup [.con (.int 0), .var 2]], .lst []], .whl (.cmp .ne (.pk 6) (.lst [])) (wlBody x), .ret [7] (.call x.f_law_set_of [.var 7])]⟩ := rfl
def wlE (ps : List Pg) (hs : List Hy) (st : Nat) (gw : Nat → Nat → Go) (seen line : List Nd) (found : List Nat) (j8 j9 j10 : Slot) : TW.Env :=
  [.val (tupP ps), .val (hT hs), .val (nT st), .val (goL ps gw), .val (actL ps), .own (seenO seen), .own (.lst (line.map ndT)), .own (.lst (found.map nT)), j8, j9, j10, .no]
omit W in
theorem eqO_int_str (st : Sto) (i : Int) {w : Str} (h : (PyData.str w).canLay0 = true) : eqO st (.int i) (.str w) = some false := by
  rw [eqO_of (okT_int _ _) (str_ok h _) rfl rfl]
  rfl
omit W in
theorem kt_nd (hP : ∀ a b : Int, P.kOk [.inl a, .inl b] = true) (q : Nd) : T.kt? P (ndT q) = some (ndK q) := by
  show ((keys? [nT q.1, nT q.2]).bind fun ks => if P.kOk ks = true then some ks else none) = _
  rw [show keys? [nT q.1, nT q.2] = some (ndK q) from rfl, Option.bind_some]
  exact if_pos (hP _ _)
omit W in
theorem in_seen (hP : ∀ a b : Int, P.kOk [.inl a, .inl b] = true) (q : Nd) (seen : List Nd) : inT P s (ndT q) (.dt (seen.map fun q => (ndK q, .bl true))) = some (decide (q ∈ seen)) := by
  show (T.kt? P (ndT q)).map _ = _
  rw [kt_nd hP, Option.map_some, List.any_map]
  congr 1
  rw [Bool.eq_iff_iff, List.any_eq_true, decide_eq_true_eq]
  constructor
  · rintro ⟨z, h1, h2⟩
    have h2 : decide (ndK z = ndK q) = true := h2
    rw [decide_eq_true_eq, ndK_inj] at h2
    exact h2 ▸ h1
  · intro h
    exact ⟨q, h, by show decide (ndK q = ndK q) = true; simp⟩
omit W in
theorem put_seen (q : Nd) {seen : List Nd} (h : q ∉ seen) : dPut (ndK q) (.bl true) (seen.map fun q => (ndK q, T.bl true)) = (seen ++ [q]).map fun q => (ndK q, .bl true) := by
  unfold dPut
  rw [if_neg]
  · simp
  · rw [List.any_map, Bool.not_eq_true, List.any_eq_false]
    intro z hz
    show ¬ decide (ndK z = ndK q) = true
    rw [decide_eq_true_eq, ndK_inj]
    exact fun e => h (e ▸ hz)
theorem wl_ev (hP : ∀ a b : Int, P.kOk [.inl a, .inl b] = true) {ps : List Pg} {hs : List Hy} (ho : ∀ h ∈ hs, h.okB = true) {gw : Nat → Nat → Go} (hg : ∀ l a k, l ≤ (actsOf ps).length → a < 8 → gw l a = .lab k → 1 ≤ k ∧ k ≤ (actsOf ps).length) (st : Nat) (q : Nd) (hq : q.1 ≤ (actsOf ps).length ∧ q.2 < 8)
    (seen line : List Nd) (found : List Nat) (j8 j9 j10 : Slot) (h1 : seen.length ≤ 100000) (h2 : line.length ≤ 100000) (h3 : found.length ≤ 100000) :
    ∃ j8' j9' j10', evSs P (run P Γ lf (n + 3)) lf (wlBody x) (wlE ps hs st gw seen (line ++ [q]) found j8 j9 j10) s = .nx (wlE ps hs st gw (wlStep gw (actsOf ps) hs q seen line found).1 (wlStep gw (actsOf ps) hs q seen line found).2.1 (wlStep gw (actsOf ps) hs q seen line found).2.2 j8' j9' j10') s ∨
      evSs P (run P Γ lf (n + 3)) lf (wlBody x) (wlE ps hs st gw seen (line ++ [q]) found j8 j9 j10) s = .ct (wlE ps hs st gw (wlStep gw (actsOf ps) hs q seen line found).1 (wlStep gw (actsOf ps) hs q seen line found).2.1 (wlStep gw (actsOf ps) hs q seen line found).2.2 j8' j9' j10') s := by
  have i1 := in_seen (P := P) (s := s) hP q seen
  have k1 := kt_nd (P := P) hP q
  have lt : ∀ (env : TW.Env), env[6]? = some (.own (.lst ((line ++ [q]).map ndT))) → lastT env s 6 = some (ndT q) := fun env he => by
    unfold lastT objAt
    rw [he]
    simp
  have l1 : seen.length < 16777216 := by omega
  have l3 : found.length < 16777216 := by omega
  by_cases hm : q ∈ seen
  · refine ⟨.val (ndT q), j9, j10, .inr ?_⟩
    unfold wlStep
    rw [if_pos hm]
    simp [hm] at i1
    simp [wlBody, cc_law_ends, wlE, lastT, objAt, chg, popO, seenO, i1]
  · simp [hm] at i1
    have ps1 := put_seen q hm
    have g1 : atI ((List.range ((actsOf ps).length + 1)).map fun l => T.lst ((List.range 8).map fun a => (gw l a).t)) (q.1 : Int) = some (.lst ((List.range 8).map fun a => (gw q.1 a).t)) := atI_at (by rw [List.getElem?_map, List.getElem?_range (by omega)]; rfl)
    have g2 : atI ((List.range 8).map fun a => (gw q.1 a).t) (q.2 : Int) = some (gw q.1 q.2).t := atI_at (by rw [List.getElem?_map, List.getElem?_range hq.2]; rfl)
    have e1 : ndT q = .tup [.int (q.1 : Int), .int (q.2 : Int)] := rfl
    unfold wlStep
    rw [if_neg hm]
    cases he : gw q.1 q.2 with
    | ends =>
      have g3 : atI ((List.range 8).map fun a => (gw q.1 a).t) (q.2 : Int) = some (.str "ends") := by rw [g2, he]; rfl
      refine ⟨.val (ndT q), .val (.str "ends"), j10, .inl ?_⟩
      simp [wlBody, cc_law_ends, wlE, lastT, objAt, chg, popO, seenO, i1, isOb, setiO, k1, l1, opd, fits, goL]
      rw [ps1]
      simp [e1, g1, g3, eqO_kw, isL, chg, appO, l3]
      try rfl
    | stops =>
      have g3 : atI ((List.range 8).map fun a => (gw q.1 a).t) (q.2 : Int) = some (.str "stops") := by rw [g2, he]; rfl
      refine ⟨.val (ndT q), .val (.str "stops"), j10, .inl ?_⟩
      simp [wlBody, cc_law_ends, wlE, lastT, objAt, chg, popO, seenO, i1, isOb, setiO, k1, l1, opd, fits, goL]
      rw [ps1]
      simp [e1, g1, g3, eqO_kw, isL, chg, appO, l3]
      try rfl
    | lab l =>
      have g3 : atI ((List.range 8).map fun a => (gw q.1 a).t) (q.2 : Int) = some (.int (l : Int)) := by rw [g2, he]; rfl
      obtain ⟨hl1, hl2⟩ := hg q.1 q.2 l hq.1 hq.2 he
      obtain ⟨c, hc⟩ : ∃ c, c = (actsOf ps).getD (l - 1) 0 := ⟨_, rfl⟩
      have en : nxt hs (actsOf ps) l q.2 = ((List.range 8).filter fun b => lead hs c q.2 b).map fun b => (l, b) := by subst hc; rfl
      have a1 : atI (.int (-1) :: (actsOf ps).map nT) (l : Int) = some (.int (c : Int)) := atI_at (by
        subst hc
        obtain ⟨k, rfl⟩ : ∃ k, l = k + 1 := ⟨l - 1, by omega⟩
        rw [List.getElem?_cons_succ, List.getElem?_map, List.getElem?_eq_getElem (by omega), List.getD_eq_getElem?_getD, show k + 1 - 1 = k by omega, List.getElem?_eq_getElem (by omega)]
        rfl)
      refine ⟨.val (ndT q), .val (nT l), .own (.lst (((List.range 8).filter fun b => lead hs c q.2 b).map nT)), .inl ?_⟩
      simp [wlBody, cc_law_ends, wlE, lastT, objAt, chg, popO, seenO, i1, isOb, setiO, k1, l1, opd, fits, goL]
      rw [ps1, en]
      simp [e1, g1, g3, eqO_int_str, rng8, small62, actL, opd]
      rw [lcGo_filter (p := fun b => lead hs c q.2 b) (h := nT) (fun b hb => by
        have hb := List.mem_range.mp hb
        have ll := lleads_ev (P := P) (lf := lf) (n := n + 1) (s := s) W hs ho c hq.2 hb
        simp [nT, a1, ll]) (by simp)]
      have fl : ((List.range 8).filter fun b => lead hs c q.2 b).length ≤ 8 := Nat.le_trans (List.length_filter_le _ _) (by simp)
      simp [opd]
      rw [lcGo_map (h := fun b => ndT (l, b)) (fun b hb => by simp [nT, ndT]) (by simp; omega)]
      have ff : fits (line.length + ((List.range 8).filter fun b => lead hs c q.2 b).length) = true := fits_of (by omega)
      simp [ff, e1, Function.comp_def]
      try rfl
end
end Tw

set_option Elab.async false
set_option linter.all false
set_option maxRecDepth 100000
set_option maxHeartbeats 4000000
/-! TwN: the law's table is the table. -/
namespace Tw
open PySem L2 TW
/-- a comprehension that only adds to the store -/
theorem lcGo_grow {α : Type} {f : T → Sto → R (Option T)} {g h : α → T} : ∀ {l : List α} {acc : List T} {s : Sto}, (∀ a ∈ l, ∀ s, ∃ e, f (g a) s = .ok (some (h a)) (s ++ e)) → acc.length + l.length ≤ 16777216 → ∃ e, lcGo f (l.map g) acc s = .ok (acc ++ l.map h) (s ++ e)
  | [], acc, s, _, _ => ⟨[], by simp [lcGo]⟩
  | a :: l, acc, s, hf, hl => by
    obtain ⟨e1, h1⟩ := hf a List.mem_cons_self s
    rw [List.length_cons] at hl
    obtain ⟨e2, h2⟩ := lcGo_grow (l := l) (acc := acc ++ [h a]) (s := s ++ e1) (fun b hb => hf b (List.mem_cons_of_mem _ hb)) (by simp; omega)
    refine ⟨e1 ++ e2, ?_⟩
    rw [List.map_cons, lcGo, h1]
    show (if acc.length < 16777216 then lcGo f (l.map g) (acc ++ [h a]) (s ++ e1) else .bad) = _
    rw [if_pos (by omega), h2]
    simp
theorem e_lc_grow {α : Type} {P : Pm} {G : Nat → List T → Sto → R Ow} {env : TW.Env} {s : Sto} {own : List Nat} {elt : E} {i : Nat} {it : TW.It} {l : List α} {g h : α → T} (hit : evI P G env it s = .ok (l.map g) s) (hl : l.length ≤ 16777216)
    (hf : ∀ a ∈ l, ∀ s, ∃ e, frzR (evE P G ((wipeE env own).set i (.val (g a))) elt s) = .ok (h a) (s ++ e)) : ∃ e, evE P G env (.lc own elt (.nm i) it none) s = .ok (.own (.lst (l.map h))) (s ++ e) := by
  have key : ∀ F : T → Sto → R (Option T), (∀ a ∈ l, ∀ s, ∃ e, F (g a) s = .ok (some (h a)) (s ++ e)) → ∃ e, (lcGo F (l.map g) [] s).bind (fun xs s2 => R.ok (Ow.own (.lst xs)) s2) = R.ok (Ow.own (.lst (l.map h))) (s ++ e) := by
    intro F hF
    obtain ⟨e, he⟩ := lcGo_grow (acc := []) (s := s) hF (by rw [List.length_nil]; omega)
    exact ⟨e, by rw [he]; rfl⟩
  rw [e_lc, hit, R_bind_ok]
  refine key _ fun a ha s => ?_
  obtain ⟨e, he⟩ := hf a ha s
  refine ⟨e, ?_⟩
  simp only [put_nm, xc_none, R_bind_ok, if_true, he]
theorem okT_nds (line : List Nd) : okT 2 (.lst (line.map ndT)) := okT_lst fun t ht => by
  obtain ⟨q, _, rfl⟩ := List.mem_map.mp ht
  exact okT_tup (d := 0) fun t ht => by
    simp at ht
    rcases ht with rfl | rfl <;> exact okT_int _ _
theorem eqO_nds (st : Sto) (line : List Nd) : eqO st (.lst (line.map ndT)) (.lst []) = some line.isEmpty := by
  rw [eqO_of ((okT_nds line).mono (by omega)) (b := .lst []) (okT.mono (okT_nds []) (by omega)) rfl rfl, eqT_lst, eqTs_nil]
  simp
section
variable {P : Pm} {Γ : List TW.Fn} {lf n : Nat} {x : Ix} {s r : Sto} (W : LibW Γ x)
include W
theorem wl_loop (hP : ∀ a b : Int, P.kOk [.inl a, .inl b] = true) {ps : List Pg} (hz : (actsOf ps).length ≤ 200) {hs : List Hy} (ho : ∀ h ∈ hs, h.okB = true) {gw : Nat → Nat → Go} (hg : ∀ l a k, l ≤ (actsOf ps).length → a < 8 → gw l a = .lab k → 1 ≤ k ∧ k ≤ (actsOf ps).length) (st : Nat) :
    ∀ (m : Nat) (seen line : List Nd) (found : List Nat) (j8 j9 j10 : Slot), Wl gw (actsOf ps) hs (0, st) seen line found → line.length ≤ 1 + 8 * seen.length → 9 * (8 * ((actsOf ps).length + 1) - seen.length) + line.length < m →
    ∃ seen' found' j8' j9' j10', whGo (fun env s => evC P (run P Γ lf (n + 3)) env (some (.cmp .ne (.pk 6) (.lst []))) s) (fun env s => evSs P (run P Γ lf (n + 3)) lf (wlBody x) env s) m (wlE ps hs st gw seen line found j8 j9 j10) s = .nx (wlE ps hs st gw seen' [] found' j8' j9' j10') s ∧ Wl gw (actsOf ps) hs (0, st) seen' [] found'
  | 0, _, _, _, _, _, _, _, _, h => by omega
  | m + 1, seen, line, found, j8, j9, j10, w, hl, hm => by
    have c : evC P (run P Γ lf (n + 3)) (wlE ps hs st gw seen line found j8 j9 j10) (some (.cmp .ne (.pk 6) (.lst []))) s = .ok (!line.isEmpty) s := by
      have := eqO_nds s line
      simp [wlE, opd, fits, this]
    by_cases hn : line = []
    · subst hn
      refine ⟨seen, found, j8, j9, j10, ?_, w⟩
      rw [whGo, c]
      rfl
    · have hd := List.dropLast_concat_getLast hn
      generalize line.dropLast = l0 at hd
      generalize line.getLast hn = q at hd
      subst hd
      have sl := w.seen_len
      have fl := w.flen
      have hl0 : l0.length ≤ 8 * seen.length := by simp at hl; omega
      obtain ⟨w2, t⟩ := wl_turn hg w
      obtain ⟨k8, k9, k10, e⟩ := wl_ev (P := P) (lf := lf) (n := n) (s := s) (x := x) W hP ho hg st q (w.bnd q (.inr (by simp))) seen l0 found j8 j9 j10 (by omega) (by omega) (by omega)
      have cc : (!(l0 ++ [q]).isEmpty) = true := by simp
      rw [cc] at c
      have sl2 := w2.seen_len
      simp at hm
      obtain ⟨seen', found', j8', j9', j10', e2, w3⟩ := wl_loop hP hz ho hg st m _ _ _ k8 k9 k10 w2 (by rcases t with t | t <;> omega) (by rcases t with t | t <;> omega)
      refine ⟨seen', found', j8', j9', j10', ?_, w3⟩
      rw [whGo, c]
      rcases e with e | e
      · show (match evSs P (run P Γ lf (n + 3)) lf (wlBody x) (wlE ps hs st gw seen (l0 ++ [q]) found j8 j9 j10) s with
          | .nx env' s' => whGo (fun env s => evC P (run P Γ lf (n + 3)) env (some (.cmp .ne (.pk 6) (.lst []))) s) (fun env s => evSs P (run P Γ lf (n + 3)) lf (wlBody x) env s) m env' s'
          | .ct env' s' => whGo (fun env s => evC P (run P Γ lf (n + 3)) env (some (.cmp .ne (.pk 6) (.lst []))) s) (fun env s => evSs P (run P Γ lf (n + 3)) lf (wlBody x) env s) m env' s'
          | .bk env' s' => .nx env' s'
          | o => o) = _
        rw [e]
        exact e2
      · show (match evSs P (run P Γ lf (n + 3)) lf (wlBody x) (wlE ps hs st gw seen (l0 ++ [q]) found j8 j9 j10) s with
          | .nx env' s' => whGo (fun env s => evC P (run P Γ lf (n + 3)) env (some (.cmp .ne (.pk 6) (.lst []))) s) (fun env s => evSs P (run P Γ lf (n + 3)) lf (wlBody x) env s) m env' s'
          | .ct env' s' => whGo (fun env s => evC P (run P Γ lf (n + 3)) env (some (.cmp .ne (.pk 6) (.lst []))) s) (fun env s => evSs P (run P Γ lf (n + 3)) lf (wlBody x) env s) m env' s'
          | .bk env' s' => .nx env' s'
          | o => o) = _
        rw [e]
        exact e2
theorem lends_ev (hlf : 1100000 < lf) (hP : ∀ a b : Int, P.kOk [.inl a, .inl b] = true) {ps : List Pg} (h1 : hgts ps ≤ 25) (h2 : sizes ps ≤ 200) (h3 : oks ps = true) {hs : List Hy} (ho : ∀ h ∈ hs, h.okB = true) {st : Nat} (hst : st < 8) (s : Sto) :
    ∃ e, run P Γ lf (n + 31) x.f_law_ends [tupP ps, hT hs, .int st] s = .ok (.val (nT ((tabB hs ps same).getD st 0))) (s ++ e) := by
  obtain ⟨gw, G, wk⟩ := walks_ev (P := P) (lf := lf) (n := n) W hlf h1 h2 h3
  have wk := wk s
  refine ⟨[.lst ((actsOf ps).map nT), .dk (restD ps)], ?_⟩
  have al := acts_le ps
  have hg : ∀ l a k, l ≤ (actsOf ps).length → a < 8 → gw l a = .lab k → 1 ≤ k ∧ k ≤ (actsOf ps).length := fun l a k hl ha h => by
    obtain ⟨_, _, g1, g2, _⟩ := go_lab G hl ha h
    exact ⟨g1, g2⟩
  have w0 : Wl gw (actsOf ps) hs (0, st) [] [(0, st)] [] := ⟨fun q hq => by
    rcases hq with hq | hq
    · cases hq
    · simp at hq; subst hq; exact .refl, fun q hq => by
    rcases hq with hq | hq
    · cases hq
    · simp at hq; subst hq; exact ⟨Nat.zero_le _, hst⟩, fun q hq => (by cases hq), .inr (by simp), fun y => by simp, by simp, Nat.le_refl _⟩
  obtain ⟨seen', found', j8', j9', j10', e2, w⟩ := wl_loop (P := P) (lf := lf) (n := n + 27) (s := s ++ [.lst ((actsOf ps).map nT), .dk (restD ps)]) (x := x) W hP (by omega) ho hg st lf [] [(0, st)] [] .no .no .no w0 (by simp) (by
      have h4 : 9 * (8 * ((actsOf ps).length + 1) - ([] : List Nd).length) ≤ 9 * (8 * 201) := Nat.mul_le_mul_left _ (by rw [List.length_nil]; omega)
      rw [List.length_singleton]
      omega)
  have hf := found_iff G hst w
  have h8 : ∀ y ∈ found', y < 8 := fun y hy => (tabB_tab hs ps same tab_same).lt st y ((hf y).mp hy)
  have fl := w.flen
  have sl := w.seen_len
  obtain ⟨v, ev, bv⟩ := set_of_ev (P := P) (lf := lf) (n := n + 29) (s := s ++ [.lst ((actsOf ps).map nT), .dk (restD ps)]) W (found := found') (by omega) h8
  have ve : v = (tabB hs ps same).getD st 0 := Nat.eq_of_testBit_eq fun y => by
    rw [bv y]
    have := hf y
    unfold bitAt at this
    rw [Bool.eq_iff_iff, decide_eq_true_eq]
    exact this
  subst ve
  rw [run_at W.ends (by rw [ends_eq]; rfl), ends_eq]
  show (evSs P (run P Γ lf (n + 30)) lf [.unp [0] [3, 4] (.call x.f_law_walks [.var 0]), .par [2] [5, 6, 7] [.dct true [], .lst [.tup [.con (.int 0), .var 2]], .lst []], .whl (.cmp .ne (.pk 6) (.lst [])) (wlBody x), .ret [7] (.call x.f_law_set_of [.var 7])] [.val (tupP ps), .val (hT hs), .val (nT st), .no, .no, .no, .no, .no, .no, .no, .no, .no] s).res = _
  have s1 : evS P (run P Γ lf (n + 30)) lf (.unp [0] [3, 4] (.call x.f_law_walks [.var 0])) [.val (tupP ps), .val (hT hs), .val (nT st), .no, .no, .no, .no, .no, .no, .no, .no, .no] s = .nx [.val (tupP ps), .val (hT hs), .val (nT st), .val (goL ps gw), .val (actL ps), .no, .no, .no, .no, .no, .no, .no] (s ++ [.lst ((actsOf ps).map nT), .dk (restD ps)]) := by
    simp (implicitDefEqProofs := false) [wk]
  have s2 : evS P (run P Γ lf (n + 30)) lf (.par [2] [5, 6, 7] [.dct true [], .lst [.tup [.con (.int 0), .var 2]], .lst []]) [.val (tupP ps), .val (hT hs), .val (nT st), .val (goL ps gw), .val (actL ps), .no, .no, .no, .no, .no, .no, .no] (s ++ [.lst ((actsOf ps).map nT), .dk (restD ps)]) = .nx (wlE ps hs st gw [] [(0, st)] [] .no .no .no) (s ++ [.lst ((actsOf ps).map nT), .dk (restD ps)]) := by
    simp (implicitDefEqProofs := false) [wlE, fits, seenO, ndT, nT]
  rw [xss_cons, s1, seq_nx, xss_cons, s2, seq_nx, xss_cons, xs_whl, e2, seq_nx]
  simp (implicitDefEqProofs := false) [wlE, ev]
theorem ltable_ev (hlf : 1100000 < lf) (hP : ∀ a b : Int, P.kOk [.inl a, .inl b] = true) {ps : List Pg} (h1 : hgts ps ≤ 25) (h2 : sizes ps ≤ 200) (h3 : oks ps = true) {hs : List Hy} (ho : ∀ h ∈ hs, h.okB = true) (s : Sto) :
    ∃ e, run P Γ lf (n + 32) x.f_law_table [tupP ps, hT hs] s = .ok (.val (tbT (tabB hs ps same))) (s ++ e) := by
  have tl := (tabB_tab hs ps same tab_same).len
  generalize ht : tabB hs ps same = tb at tl
  obtain ⟨e, g⟩ := e_lc_grow (P := P) (G := run P Γ lf (n + 31)) (env := [.val (tupP ps), .val (hT hs), .no]) (s := s) (own := [2]) (elt := .call x.f_law_ends [.var 0, .var 1, .var 2]) (i := 2) (it := .rng1 (.con (.int 8))) (l := List.range 8) (g := nT) (h := fun a => nT (tb.getD a 0)) (by simp [rng8, small62]) (by simp) fun a ha s => by
    obtain ⟨e, he⟩ := lends_ev (P := P) (lf := lf) (n := n) W hlf hP h1 h2 h3 ho (List.mem_range.mp ha) s
    rw [ht] at he
    refine ⟨e, ?_⟩
    have he : run P Γ lf (n + 31) x.f_law_ends [tupP ps, hT hs, nT a] s = .ok (.val (nT (tb.getD a 0))) (s ++ e) := he
    generalize nT (tb.getD a 0) = v at he ⊢
    simp (implicitDefEqProofs := false) [he]
  refine ⟨e, ?_⟩
  have e2 : ((List.range 8).map fun a => nT (tb.getD a 0)) = tb.map nT := by
    apply List.ext_getElem?
    intro i
    by_cases hi : i < 8
    · have hi' : i < tb.length := by omega
      simp [List.getElem?_range hi, List.getElem?_eq_getElem hi', List.getD_eq_getElem?_getD]
    · rw [List.getElem?_eq_none (by simp; omega), List.getElem?_eq_none (by simp; omega)]
  rw [e2] at g
  rw [run_at W.table rfl]
  show (evSs P (run P Γ lf (n + 31)) lf [.ret [0, 1, 2] (.blt .tupleOf (.lc [2] (.call x.f_law_ends [.var 0, .var 1, .var 2]) (.nm 2) (.rng1 (.con (.int 8))) none))] [.val (tupP ps), .val (hT hs), .no] s).res = _
  rw [xss_cons, xs_ret]
  have f : frzE [.val (tupP ps), .val (hT hs), .no] [0, 1, 2] = [.val (tupP ps), .val (hT hs), .no] := by simp
  rw [f, e_blt, g]
  simp (implicitDefEqProofs := false) [opd, tbT]
end
end Tw

set_option Elab.async false
set_option linter.all false
set_option maxRecDepth 100000
set_option maxHeartbeats 4000000
/-! TwO: the cup. -/
namespace Tw
open PySem L2 TW
theorem beq_len : ∀ a b : List Key, a.length ≠ b.length → (a == b) = false
  | [], [], h => absurd rfl h
  | [], _ :: _, _ => rfl
  | _ :: _, [], _ => rfl
  | x :: a, y :: b, h => by
    show ((x == y) && (a == b)) = false
    rw [beq_len a b (by simpa using h), Bool.and_false]
theorem contains_len {q : List Key} : ∀ L : List (List Key), (∀ k ∈ L, q.length ≠ k.length) → L.contains q = false
  | [], _ => rfl
  | k :: L, h => by
    rw [List.contains_cons, beq_len q k (h k List.mem_cons_self), contains_len L fun z hz => h z (List.mem_cons_of_mem _ hz)]
    rfl
section
variable {P : Pm} {Γ : List TW.Fn} {lf n : Nat} {x : Ix} {s r : Sto}
theorem cup_ev (h : Γ[x.f_law_cup]? = some (cc_law_cup x)) {ns : List Int} (hl : ns.length ≤ 63) : ∃ c : Cup, run P Γ lf (n + 1) x.f_law_cup [.scr ns] s = .ok (.own (cupO c)) s := by
  obtain ⟨v, hv⟩ : ∃ v : Int, atI (ns.map T.int ++ [T.int 0]) 0 = some (.int v) := by
    cases ns with
    | nil => exact ⟨0, rfl⟩
    | cons a ns => exact ⟨a, by rw [List.map_cons, List.cons_append, atI_0]⟩
  have e1 : ∀ st : Sto, bltT st .listOf (.scr ns) = some (.own (.lst (ns.map .int))) := fun _ => rfl
  have f1 : ns.length ≤ 16777215 := by omega
  have e2 : ∀ (st : Sto) (i : Int), bltT st .abs (.int i) = some (.val (.int (if i < 0 then -i else i))) := fun _ _ => rfl
  generalize hw : (if v < 0 then -v else v) = w
  have e3 : intOp .pow 10 18 = some 1000000000000000000 := by decide +kernel
  have e4 : intOp .fdiv w 103 = some (w / 103) := intOp_fdiv (by decide) (by decide)
  have e5 : ∀ st : Sto, opBin st .mul (.int w) (.int 331) = some (.val (.int (w * 331))) := fun st => mulT_int st (by rw [show TW.small64 331 = true by decide, Bool.or_true])
  have e6 : ∀ i : Int, intOp .mod i 2077503071 = some (i % 2077503071) := fun i => intOp_mod (by decide)
  refine ⟨(if 1000000000000000000 ≤ w then w / 103 else 0, (w * 331 + 2729) % 2077503071 + 199), ?_⟩
  rw [run_at h rfl]
  by_cases hc : (1000000000000000000 : Int) ≤ w
  · simp (implicitDefEqProofs := false) [cc_law_cup, startE_def, opd, fits, e1, f1, hv, e2, hw, e3, e4, e5, e6, hc, cupO]
  · simp (implicitDefEqProofs := false) [cc_law_cup, startE_def, opd, fits, e1, f1, hv, e2, hw, e3, e4, e5, e6, hc, cupO]
end
end Tw

set_option Elab.async false
set_option linter.all false
set_option maxRecDepth 100000
set_option maxHeartbeats 4000000
/-! TwP: strongest, weakest, does_lead. -/
namespace Tw
open PySem L2 TW
/-- one set within another one -/
def wthn (own other : Nat) : Bool := (mem8 own).all fun a => other.testBit a
theorem wthn_iff {own other : Nat} : wthn own other = true ↔ ∀ a, a < 8 → own.testBit a = true → other.testBit a = true := by
  unfold wthn
  rw [List.all_eq_true]
  constructor
  · intro h a h1 h2; exact h a (mem8_iff.mpr ⟨h1, h2⟩)
  · intro h a ha
    obtain ⟨h1, h2⟩ := mem8_iff.mp ha
    exact h a h1 h2
theorem bit_lt8 {own a : Nat} (h : own < 256) (hb : own.testBit a = true) : a < 8 := by
  apply Classical.byContradiction
  intro hn
  have : own.testBit a = false := Nat.testBit_lt_two_pow (Nat.lt_of_lt_of_le h (Nat.pow_le_pow_right (n := 2) (by decide) (Nat.le_of_not_lt hn)))
  rw [this] at hb; cases hb
theorem within_and {own other : Nat} (h : own < 256) (h2 : other < 256) : decide (own &&& (255 - other) = 0) = wthn own other := by
  have e : 255 - other = 2 ^ 8 - (other + 1) := by omega
  have h2' : other < 2 ^ 8 := h2
  rw [Bool.eq_iff_iff, decide_eq_true_eq, wthn_iff, e]
  constructor
  · intro q a ha hb
    have : (own &&& (2 ^ 8 - (other + 1))).testBit a = false := by rw [q, Nat.zero_testBit]
    rw [Nat.testBit_and, hb, Nat.testBit_two_pow_sub_succ h2'] at this
    simpa [ha] using this
  · intro q
    apply Nat.eq_of_testBit_eq
    intro a
    rw [Nat.testBit_and, Nat.testBit_two_pow_sub_succ h2', Nat.zero_testBit]
    cases hb : own.testBit a with
    | false => rfl
    | true =>
      have ha := bit_lt8 h hb
      rw [q a ha hb]
      simp
theorem unite_256 {t : List Nat} (ht : Tab t) (own : Nat) : unite t own < 256 := by
  apply Classical.byContradiction
  intro hn
  obtain ⟨i, h1, h2⟩ := Nat.exists_ge_and_testBit_of_ge_two_pow (n := 8) (x := unite t own) (by omega)
  have := unite_lt ht h2
  omega
theorem tab_256 {t : List Nat} (ht : Tab t) (a : Nat) : t.getD a 0 < 256 := by
  apply Classical.byContradiction
  intro hn
  obtain ⟨i, h1, h2⟩ := Nat.exists_ge_and_testBit_of_ge_two_pow (n := 8) (x := t.getD a 0) (by omega)
  have := ht.lt a i h2
  omega
/-- the weakest set -/
def weakF (t : List Nat) (behind : Nat) : Nat := sumP ((List.range 8).filter fun a => wthn (t.getD a 0) behind)
theorem range_asc (p : Nat → Bool) : ((List.range 8).filter p).Pairwise (· < ·) := (List.pairwise_lt_range (n := 8)).filter p
theorem weak_bit (t : List Nat) (behind y : Nat) : (weakF t behind).testBit y = (decide (y < 8) && wthn (t.getD y 0) behind) := by
  unfold weakF
  rw [sumP_bit (range_asc _), Bool.eq_iff_iff]
  simp
theorem weak_256 (t : List Nat) (behind : Nat) : weakF t behind < 256 := by
  apply Classical.byContradiction
  intro hn
  obtain ⟨i, h1, h2⟩ := Nat.exists_ge_and_testBit_of_ge_two_pow (n := 8) (x := weakF t behind) (by omega)
  rw [weak_bit] at h2
  simp at h2
  omega
/-- does it lead: by each atom -/
theorem lead_iff {t : List Nat} (ht : Tab t) {ahead behind : Nat} : wthn (unite t ahead) behind = true ↔ ∀ a, a < 8 → ahead.testBit a = true → wthn (t.getD a 0) behind = true := by
  rw [wthn_iff]
  constructor
  · intro h a ha hb
    rw [wthn_iff]
    intro y hy hyb
    refine h y hy ?_
    rw [unite_bit, List.any_eq_true]
    exact ⟨a, mem8_iff.mpr ⟨ha, hb⟩, hyb⟩
  · intro h y hy hyb
    rw [unite_bit, List.any_eq_true] at hyb
    obtain ⟨a, ha, hab⟩ := hyb
    obtain ⟨h1, h2⟩ := mem8_iff.mp ha
    exact wthn_iff.mp (h a h1 h2) y hy hab
theorem lead_weak {t : List Nat} (ht : Tab t) (ahead behind : Nat) : wthn ahead (weakF t behind) = wthn (unite t ahead) behind := by
  rw [Bool.eq_iff_iff, lead_iff ht, wthn_iff]
  constructor
  · intro h a ha hb
    have := h a ha hb
    rw [weak_bit] at this
    simpa [ha] using this
  · intro h a ha hb
    rw [weak_bit, h a ha hb]
    simpa using ha
theorem wthn_refl (a : Nat) : wthn a a = true := wthn_iff.mpr fun _ _ h => h
theorem weak_leads {t : List Nat} (ht : Tab t) (behind : Nat) : wthn (unite t (weakF t behind)) behind = true := by
  rw [← lead_weak ht]
  exact wthn_refl _
structure LibE (Γ : List TW.Fn) (x : Ix) : Prop where
  need_whole : Γ[x.f_need_whole]? = some (cc_need_whole x)
  need_set : Γ[x.f_need_set]? = some (cc_need_set x)
  is_within : Γ[x.f_is_within]? = some (cc_is_within x)
  leads_by : Γ[x.f_leads_by]? = some (cc_leads_by x)
  need_all : Γ[x.f_need_all]? = some (cc_need_all x)
structure LibF (Γ : List TW.Fn) (x : Ix) : Prop where
  strongest : Γ[x.f_strongest]? = some (cc_strongest x)
  weakest : Γ[x.f_weakest]? = some (cc_weakest x)
structure LibU (Γ : List TW.Fn) (x : Ix) : Prop where
  members : Γ[x.f_law_members]? = some (cc_law_members x)
structure LibV (Γ : List TW.Fn) (x : Ix) : Prop where
  within : Γ[x.f_law_within]? = some (cc_law_within x)
  union : Γ[x.f_law_union]? = some (cc_law_union x)
section
variable {P : Pm} {Γ : List TW.Fn} {lf n : Nat} {x : Ix} {s r : Sto} (A : LibA Γ x) (B : LibB Γ x) (C : LibC Γ x) (D : LibD Γ x) (E : LibE Γ x)
include A E
theorem need_set_ev {v : Nat} (h : v < 256) : run P Γ lf (n + 3) x.f_need_set [nT v] s = .ok (.val .non) s := by
  rw [run_at E.need_set rfl]
  have w := is_whole_ev (P := P) (lf := lf) (n := n) (s := s) A.is_whole (v : Int) 0 255
  have h2 : (v : Int) ≤ 255 := by omega
  have w2 : run P Γ lf (n + 2) x.f_need_whole [.int v, .int 0, .int 255] s = .ok (.val .non) s := by
    rw [run_at E.need_whole rfl]
    simp (implicitDefEqProofs := false) [cc_need_whole, startE_def, opd, w, h2]
  simp (implicitDefEqProofs := false) [cc_need_set, startE_def, opd, nT, w2]
omit A in
theorem is_within_ev {own other : Nat} (h : own < 256) (h2 : other < 256) : run P Γ lf (n + 1) x.f_is_within [nT own, nT other] s = .ok (.val (.bl (wthn own other))) s := by
  rw [run_at E.is_within rfl]
  have e1 : intOp .sub 255 (other : Int) = some ((255 - other : Nat) : Int) := by
    rw [intOp_sub]
    congr 1
    omega
  have e2 : intOp .band (own : Int) ((255 - other : Nat) : Int) = some ((own &&& (255 - other) : Nat) : Int) := intOp_band _ _
  rw [← within_and h h2]
  generalize (255 - other : Nat) = k at e1 e2 ⊢
  generalize (own &&& k : Nat) = j at e2 ⊢
  rw [intOp_sub] at e1
  have e1 := Option.some.inj e1
  simp (implicitDefEqProofs := false) [cc_is_within, startE_def, opd, nT, e1, e2]
include B
theorem leads_by_ev (hlf : 64 < lf) {ps : List Pg} (hp : hgts ps ≤ 25) {hs : List Hy} (hl : hs.length ≤ 5) {ahead behind : Nat} (h2 : behind < 256) : run P Γ lf (n + 60) x.f_leads_by [tupP ps, hT hs, nT ahead, nT behind] s = .ok (.val (.bl (wthn (unite (tabB hs ps same) ahead) behind))) s := by
  rw [run_at E.leads_by rfl]
  have e2 := (table_ev (P := P) A B hlf hs (by omega) 25 (n + 3)).2 ps hp s
  have e2 : run P Γ lf (n + 59) x.f_table_by [tupP ps, hT hs] s = .ok (.val (tbT (tabB hs ps same))) s := e2
  have ht := tabB_tab hs ps same tab_same
  generalize tabB hs ps same = tb at e2 ht ⊢
  have e3 : run P Γ lf (n + 59) x.f_united [tbT tb, nT ahead] s = .ok (.val (nT (unite tb ahead))) s := united_ev (n := n + 56) A B tb ht.len ahead
  have e4 : run P Γ lf (n + 59) x.f_is_within [nT (unite tb ahead), nT behind] s = .ok (.val (.bl (wthn (unite tb ahead) behind))) s := is_within_ev (n := n + 58) E (unite_256 ht _) h2
  simp (implicitDefEqProofs := false) [cc_leads_by, startE_def, opd, e2, e3, e4]
include C D
theorem need_all_ev {ps : List Pg} (h : PlainOk ps) {hs : List Hy} (hl : hs.length ≤ 5) (ho : ∀ h ∈ hs, h.okB = true) {ahead behind : Nat} (h1 : ahead < 256) (h2 : behind < 256) : run P Γ lf (n + 60) x.f_need_all [tupP ps, hT hs, nT ahead, nT behind] s = .ok (.val .non) s := by
  rw [run_at E.need_all rfl]
  have e1 := need_both_ev (P := P) (lf := lf) (n := n + 27) (s := s) A C D h hs hl ho
  have e1 : run P Γ lf (n + 59) x.f_need_both [tupP ps, hT hs] s = .ok (.val .non) s := e1
  have e2 : run P Γ lf (n + 59) x.f_need_set [nT ahead] s = .ok (.val .non) s := need_set_ev (n := n + 56) A E h1
  have e3 : run P Γ lf (n + 59) x.f_need_set [nT behind] s = .ok (.val .non) s := need_set_ev (n := n + 56) A E h2
  simp (implicitDefEqProofs := false) [cc_need_all, startE_def, opd, e1, e2, e3]
theorem does_lead_ev (hD : Γ[x.f_does_lead]? = some (cc_does_lead x)) (hlf : 64 < lf) {ps : List Pg} (h : PlainOk ps) {hs : List Hy} (hl : hs.length ≤ 5) (ho : ∀ h ∈ hs, h.okB = true) {ahead behind : Nat} (h1 : ahead < 256) (h2 : behind < 256) : run P Γ lf (n + 61) x.f_does_lead [tupP ps, hT hs, nT ahead, nT behind] s = .ok (.val (.bl (wthn (unite (tabB hs ps same) ahead) behind))) s := by
  rw [run_at hD rfl]
  have e1 := need_all_ev (P := P) (lf := lf) (n := n) (s := s) A B C D E h hl ho h1 h2
  have e2 := leads_by_ev (P := P) (lf := lf) (n := n) (s := s) A B E hlf h.hgt hl (ahead := ahead) h2
  simp (implicitDefEqProofs := false) [cc_does_lead, startE_def, opd, e1, e2]
theorem strongest_ev (F : LibF Γ x) (hlf : 64 < lf) {ps : List Pg} (h : PlainOk ps) {hs : List Hy} (hl : hs.length ≤ 5) (ho : ∀ h ∈ hs, h.okB = true) {ahead : Nat} (h1 : ahead < 256) : run P Γ lf (n + 60) x.f_strongest [tupP ps, hT hs, nT ahead] s = .ok (.val (nT (unite (tabB hs ps same) ahead))) s := by
  rw [run_at F.strongest rfl]
  have e1 := need_both_ev (P := P) (lf := lf) (n := n + 27) (s := s) A C D h hs hl ho
  have e1 : run P Γ lf (n + 59) x.f_need_both [tupP ps, hT hs] s = .ok (.val .non) s := e1
  have e2 := (table_ev (P := P) A B hlf hs (by omega) 25 (n + 3)).2 ps h.hgt s
  have e2 : run P Γ lf (n + 59) x.f_table_by [tupP ps, hT hs] s = .ok (.val (tbT (tabB hs ps same))) s := e2
  have e4 : run P Γ lf (n + 59) x.f_need_set [nT ahead] s = .ok (.val .non) s := need_set_ev (n := n + 56) A E h1
  have ht := tabB_tab hs ps same tab_same
  generalize tabB hs ps same = tb at e2 ht ⊢
  have e3 : run P Γ lf (n + 59) x.f_united [tbT tb, nT ahead] s = .ok (.val (nT (unite tb ahead))) s := united_ev (n := n + 56) A B tb ht.len ahead
  simp (implicitDefEqProofs := false) [cc_strongest, startE_def, opd, e1, e2, e3, e4]
theorem weakest_ev (F : LibF Γ x) (hlf : 64 < lf) {ps : List Pg} (h : PlainOk ps) {hs : List Hy} (hl : hs.length ≤ 5) (ho : ∀ h ∈ hs, h.okB = true) {behind : Nat} (h1 : behind < 256) : run P Γ lf (n + 60) x.f_weakest [tupP ps, hT hs, nT behind] s = .ok (.val (nT (weakF (tabB hs ps same) behind))) s := by
  rw [run_at F.weakest rfl]
  have e1 := need_both_ev (P := P) (lf := lf) (n := n + 27) (s := s) A C D h hs hl ho
  have e1 : run P Γ lf (n + 59) x.f_need_both [tupP ps, hT hs] s = .ok (.val .non) s := e1
  have e2 := (table_ev (P := P) A B hlf hs (by omega) 25 (n + 3)).2 ps h.hgt s
  have e2 : run P Γ lf (n + 59) x.f_table_by [tupP ps, hT hs] s = .ok (.val (tbT (tabB hs ps same))) s := e2
  have e4 : run P Γ lf (n + 59) x.f_need_set [nT behind] s = .ok (.val .non) s := need_set_ev (n := n + 56) A E h1
  have ht := tabB_tab hs ps same tab_same
  generalize tabB hs ps same = tb at e2 ht ⊢
  simp (implicitDefEqProofs := false) [cc_weakest, startE_def, opd, e1, e2, e4, rng8, small62]
  rw [lcGo_filter (p := fun a => wthn (tb.getD a 0) behind) (h := fun a => nT (2 ^ a)) (fun a ha => by
    have ha := List.mem_range.mp ha
    have i1 : atI (tb.map nT) (a : Int) = some (nT (tb.getD a 0)) := atI_tb (by rw [ht.len]; exact ha)
    have i2 : run P Γ lf (n + 59) x.f_is_within [nT (tb.getD a 0), nT behind] s = .ok (.val (.bl (wthn (tb.getD a 0) behind))) s := is_within_ev (n := n + 58) E (tab_256 ht a) h1
    have i3 : intOp .shl 1 (a : Int) = some ((2 ^ a : Nat) : Int) := by rw [intOp_shl1 a (by omega), Nat.one_shiftLeft]
    have i4 : T.int ((2 ^ a : Nat) : Int) = nT (2 ^ a) := rfl
    generalize nT (tb.getD a 0) = u at i1 i2 ⊢
    generalize wthn (tb.getD a 0) behind = k at i2 ⊢
    generalize (2 ^ a : Nat) = j at i3 i4 ⊢
    simp (implicitDefEqProofs := false) [tbT, nT, i1, i3, opd]
    simp only [nT] at i2
    simp (implicitDefEqProofs := false) [i2]) (by simp)]
  have e5 : ∀ l : List Nat, bltT s .sum (.lst (l.map fun a => nT (2 ^ a))) = some (.val (nT (sumP l))) := fun l => by
    have e2 : (l.map fun a => nT (2 ^ a)) = (l.map fun a => 2 ^ a).map nT := by simp [List.map_map, Function.comp_def]
    show (((some (l.map fun a => nT (2 ^ a))).bind ints?).map fun ns => Ow.val (.int ns.sum)) = _
    rw [e2, Option.bind_some, ints_nat]
    have : ∀ m : List Nat, ((m.map fun a => 2 ^ a).map fun i : Nat => (i : Int)).sum = ((sumP m : Nat) : Int) := by
      intro m
      induction m with
      | nil => rfl
      | cons a m ih => simp only [List.map_cons, List.sum_cons, ih, sumP]; simp
    simp only [Option.map_some, this]
    rfl
  simp (implicitDefEqProofs := false) [e5]
  rfl
end
/-! ### the law's own -/
def tbAt (tb : List Nat) (a : Nat) : Nat := tb.getD a 0
section
variable {P : Pm} {Γ : List TW.Fn} {lf n : Nat} {x : Ix} {s r : Sto} (W : LibW Γ x) (U : LibU Γ x) (V : LibV Γ x)
include W U
theorem lmembers_ev (own : Nat) : run P Γ lf (n + 2) x.f_law_members [nT own] s = .ok (.own (.lst ((mem8 own).map nT))) s := by
  rw [run_at U.members rfl]
  simp (implicitDefEqProofs := false) [cc_law_members, startE_def, opd, rng8, small62, nT]
  rw [lcGo_filter (p := fun a => own.testBit a) (h := nT) (fun a ha => by
    have ha := List.mem_range.mp ha
    have := lhas_ev (P := P) (lf := lf) (n := n) (s := s) W.has own ha
    simp (implicitDefEqProofs := false) [nT, this]) (by simp)]
  simp [mem8]
include V
theorem lwithin_ev (own other : Nat) : run P Γ lf (n + 3) x.f_law_within [nT own, nT other] s = .ok (.val (.bl (wthn own other))) s := by
  rw [run_at V.within rfl]
  have e1 := lmembers_ev (P := P) (lf := lf) (n := n) (s := s) W U own
  simp (implicitDefEqProofs := false) [cc_law_within, startE_def, opd, e1]
  rw [lcGo_filter (p := fun a => !other.testBit a) (h := nT) (fun a ha => by
    have ha := (mem8_iff.mp ha).1
    have := lhas_ev (P := P) (lf := lf) (n := n + 1) (s := s) W.has other ha
    simp (implicitDefEqProofs := false) [nT, this]) (by have := mem8_len own; simp; omega)]
  have e2 : eqO s (.lst (((mem8 own).filter fun a => !other.testBit a).map nT)) (.lst []) = some (wthn own other) := by
    rw [eqO_of (okT.mono (okT_lst (d := 0) fun t ht => by
      obtain ⟨q, _, rfl⟩ := List.mem_map.mp ht
      exact okT_int _ _) (by omega)) (b := .lst []) (okT.mono (okT_lst (d := 0) (ts := []) fun t ht => by cases ht) (by omega)) rfl rfl, eqT_lst, eqTs_nil]
    congr 1
    unfold wthn
    rw [Bool.eq_iff_iff]
    simp
  simp (implicitDefEqProofs := false) [e2, fits]
theorem lunion_ev {tb : List Nat} (ht : Tab tb) (own : Nat) : run P Γ lf (n + 3) x.f_law_union [tbT tb, nT own] s = .ok (.val (nT (unite tb own))) s := by
  rw [run_at V.union rfl]
  have e1 := lmembers_ev (P := P) (lf := lf) (n := n) (s := s) W U own
  simp (implicitDefEqProofs := false) [cc_law_union, startE_def, opd, e1, fits]
  erw [forGo_foldR (E := fun (p : List Nat × Option T) => [.val (tbT tb), .val (nT own), .own (.lst (p.1.map nT)), sl p.2]) (step := fun p a => (p.1 ++ mem8 (tbAt tb a), some (nT a))) (acc := ([], none)) (fun rest p => p.1.length + 8 * rest.length ≤ 1000 ∧ ∀ a ∈ rest, a < 8) (fun a rest p hp => by
      obtain ⟨f, j⟩ := p
      obtain ⟨h1, h2⟩ := hp
      have h1 : f.length + 8 * (rest.length + 1) ≤ 1000 := h1
      have ha := h2 a List.mem_cons_self
      have ml := mem8_len (tbAt tb a)
      have i1 : atI (tb.map nT) (a : Int) = some (nT (tbAt tb a)) := atI_tb (by rw [ht.len]; exact ha)
      have i2 := lmembers_ev (P := P) (lf := lf) (n := n) (s := s) W U (tbAt tb a)
      generalize tbAt tb a = k at i1 i2 ml ⊢
      have ff : f.length + (mem8 k).length ≤ 16777216 := by omega
      refine ⟨?_, by simp; omega, fun b hb => h2 b (List.mem_cons_of_mem _ hb)⟩
      simp (implicitDefEqProofs := false) [sl, tbT, opd, ff, fits]
      have i3 : ixT P s (.tup (tb.map nT)) (nT a) = some (nT k) := i1
      simp (implicitDefEqProofs := false) [i3, i2, ff, fits]) ⟨by have := mem8_len own; simp; omega, fun a ha => (mem8_iff.mp ha).1⟩]
  have e2 : ∀ (l : List Nat) (f : List Nat) (j : Option T), (l.foldl (fun (p : List Nat × Option T) a => (p.1 ++ mem8 (tbAt tb a), some (nT a))) (f, j)).1 = f ++ l.flatMap fun a => mem8 (tbAt tb a) := by
    intro l
    induction l with
    | nil => intro f j; simp
    | cons a l ih => intro f j; rw [List.foldl_cons, ih, List.flatMap_cons, List.append_assoc]
  have h8 : ∀ y ∈ (mem8 own).flatMap fun a => mem8 (tbAt tb a), y < 8 := fun y hy => by
    obtain ⟨a, _, h⟩ := List.mem_flatMap.mp hy
    exact (mem8_iff.mp h).1
  have hl : ((mem8 own).flatMap fun a => mem8 (tbAt tb a)).length < 4000 := by
    have : ∀ l : List Nat, (l.flatMap fun a => mem8 (tbAt tb a)).length ≤ 8 * l.length := by
      intro l
      induction l with
      | nil => simp
      | cons a l ih =>
        rw [List.flatMap_cons, List.length_append, List.length_cons]
        have := mem8_len (tbAt tb a)
        omega
    have := this (mem8 own)
    have := mem8_len own
    omega
  obtain ⟨v, ev, bv⟩ := set_of_ev (P := P) (lf := lf) (n := n + 1) (s := s) W hl h8
  have ve : v = unite tb own := Nat.eq_of_testBit_eq fun y => by
    rw [bv y, unite_bit, Bool.eq_iff_iff, decide_eq_true_eq, List.mem_flatMap, List.any_eq_true]
    constructor
    · rintro ⟨a, h1, h2⟩
      exact ⟨a, h1, (mem8_iff.mp h2).2⟩
    · rintro ⟨a, h1, h2⟩
      exact ⟨a, h1, mem8_iff.mpr ⟨ht.lt a y h2, h2⟩⟩
  subst ve
  simp (implicitDefEqProofs := false) [e2, ev]
end
/-! ### for the laws' own rows -/
theorem evSs_app {P : Pm} {G : Nat → List T → Sto → R Ow} {lf : Nat} : ∀ (a b : List TW.S) (env : TW.Env) (s : Sto), evSs P G lf (a ++ b) env s = (evSs P G lf a env s).seq fun env' s' => evSs P G lf b env' s'
  | [], b, env, s => rfl
  | x :: a, b, env, s => by
    rw [List.cons_append, xss_cons, xss_cons]
    cases h : evS P G lf x env s with
    | nx env' s' => rw [seq_nx, seq_nx]; exact evSs_app a b env' s'
    | _ => rfl
def plainB (ps : List Pg) (hs : List Hy) : Bool := !ps.isEmpty && oks ps && decide (hgts ps ≤ 25) && decide (sizes ps ≤ 200) && decide (((flats ps).filter Pg.isAct).length ≤ 24) && decide (hs.length ≤ 5) && hs.all Hy.okB
theorem plain_of {ps : List Pg} {hs : List Hy} (h : plainB ps hs = true) : PlainOk ps ∧ hs.length ≤ 5 ∧ ∀ h ∈ hs, h.okB = true := by
  unfold plainB at h
  simp only [Bool.and_eq_true, decide_eq_true_eq, Bool.not_eq_true', List.isEmpty_eq_false_iff, List.all_eq_true] at h
  obtain ⟨⟨⟨⟨⟨⟨h1, h2⟩, h3⟩, h4⟩, h5⟩, h6⟩, h7⟩ := h
  exact ⟨⟨h1, h2, h3, h4, h5⟩, h6, h7⟩
/-- the laws' own dicts have pairs for keys, no constant is a pair -/
theorem pairs_ok {ky : List (List Key)} (h : ∀ k ∈ ky, 2 ≠ k.length) (a b : Int) : (!(ky.contains [.inl a, .inl b])) = true := by
  rw [contains_len ky (q := [.inl a, .inl b]) h]
  rfl
@[simp] theorem opCmp_isB (P : Pm) (st : Sto) (x : T) (b : Bool) : opCmp P st .isN x (.bl b) = some (x.isBl b) := rfl
@[simp] theorem opCmp_notB (P : Pm) (st : Sto) (x : T) (b : Bool) : opCmp P st .notN x (.bl b) = some (!x.isBl b) := rfl
@[simp] theorem isBl_bl (b c : Bool) : (T.bl c).isBl b = (c == b) := rfl
@[simp] theorem eqO_bl (st : Sto) (a b : Bool) : eqO st (.bl a) (.bl b) = some (decide (a = b)) := by
  rw [eqO_of (okT_bl _ _) (okT_bl _ _) rfl rfl, eqT_bl]
end Tw

set_option Elab.async false
set_option linter.all false
set_option maxRecDepth 100000
set_option maxHeartbeats 4000000
/-! TwQ: chains. -/
namespace Tw
open PySem L2 TW
structure LibQ (Γ : List TW.Fn) (x : Ix) : Prop where
  fits_chain : Γ[x.f_fits_chain]? = some (cc_fits_chain x)
  takes_chain : Γ[x.f_takes_chain]? = some (cc_takes_chain x)
  joined : Γ[x.f_joined]? = some (cc_joined x)
/-- an int within bounds, of any value -/
def wholeB (lo hi : Int) : T → Bool
  | .int v => decide (lo ≤ v) && decide (v ≤ hi)
  | _ => false
section
variable {P : Pm} {Γ : List TW.Fn} {lf n : Nat} {x : Ix} {s r : Sto} (A : LibA Γ x) (B : LibB Γ x) (C : LibC Γ x) (D : LibD Γ x) (E : LibE Γ x) (Q : LibQ Γ x)
/-- what may be looked at: a plain value -/
def tKn : T → Bool
  | .non | .bl _ | .int _ | .str _ | .tup _ | .lst _ => true
  | _ => false
theorem whole_any (h : Γ[x.f_is_whole]? = some (cc_is_whole x)) (t : T) (ht : tKn t = true) (lo hi : Int) : run P Γ lf (n + 1) x.f_is_whole [t, .int lo, .int hi] s = .ok (.val (.bl (wholeB lo hi t))) s := by
  cases t with
  | int v => exact is_whole_ev h v lo hi
  | non => rw [run_at h rfl]; rfl
  | bl b => rw [run_at h rfl]; rfl
  | str w => rw [run_at h rfl]; rfl
  | tup ts => rw [run_at h rfl]; rfl
  | lst ts => rw [run_at h rfl]; rfl
  | _ => cases ht
/-- not a tuple -/
def tNt : T → Bool
  | .non | .bl _ | .int _ | .str _ | .lst _ => true
  | _ => false
theorem tuple_not (h : Γ[x.f_is_tuple_of]? = some (cc_is_tuple_of x)) (t : T) (ht : tNt t = true) (lo hi : Int) : run P Γ lf (n + 1) x.f_is_tuple_of [t, .int lo, .int hi] s = .ok (.val (.bl false)) s := by
  rw [run_at h rfl]
  cases t <;> first | rfl | cases ht
include A C in
theorem left_not (t : T) (ht : tNt t = true) (high many : Nat) (hh : 0 < high) : run P Γ lf (n + 2) x.f_left_of [t, .int high, .int many] s = .ok (.val (.int (-1))) s := by
  rw [run_at C.left_of rfl]
  have e1 := tuple_not (P := P) (lf := lf) (n := n) (s := s) A.is_tuple_of t ht 1 many
  have h0 : ¬ (high = 0) := by omega
  simp (implicitDefEqProofs := false) [cc_left_of, startE_def, opd, h0, e1]
include A C D in
theorem plain_not (t : T) (ht : tNt t = true) : run P Γ lf (n + 30) x.f_fits_plain [t] s = .ok (.val (.bl false)) s := by
  rw [run_at D.fits_plain rfl]
  have e1 : run P Γ lf (n + 29) x.f_left_of [t, .int 40, .int 200] s = .ok (.val (.int (-1))) s := left_not (n := n + 27) A C t ht 40 200 (by decide)
  simp (implicitDefEqProofs := false) [cc_fits_plain, startE_def, opd, e1]
/-! ### the items of a chain -/
def El (P : Pm) (Γ : List TW.Fn) (lf n : Nat) (x : Ix) (i : Nat) (t : T) (k : Bool) : Prop :=
  ∀ s, if i % 2 = 0 then run P Γ lf (n + 30) x.f_is_whole [t, .int 0, .int 255] s = .ok (.val (.bl k)) s else run P Γ lf (n + 30) x.f_fits_plain [t] s = .ok (.val (.bl k)) s
def Els (P : Pm) (Γ : List TW.Fn) (lf n : Nat) (x : Ix) : Nat → List (T × Bool) → Prop
  | _, [] => True
  | i, p :: q => El P Γ lf n x i p.1 p.2 ∧ Els P Γ lf n x (i + 1) q
theorem els_get : ∀ {i : Nat} {q : List (T × Bool)}, Els P Γ lf n x i q → ∀ p ∈ q.zipIdx i, El P Γ lf n x p.2 p.1.1 p.1.2
  | _, [], _, p, h => by simp at h
  | i, z :: q, h, p, hp => by
    rw [List.zipIdx_cons] at hp
    rcases List.mem_cons.mp hp with rfl | hp
    · exact h.1
    · exact els_get h.2 p hp
theorem enum_pairs : ∀ (q : List (T × Bool)) (k : Nat), enumT k (q.map (·.1)) = (q.zipIdx k).map fun p => T.tup [.int (p.2 : Int), p.1.1]
  | [], _ => rfl
  | p :: q, k => by
    rw [List.map_cons, enumT, enum_pairs q (k + 1), List.zipIdx_cons, List.map_cons]
theorem odd_int (m : Nat) : decide (((m : Nat) : Int) % 2 = 0) = decide (m % 2 = 0) := by
  congr 1
  apply propext
  omega
include A Q in
theorem fits_chain_ev (q : List (T × Bool)) (h1 : 1 ≤ q.length) (h2 : q.length ≤ 17) (ho : q.length % 2 = 1) (hE : Els P Γ lf n x 0 q) : run P Γ lf (n + 31) x.f_fits_chain [.tup (q.map (·.1))] s = .ok (.val (.bl (q.all (·.2)))) s := by
  rw [run_at Q.fits_chain rfl]
  have e1 : run P Γ lf (n + 30) x.f_is_tuple_of [.tup (q.map (·.1)), .int 1, .int 17] s = .ok (.val (.bl true)) s := by
    have := is_tuple_ev (P := P) (lf := lf) (n := n + 29) (s := s) A.is_tuple_of (q.map (·.1)) 1 17
    rw [this, List.length_map, decide_eq_true (by omega), decide_eq_true (by omega)]
    rfl
  have e2 : intOp .mod (q.length : Int) 2 = some ((q.length : Int) % 2) := mod2 _
  have e3 : ¬ ((q.length : Int) % 2 = 0) := by omega
  simp (implicitDefEqProofs := false) [cc_fits_chain, startE_def, opd, e1, e2, e3, enum_pairs]
  rw [lcGo_map (h := fun p => T.bl p.1.2) (fun p hp => by
    have he := els_get hE p hp s
    obtain ⟨⟨t, k⟩, i⟩ := p
    have m : intOp .mod (i : Int) 2 = some ((i : Int) % 2) := mod2 _
    have o := odd_int i
    simp only at he
    by_cases hi : i % 2 = 0
    · rw [if_pos hi] at he
      have hi2 : ((i : Int) % 2 = 0) := by omega
      simp (implicitDefEqProofs := false) [opd, m, hi2, he]
    · rw [if_neg hi] at he
      have hi2 : ¬ ((i : Int) % 2 = 0) := by omega
      simp (implicitDefEqProofs := false) [opd, m, hi2, he]) (by simp; omega)]
  have e4 : ∀ (q : List (T × Bool)) (k : Nat), ((q.zipIdx k).all fun p => p.1.2) = q.all (·.2) := by
    intro q
    induction q with
    | nil => intro k; rfl
    | cons p q ih => intro k; rw [List.zipIdx_cons, List.all_cons, List.all_cons, ih]
  simp (implicitDefEqProofs := false) [b_all, e4]
include A Q in
/-- not fit at once -/
theorem fits_chain_even (ts : List T) (he : ts.length % 2 = 0) : run P Γ lf (n + 31) x.f_fits_chain [.tup ts] s = .ok (.val (.bl false)) s := by
  rw [run_at Q.fits_chain rfl]
  have e1 : run P Γ lf (n + 30) x.f_is_tuple_of [.tup ts, .int 1, .int 17] s = _ := is_tuple_ev (P := P) (lf := lf) (n := n + 29) (s := s) A.is_tuple_of ts 1 17
  have e2 : intOp .mod (ts.length : Int) 2 = some ((ts.length : Int) % 2) := mod2 _
  have e3 : ((ts.length : Int) % 2 = 0) := by omega
  generalize (decide (1 ≤ (ts.length : Int)) && decide ((ts.length : Int) ≤ 17)) = k at e1
  cases k <;> simp (implicitDefEqProofs := false) [cc_fits_chain, startE_def, opd, e1, e2, e3]
include A Q in
theorem fits_chain_not (t : T) (ht : tNt t = true) : run P Γ lf (n + 31) x.f_fits_chain [t] s = .ok (.val (.bl false)) s := by
  rw [run_at Q.fits_chain rfl]
  have e1 : run P Γ lf (n + 30) x.f_is_tuple_of [t, .int 1, .int 17] s = .ok (.val (.bl false)) s := tuple_not (n := n + 29) A.is_tuple_of t ht 1 17
  simp (implicitDefEqProofs := false) [cc_fits_chain, startE_def, opd, e1]
/-! ### a good chain -/
def chT (a : Nat) : List (List Pg × Nat) → List (T × Bool)
  | [] => [(nT a, true)]
  | (p, b) :: r => (nT a, true) :: (tupP p, true) :: chT b r
def chOk (hs : List Hy) (a : Nat) : List (List Pg × Nat) → Bool
  | [] => true
  | (p, b) :: r => wthn (unite (tabB hs p same) a) b && chOk hs b r
theorem chT_len : ∀ (r : List (List Pg × Nat)) (a : Nat), (chT a r).length = 2 * r.length + 1
  | [], a => rfl
  | (p, b) :: r, a => by rw [chT, List.length_cons, List.length_cons, chT_len r b, List.length_cons]; omega
theorem chT_all : ∀ (r : List (List Pg × Nat)) (a : Nat), (chT a r).all (·.2) = true
  | [], a => rfl
  | (p, b) :: r, a => by rw [chT, List.all_cons, List.all_cons, chT_all r b]; rfl
include A C D in
theorem chT_els : ∀ (r : List (List Pg × Nat)) (a i : Nat), i % 2 = 0 → a < 256 → (∀ q ∈ r, PlainOk q.1 ∧ q.2 < 256) → Els P Γ lf n x i (chT a r)
  | [], a, i, hi, ha, _ => ⟨fun s => by
      rw [if_pos hi]
      have := whole_any (P := P) (lf := lf) (n := n + 29) (s := s) A.is_whole (nT a) rfl 0 255
      rw [this]
      have : wholeB 0 255 (nT a) = true := by simp [wholeB, nT]; omega
      rw [this], trivial⟩
  | (p, b) :: r, a, i, hi, ha, hr => ⟨fun s => by
      rw [if_pos hi]
      have := whole_any (P := P) (lf := lf) (n := n + 29) (s := s) A.is_whole (nT a) rfl 0 255
      rw [this]
      have : wholeB 0 255 (nT a) = true := by simp [wholeB, nT]; omega
      rw [this], fun s => by
      rw [if_neg (by omega)]
      exact fits_plain_ev A C D (hr (p, b) List.mem_cons_self).1, chT_els r b (i + 2) (by omega) (hr (p, b) List.mem_cons_self).2 fun q hq => hr q (List.mem_cons_of_mem _ hq)⟩
theorem chT_at : ∀ (r : List (List Pg × Nat)) (a m : Nat) (p : List Pg) (b : Nat), r[m]? = some (p, b) → ∃ a', ((chT a r).map (·.1))[2 * m]? = some (nT a') ∧ ((chT a r).map (·.1))[2 * m + 1]? = some (tupP p) ∧ ((chT a r).map (·.1))[2 * m + 2]? = some (nT b)
  | [], a, m, p, b, h => by simp at h
  | (p0, b0) :: r, a, 0, p, b, h => by
    simp at h
    obtain ⟨rfl, rfl⟩ := h
    refine ⟨a, rfl, rfl, ?_⟩
    cases r with
    | nil => rfl
    | cons q r => obtain ⟨q1, q2⟩ := q; rfl
  | (p0, b0) :: r, a, m + 1, p, b, h => by
    have h : r[m]? = some (p, b) := h
    obtain ⟨a', h1, h2, h3⟩ := chT_at r b0 m p b h
    refine ⟨a', ?_, ?_, ?_⟩
    · rw [chT, show 2 * (m + 1) = 2 * m + 1 + 1 by omega]; exact h1
    · rw [chT, show 2 * (m + 1) + 1 = 2 * m + 1 + 1 + 1 by omega]; exact h2
    · rw [chT, show 2 * (m + 1) + 2 = 2 * m + 2 + 1 + 1 by omega]; exact h3
/-- the set ahead of the m-th program -/
def chA (a : Nat) (r : List (List Pg × Nat)) : Nat → Nat
  | 0 => a
  | m + 1 => (r.getD m ([], 0)).2
theorem chT_set : ∀ (r : List (List Pg × Nat)) (a m : Nat), m < r.length → ((chT a r).map (·.1))[2 * m]? = some (nT (chA a r m))
  | [], a, m, h => by simp at h
  | (p, b) :: r, a, 0, _ => rfl
  | (p, b) :: r, a, m + 1, h => by
    rw [chT, show 2 * (m + 1) = 2 * m + 1 + 1 by omega]
    have := chT_set r b m (by simpa using h)
    show ((chT b r).map (·.1))[2 * m]? = _
    rw [this]
    cases m with
    | zero => rfl
    | succ m => rfl
theorem chOk_all (hs : List Hy) : ∀ (r : List (List Pg × Nat)) (a : Nat), chOk hs a r = (List.range r.length).all fun m => wthn (unite (tabB hs (r.getD m ([], 0)).1 same) (chA a r m)) (r.getD m ([], 0)).2
  | [], a => rfl
  | (p, b) :: r, a => by
    rw [chOk, chOk_all hs r b, List.length_cons, List.range_succ_eq_map, List.all_cons, List.all_map]
    congr 1
    congr 1
    funext m
    cases m with
    | zero => rfl
    | succ m => rfl
def oddT (m : Nat) : T := .int ((2 * m + 1 : Nat) : Int)
theorem rng_odd : ∀ k, k ≤ 8 → okC 1 ((2 * k + 1 : Nat) : Int) 2 = true ∧ rngC 1 ((2 * k + 1 : Nat) : Int) 2 = (List.range k).map oddT := by
  intro k hk
  have h1 : ∀ k ≤ 8, okC 1 ((2 * k + 1 : Nat) : Int) 2 = true := by decide +kernel
  have h2 : ∀ k ≤ 8, (Builtin.Range.rangeSize 1 ((2 * k + 1 : Nat) : Int) 2).toNat = k := by decide +kernel
  refine ⟨h1 k hk, ?_⟩
  unfold rngC
  rw [h2 k hk]
  apply List.map_congr_left
  intro m _
  unfold oddT
  congr 1
  omega
include A B C D E Q in
theorem takes_chain_ev (hlf : 64 < lf) {hs : List Hy} (hl : hs.length ≤ 5) (ho : ∀ h ∈ hs, h.okB = true) {a : Nat} {r : List (List Pg × Nat)} (ha : a < 256) (hr : ∀ q ∈ r, PlainOk q.1 ∧ q.2 < 256) (h8 : r.length ≤ 8) :
    run P Γ lf (n + 61) x.f_takes_chain [hT hs, .tup ((chT a r).map (·.1))] s = .ok (.val (.bl (chOk hs a r))) s := by
  rw [run_at Q.takes_chain rfl]
  have e1 : run P Γ lf (n + 60) x.f_need_hypotheses [hT hs] s = .ok (.val .non) s := need_hyps_ev (n := n + 56) A D hs hl ho
  have e2 : run P Γ lf (n + 60) x.f_fits_chain [.tup ((chT a r).map (·.1))] s = .ok (.val (.bl true)) s := by
    have := fits_chain_ev (P := P) (lf := lf) (n := n + 29) (s := s) A Q (chT a r) (by rw [chT_len]; omega) (by rw [chT_len]; omega) (by rw [chT_len]; omega) (chT_els A C D r a 0 rfl ha hr)
    rw [chT_all] at this
    exact this
  obtain ⟨k1, k2⟩ := rng_odd r.length h8
  have tl : ((chT a r).map (·.1)).length = 2 * r.length + 1 := by rw [List.length_map, chT_len]
  have e3 : bltT s .len (.tup ((chT a r).map (·.1))) = some (.val (.int ((2 * r.length + 1 : Nat) : Int))) := by rw [b_lenT, tl]
  rw [chOk_all]
  have hset := chT_set r a
  have hat := chT_at r a
  generalize (chT a r).map (·.1) = v at *
  generalize ((2 * r.length + 1 : Nat) : Int) = L at k1 k2 e3
  simp (implicitDefEqProofs := false) [cc_takes_chain, startE_def, opd, e1, e2, e3, k1, k2]
  rw [lcGo_map (h := fun m => T.bl (wthn (unite (tabB hs (r.getD m ([], 0)).1 same) (chA a r m)) (r.getD m ([], 0)).2)) (fun m hm => by
    have hm := List.mem_range.mp hm
    have g : r[m]? = some (r.getD m ([], 0)) := by rw [List.getD_eq_getElem?_getD, List.getElem?_eq_getElem hm]; rfl
    obtain ⟨hq1, hq2⟩ := hr (r.getD m ([], 0)) (List.mem_of_getElem? g)
    obtain ⟨a', _, f2, f3⟩ := hat m (r.getD m ([], 0)).1 (r.getD m ([], 0)).2 g
    have f1 := hset m hm
    have i0 : atI v (((2 * m + 1 : Nat) : Int) - 1) = some (nT (chA a r m)) := by
      rw [show (((2 * m + 1 : Nat) : Int) - 1) = ((2 * m : Nat) : Int) by omega]
      exact atI_at f1
    have i1 : atI v ((2 * m + 1 : Nat) : Int) = some (tupP (r.getD m ([], 0)).1) := atI_at f2
    have i2 : atI v (((2 * m + 1 : Nat) : Int) + 1) = some (nT (r.getD m ([], 0)).2) := by
      rw [show (((2 * m + 1 : Nat) : Int) + 1) = ((2 * m + 2 : Nat) : Int) by omega]
      exact atI_at f3
    have lb := leads_by_ev (P := P) (lf := lf) (n := n) (s := s) A B E hlf hq1.hgt hl (ahead := chA a r m) hq2
    have hM : oddT m = .int ((2 * m + 1 : Nat) : Int) := rfl
    generalize r.getD m ([], 0) = z at *
    generalize ((2 * m + 1 : Nat) : Int) = M at *
    rw [hM]
    simp (implicitDefEqProofs := false) [opd, i0, i1, i2, lb]) (by simp; omega)]
  simp (implicitDefEqProofs := false) [b_all]
include A D Q in
theorem takes_chain_no {hs : List Hy} (hl : hs.length ≤ 5) (ho : ∀ h ∈ hs, h.okB = true) {t : T} (ht : run P Γ lf (n + 60) x.f_fits_chain [t] s = .ok (.val (.bl false)) s) : run P Γ lf (n + 61) x.f_takes_chain [hT hs, t] s = .ok (.val (.bl false)) s := by
  rw [run_at Q.takes_chain rfl]
  have e1 : run P Γ lf (n + 60) x.f_need_hypotheses [hT hs] s = .ok (.val .non) s := need_hyps_ev (n := n + 56) A D hs hl ho
  simp (implicitDefEqProofs := false) [cc_takes_chain, startE_def, opd, e1, ht]
/-! ### joined -/
theorem oks_app : ∀ p q : List Pg, oks (p ++ q) = (oks p && oks q)
  | [], q => rfl
  | a :: p, q => by rw [List.cons_append, oks, oks, oks_app p q, Bool.and_assoc]
theorem hgts_app : ∀ p q : List Pg, hgts (p ++ q) = max (hgts p) (hgts q)
  | [], q => by rw [hgts]; simp
  | a :: p, q => by rw [List.cons_append, hgts, hgts, hgts_app p q, Nat.max_assoc]
theorem sizes_app : ∀ p q : List Pg, sizes (p ++ q) = sizes p + sizes q
  | [], q => by rw [sizes]; simp
  | a :: p, q => by rw [List.cons_append, sizes, sizes, sizes_app p q, Nat.add_assoc]
theorem flats_app (p q : List Pg) : flats (p ++ q) = flats p ++ flats q := by rw [flats_eq, flats_eq, flats_eq, List.flatMap_append]
def actN (p : List Pg) : Nat := ((flats p).filter Pg.isAct).length
theorem actN_app (p q : List Pg) : actN (p ++ q) = actN p + actN q := by unfold actN; rw [flats_app, List.filter_append, List.length_append]
theorem plain_app {p q : List Pg} (hp : PlainOk p) (hq : PlainOk q) (h1 : sizes p + sizes q ≤ 200) (h2 : actN p + actN q ≤ 24) : PlainOk (p ++ q) :=
  ⟨by simp [hp.ne], by rw [oks_app, hp.ok, hq.ok]; rfl, by rw [hgts_app]; have := hp.hgt; have := hq.hgt; omega, by rw [sizes_app]; exact h1, by have := actN_app p q; unfold actN at this h2; omega⟩
include A C D Q in
theorem joined_ev {p q : List Pg} (hp : PlainOk p) (hq : PlainOk q) (h1 : sizes p + sizes q ≤ 200) (h2 : actN p + actN q ≤ 24) : run P Γ lf (n + 32) x.f_joined [tupP p, tupP q] s = .ok (.val (tupP (p ++ q))) s := by
  rw [run_at Q.joined rfl]
  have hpq := plain_app hp hq h1 h2
  have e1 := need_plain_ev (P := P) (lf := lf) (n := n) (s := s) A C D hp
  have e2 := need_plain_ev (P := P) (lf := lf) (n := n) (s := s) A C D hq
  have lp := len_sizes p
  have lq := len_sizes q
  have et : ∀ st : Sto, opBin st .add (tupP p) (tupP q) = some (.val (tupP (p ++ q))) := fun st => by
    unfold tupP
    rw [pgT_map, pgT_map, pgT_map, opBin_addT]
    simp [fits]
    omega
  have e3 : run P Γ lf (n + 31) x.f_actions_in [tupP (p ++ q)] s = .ok (.own (.lst (((flats (p ++ q)).filter Pg.isAct).map fun p => nT p.num))) s := actions_ev (P := P) (lf := lf) (n := n + 3) (s := s) A C 25 (p ++ q) hpq.hgt (by have := hpq.size; omega) hpq.ok
  have e4 : run P Γ lf (n + 31) x.f_steps_in [tupP (p ++ q)] s = .ok (.own (.lst ((flats (p ++ q)).map Pg.t))) s := steps_ev (P := P) (lf := lf) C 25 (n + 4) (p ++ q) hpq.hgt (by have := hpq.size; omega) hpq.ok s
  have k1 : ¬ ((24 : Int) < (((flats (p ++ q)).filter Pg.isAct).length : Int)) := by have := hpq.acts; omega
  have k2 : ¬ ((200 : Int) < ((flats (p ++ q)).length : Int)) := by have := hpq.size; rw [flats_len]; omega
  simp (implicitDefEqProofs := false) [cc_joined, startE_def, opd, e1, e2, et, e3, e4, k1, k2]
end
/-- the table of a program behind another one -/
theorem tab_app (hs : List Hy) (p q : List Pg) : tabB hs (p ++ q) same = (tabB hs p same).map (unite (tabB hs q same)) := by
  have t1 := tabB_tab hs p same tab_same
  have t2 := tabB_tab hs q same tab_same
  refine tab_ext (tabB_tab hs _ same tab_same) (tab_map t2 t1) fun x hx y => ?_
  rw [Bool.eq_iff_iff]
  show Dn hs (p ++ q) x y ↔ _
  rw [Dn_app hx, mapU_iff t2 t1 hx]
  exact Iff.rfl
theorem unite_app (hs : List Hy) (p q : List Pg) (a : Nat) : unite (tabB hs (p ++ q) same) a = unite (tabB hs q same) (unite (tabB hs p same) a) := by
  have t1 := tabB_tab hs p same tab_same
  have t2 := tabB_tab hs q same tab_same
  apply Nat.eq_of_testBit_eq
  intro y
  rw [tab_app, Bool.eq_iff_iff, unite_bit, unite_bit, List.any_eq_true, List.any_eq_true]
  constructor
  · rintro ⟨x, hx, h⟩
    obtain ⟨z, hz, h1, h2⟩ := (mapU_iff t2 t1 (mem8_iff.mp hx).1 y).mp h
    refine ⟨z, mem8_iff.mpr ⟨hz, ?_⟩, h2⟩
    rw [unite_bit, List.any_eq_true]
    exact ⟨x, hx, h1⟩
  · rintro ⟨z, hz, h2⟩
    obtain ⟨hz1, hz2⟩ := mem8_iff.mp hz
    rw [unite_bit, List.any_eq_true] at hz2
    obtain ⟨x, hx, h1⟩ := hz2
    exact ⟨x, hx, (mapU_iff t2 t1 (mem8_iff.mp hx).1 y).mpr ⟨z, hz1, h1, h2⟩⟩
/-! ### how many acts -/
def Pg.an (p : Pg) : Nat := (p.flat.filter Pg.isAct).length
theorem actN_nil : actN [] = 0 := by simp [actN, flats]
theorem actN_cons (p : Pg) (ps : List Pg) : actN (p :: ps) = p.an + actN ps := by
  unfold actN Pg.an
  rw [flats, List.filter_append, List.length_append]
theorem rep_acts {stp : Cup → Pg × Cup} {z : Nat} (hs : ∀ c, (stp c).1.an ≤ z) : ∀ (k : Nat) (c : Cup), actN (rep stp k c).1 ≤ k * z
  | 0, c => by rw [rep, actN_nil]; omega
  | k + 1, c => by
    rw [rep, actN_cons, Nat.succ_mul]
    have h1 := hs c
    have h2 := rep_acts hs k (stp c).2
    omega
theorem an_ite (w : Nat) (p q : List Pg) : (Pg.ite w p q).an = actN p + actN q := by
  unfold Pg.an actN
  rw [Pg.flat, List.filter_cons_of_neg (by simp [Pg.isAct]), List.filter_append, List.length_append]
theorem an_whl (w : Nat) (p : List Pg) : (Pg.whl w p).an = actN p := by
  unfold Pg.an actN
  rw [Pg.flat, List.filter_cons_of_neg (by simp [Pg.isAct])]
theorem step_acts {blk : Cup → List Pg × Cup} {z : Nat} {zero : Bool} (h1 : 1 ≤ z) (hz : zero = false → ∀ c, actN (blk c).1 ≤ z) (c : Cup) : (stepF blk zero c).1.an ≤ (if zero = true then 1 else 2 * z) := by
  have a1 : ∀ v, (act v).an = 1 := fun v => by simp only [act, Pg.an, Pg.flat]; rw [List.filter_cons_of_pos rfl]; rfl
  have up : (1 : Nat) ≤ (if zero = true then 1 else 2 * z) := by split <;> omega
  unfold stepF
  split
  · rw [a1]; exact up
  split
  · simp [Pg.an, Pg.flat, Pg.isAct]
  split
  · simp [Pg.an, Pg.flat, Pg.isAct]
  split
  · simp [Pg.an, Pg.flat, Pg.isAct]
  split
  · rename_i hzero
    subst hzero
    rw [a1]; exact Nat.le_refl _
  · rename_i hzero
    have hzf : zero = false := by cases zero <;> simp at hzero ⊢
    subst hzf
    try simp only [Bool.false_eq_true, if_false]
    split
    · rw [an_ite]
      have b1 := hz rfl (setF (if (rollI c 12).1 = 7 then (rollI (rollI c 12).2 3).2 else (rollI c 12).2)).2
      have b2 := hz rfl (blk (setF (if (rollI c 12).1 = 7 then (rollI (rollI c 12).2 3).2 else (rollI c 12).2)).2).2
      omega
    · rw [an_whl]
      have b1 := hz rfl (setF (rollI c 12).2).2
      omega
theorem block_acts : ∀ (d : Nat) (c : Cup), actN (blockF d c).1 ≤ 2 * 4 ^ d
  | 0, c => by
    have l := roll_lt c (m := 2) (by decide)
    have := rep_acts (z := 1) (fun c => step_acts (blk := fun c => ([], c)) (z := 1) (zero := true) (by decide) (fun q => by cases q) c) (1 + (rollI c 2).1).toNat (rollI c 2).2
    unfold blockF
    omega
  | d + 1, c => by
    have l := roll_lt c (m := 2) (by decide)
    have hp : 1 ≤ 2 * 4 ^ d := by have := Nat.pow_pos (n := d) (show 0 < 4 by decide); omega
    have := rep_acts (z := 2 * (2 * 4 ^ d)) (fun c => step_acts (blk := blockF d) (z := 2 * 4 ^ d) (zero := false) hp (fun _ c => block_acts d c) c) (1 + (rollI c 2).1).toNat (rollI c 2).2
    unfold blockF
    have h2 : (1 + (rollI c 2).1).toNat ≤ 2 := by omega
    have := Nat.le_trans this (Nat.mul_le_mul_right _ h2)
    rw [Nat.pow_succ]
    omega
theorem drawn_bnd (c : Cup) : sizes (drawnF c 8).1 ≤ 60 ∧ actN (drawnF c 8).1 ≤ 8 := by
  unfold drawnF
  split
  · have b0 := block_drw 1 (blockF 1 (blockF 2 c).2).2
    have h1 := b0.size
    have h2 := block_acts 1 (blockF 1 (blockF 2 c).2).2
    have : bnd 1 = 10 := rfl
    exact ⟨by omega, by omega⟩
  · rename_i h
    have b2 := (block_drw 2 c).size
    have b1 := (block_drw 1 (blockF 2 c).2).size
    have e2 : bnd 2 = 42 := rfl
    have e1 : bnd 1 = 10 := rfl
    refine ⟨by rw [sizes_app]; omega, ?_⟩
    have : nAct ((blockF 2 c).1 ++ (blockF 1 (blockF 2 c).2).1) = actN ((blockF 2 c).1 ++ (blockF 1 (blockF 2 c).2).1) := rfl
    show actN ((blockF 2 c).1 ++ (blockF 1 (blockF 2 c).2).1) ≤ 8
    omega
/-! ### == of programs -/
mutual
theorem eqT_pg : ∀ p : Pg, eqT p.t p.t = true
  | .skip => by simp [Pg.t, eqT_tup]
  | .abort => by simp [Pg.t, eqT_tup]
  | .act a => by simp [Pg.t, eqT_tup, eqT_nT]
  | .asr a => by simp [Pg.t, eqT_tup, eqT_nT]
  | .ite w p q => by simp [Pg.t, eqT_tup, eqT_nT, eqTs_pgs p, eqTs_pgs q]
  | .whl w p => by simp [Pg.t, eqT_tup, eqT_nT, eqTs_pgs p]
theorem eqTs_pgs : ∀ ps : List Pg, eqTs (pgT ps) (pgT ps) = true
  | [] => by simp [pgT]
  | p :: ps => by simp [pgT, eqT_pg p, eqTs_pgs ps]
end
theorem eqO_pgs (st : Sto) {p : List Pg} (h : hgts p ≤ 30) : eqO st (tupP p) (tupP p) = some true := by
  unfold tupP
  rw [eqO_of ((okT_pgs p).mono (by omega)) ((okT_pgs p).mono (by omega)) rfl rfl, eqT_tup, eqTs_pgs]
/-- the last of a list -/
theorem atI_last {α : Type} (l : List α) (a : α) : atI (l ++ [a]) (-1) = some a := by
  unfold atI ixN
  rw [if_neg (by omega), if_pos (by simp; omega)]
  have : ((-1 : Int) + ((l ++ [a]).length : Nat)).toNat = l.length := by simp; omega
  rw [this]
  simp
end Tw

set_option Elab.async false
set_option linter.all false
set_option maxRecDepth 100000
set_option maxHeartbeats 4000000
/-! TwR: the library's rows and points, in plain words. -/
namespace Tw
open PySem L2 TW
structure Rw where
  w : Str
  d : Nat
  ins : Int
  oth : Int
  aft : Int
def Rw.t (r : Rw) : T := .tup [.str r.w, .int (r.d : Int), .int r.ins, .int r.oth, .int r.aft]
mutual
def Pg.lay : Pg → Int → Int → List Rw
  | .skip, _, a => [⟨"skip", 0, -1, -1, a⟩]
  | .abort, _, a => [⟨"abort", 0, -1, -1, a⟩]
  | .act b, _, a => [⟨"do", b, -1, -1, a⟩]
  | .asr s, _, a => [⟨"assert", s, -1, -1, a⟩]
  | .ite s p q, k, a => ⟨"if", s, k + 1, k + 1 + (sizes p : Nat), a⟩ :: (layF p (k + 1) a ++ layF q (k + 1 + (sizes p : Nat)) a)
  | .whl s p, k, a => ⟨"while", s, k + 1, -1, a⟩ :: layF p (k + 1) (-2 - k)
def layF : List Pg → Int → Int → List Rw
  | [], _, _ => []
  | p :: ps, k, b => p.lay k (if ps.isEmpty = true then b else k + (p.size : Nat)) ++ layF ps (k + (p.size : Nat)) b
end
mutual
theorem lay_len : ∀ (p : Pg) (k a : Int), (p.lay k a).length = p.size
  | .skip, k, a => by simp [Pg.lay, Pg.size]
  | .abort, k, a => by simp [Pg.lay, Pg.size]
  | .act _, k, a => by simp [Pg.lay, Pg.size]
  | .asr _, k, a => by simp [Pg.lay, Pg.size]
  | .ite s p q, k, a => by
    have h1 := layF_len p (k + 1) a
    have h2 := layF_len q (k + 1 + (sizes p : Nat)) a
    simp [Pg.lay, Pg.size, h1, h2]; omega
  | .whl s p, k, a => by
    have h1 := layF_len p (k + 1) (-2 - k)
    simp [Pg.lay, Pg.size, h1]; omega
theorem layF_len : ∀ (ps : List Pg) (k b : Int), (layF ps k b).length = sizes ps
  | [], k, b => by simp [layF, sizes]
  | p :: ps, k, b => by
    have h1 := lay_len p k (if ps.isEmpty = true then b else k + (p.size : Nat))
    have h2 := layF_len ps (k + (p.size : Nat)) b
    rw [layF, sizes, List.length_append, h1, h2]
end
/-! ### points -/
/-- what is left to do at a point, N the places of the program in order -/
def contP (N : List (List Lp)) (p : Int) : List Lp := if p = -1 then [] else if 0 ≤ p then N.getD p.toNat [] else N.getD (-2 - p).toNat []
def Vp (N : List (List Lp)) (p : Int) : Prop := p = -1 ∨ (0 ≤ p ∧ p < N.length) ∨ (p ≤ -2 ∧ -2 - p < N.length)
/-- a row tells a place -/
def RowAt (N : List (List Lp)) (r : Rw) : List Lp → Prop
  | [] => False
  | .skip :: t => r.w = "skip" ∧ Vp N r.aft ∧ contP N r.aft = t
  | .abort :: _ => r.w = "abort"
  | .act b _ :: t => r.w = "do" ∧ r.d = b ∧ Vp N r.aft ∧ contP N r.aft = t
  | .asr s :: t => r.w = "assert" ∧ r.d = s ∧ Vp N r.aft ∧ contP N r.aft = t
  | .ite s p q :: t => r.w = "if" ∧ r.d = s ∧ (Vp N r.ins ∧ contP N r.ins = p ++ t) ∧ (Vp N r.oth ∧ contP N r.oth = q ++ t)
  | .whl s p :: t => r.w = "while" ∧ r.d = s ∧ (Vp N r.ins ∧ contP N r.ins = p ++ .whl s p :: t) ∧ (Vp N r.aft ∧ contP N r.aft = t)
/-- the rows from k on tell the places from k on -/
def RowsAt (N : List (List Lp)) (k : Nat) (rs : List Rw) (cs : List (List Lp)) : Prop := rs.length = cs.length ∧ ∀ (i : Nat) (r : Rw) (c : List Lp), rs[i]? = some r → cs[i]? = some c → RowAt N r c
theorem RowsAt.app {N : List (List Lp)} {k k2 : Nat} {r1 r2 : List Rw} {c1 c2 : List (List Lp)} (h1 : RowsAt N k r1 c1) (h2 : RowsAt N k2 r2 c2) : RowsAt N k (r1 ++ r2) (c1 ++ c2) := by
  refine ⟨by simp [h1.1, h2.1], fun i r c hr hc => ?_⟩
  by_cases hi : i < r1.length
  · rw [List.getElem?_append_left hi] at hr
    rw [List.getElem?_append_left (by rw [← h1.1]; exact hi)] at hc
    exact h1.2 i r c hr hc
  · rw [List.getElem?_append_right (by omega)] at hr
    rw [List.getElem?_append_right (by rw [← h1.1]; omega), ← h1.1] at hc
    exact h2.2 _ r c hr hc
theorem RowsAt.cons {N : List (List Lp)} {k k2 : Nat} {r : Rw} {c : List Lp} {r2 : List Rw} {c2 : List (List Lp)} (h1 : RowAt N r c) (h2 : RowsAt N k2 r2 c2) : RowsAt N k (r :: r2) (c :: c2) := by
  refine ⟨by simp [h2.1], fun i r' c' hr hc => ?_⟩
  cases i with
  | zero => simp at hr hc; subst hr hc; exact h1
  | succ i => exact h2.2 i r' c' (by simpa using hr) (by simpa using hc)
/-- the places from k on -/
def Seg (N : List (List Lp)) (k : Nat) (cs : List (List Lp)) : Prop := ∀ i c, cs[i]? = some c → N[k + i]? = some c
theorem Seg.left {N : List (List Lp)} {k : Nat} {a b : List (List Lp)} (h : Seg N k (a ++ b)) : Seg N k a := fun i c hc => h i c (by rw [List.getElem?_append_left (List.getElem?_eq_some_iff.mp hc).1]; exact hc)
theorem Seg.right {N : List (List Lp)} {k : Nat} {a b : List (List Lp)} (h : Seg N k (a ++ b)) : Seg N (k + a.length) b := fun i c hc => by
  rw [show k + a.length + i = k + (a.length + i) by omega]
  exact h _ c (by rw [List.getElem?_append_right (by omega), show a.length + i - a.length = i by omega]; exact hc)
theorem Seg.tail {N : List (List Lp)} {k : Nat} {a : List Lp} {b : List (List Lp)} (h : Seg N k (a :: b)) : Seg N (k + 1) b := Seg.right (a := [a]) h
theorem Seg.head {N : List (List Lp)} {k : Nat} {a : List Lp} {b : List (List Lp)} (h : Seg N k (a :: b)) : N[k]? = some a := by
  have := h 0 a rfl
  simpa using this
theorem at_nat {N : List (List Lp)} {k : Nat} {c : List Lp} (h : N[k]? = some c) : Vp N ((k : Nat) : Int) ∧ contP N ((k : Nat) : Int) = c := by
  have hl := (List.getElem?_eq_some_iff.mp h).1
  refine ⟨.inr (.inl ⟨by omega, by omega⟩), ?_⟩
  unfold contP
  rw [if_neg (by omega), if_pos (by omega), List.getD_eq_getElem?_getD, Int.toNat_natCast, h]
  rfl
theorem at_back {N : List (List Lp)} {k : Nat} {c : List Lp} (h : N[k]? = some c) : Vp N (-2 - (k : Int)) ∧ contP N (-2 - (k : Int)) = c := by
  have hl := (List.getElem?_eq_some_iff.mp h).1
  refine ⟨.inr (.inr ⟨by omega, by omega⟩), ?_⟩
  unfold contP
  rw [if_neg (by omega), if_neg (by omega), List.getD_eq_getElem?_getD, show (-2 - (-2 - (k : Int))).toNat = k by omega, h]
  rfl
theorem allC_head {ps : List Lp} (h : ps ≠ []) (r : List Lp) : ∃ l, allC ps r = (ps ++ r) :: l := by
  cases ps with
  | nil => exact absurd rfl h
  | cons p ps => exact ⟨_, by rw [allC]; rfl⟩
theorem labs_ne {ps : List Pg} (h : ps ≠ []) (k : Nat) : labs ps k ≠ [] := by
  cases ps with
  | nil => exact absurd rfl h
  | cons p ps => rw [labs]; simp
mutual
theorem lay_ok {N : List (List Lp)} : ∀ (p : Pg) (l k : Nat) (a : Int) (t : List Lp), p.ok = true → Seg N k ((p.lab l :: t) :: (p.lab l).inn t) → Vp N a → contP N a = t → RowsAt N k (p.lay (k : Int) a) ((p.lab l :: t) :: (p.lab l).inn t)
  | .skip, l, k, a, t, _, hs, hv, hc => by
    rw [Pg.lay, Pg.lab, Lp.inn]
    exact RowsAt.cons (k2 := k) ⟨rfl, hv, hc⟩ ⟨rfl, fun i r c h => by simp at h⟩
  | .abort, l, k, a, t, _, hs, hv, hc => by
    rw [Pg.lay, Pg.lab, Lp.inn]
    exact RowsAt.cons (k2 := k) rfl ⟨rfl, fun i r c h => by simp at h⟩
  | .act b, l, k, a, t, _, hs, hv, hc => by
    rw [Pg.lay, Pg.lab, Lp.inn]
    exact RowsAt.cons (k2 := k) ⟨rfl, rfl, hv, hc⟩ ⟨rfl, fun i r c h => by simp at h⟩
  | .asr s, l, k, a, t, _, hs, hv, hc => by
    rw [Pg.lay, Pg.lab, Lp.inn]
    exact RowsAt.cons (k2 := k) ⟨rfl, rfl, hv, hc⟩ ⟨rfl, fun i r c h => by simp at h⟩
  | .ite s p q, l, k, a, t, ho, hs, hv, hc => by
    simp only [Pg.ok, Bool.and_eq_true, Bool.not_eq_true', List.isEmpty_eq_false_iff] at ho
    obtain ⟨_, ⟨⟨op, oq⟩, np⟩, nq⟩ := ho
    rw [Pg.lab] at hs ⊢
    rw [Lp.inn] at hs ⊢
    rw [Pg.lay]
    have s1 := hs.tail
    have s2 := s1.left
    have s3 := s1.right
    have pl : (allC (labs p l) t).length = sizes p := by rw [allC_len, (labs_facts p l).2]
    rw [pl] at s3
    have r1 := layF_ok p l (k + 1) a t op s2 hv hc
    have r2 := layF_ok q (l + (actsOf p).length) (k + 1 + sizes p) a t oq s3 hv hc
    have c1 : ((k + 1 : Nat) : Int) = (k : Int) + 1 := by omega
    have c2 : ((k + 1 + sizes p : Nat) : Int) = (k : Int) + 1 + (sizes p : Nat) := by omega
    have a1 := fun (c : List Lp) (h : N[k + 1]? = some c) => at_nat h
    have a2 := fun (c : List Lp) (h : N[k + 1 + sizes p]? = some c) => at_nat h
    rw [c1] at r1 a1
    rw [c2] at r2 a2
    obtain ⟨z1, e1⟩ := allC_head (labs_ne np l) t
    obtain ⟨z2, e2⟩ := allC_head (labs_ne nq (l + (actsOf p).length)) t
    rw [e1] at s2
    rw [e2] at s3
    exact RowsAt.cons (k2 := k + 1) ⟨rfl, rfl, a1 _ s2.head, a2 _ s3.head⟩ (r1.app r2)
  | .whl s p, l, k, a, t, ho, hs, hv, hc => by
    simp only [Pg.ok, Bool.and_eq_true, Bool.not_eq_true', List.isEmpty_eq_false_iff] at ho
    obtain ⟨_, op, np⟩ := ho
    rw [Pg.lab] at hs ⊢
    rw [Lp.inn] at hs ⊢
    rw [Pg.lay]
    have b := at_back hs.head
    have s1 := hs.tail
    have r1 := layF_ok p l (k + 1) (-2 - (k : Int)) (.whl s (labs p l) :: t) op s1 b.1 b.2
    have c1 : ((k + 1 : Nat) : Int) = (k : Int) + 1 := by omega
    have a1 := fun (c : List Lp) (h : N[k + 1]? = some c) => at_nat h
    rw [c1] at r1 a1
    obtain ⟨z1, e1⟩ := allC_head (labs_ne np l) (.whl s (labs p l) :: t)
    rw [e1] at s1
    exact RowsAt.cons (k2 := k + 1) ⟨rfl, rfl, a1 _ s1.head, hv, hc⟩ r1
theorem layF_ok {N : List (List Lp)} : ∀ (ps : List Pg) (l k : Nat) (b : Int) (r : List Lp), oks ps = true → Seg N k (allC (labs ps l) r) → Vp N b → contP N b = r → RowsAt N k (layF ps (k : Int) b) (allC (labs ps l) r)
  | [], l, k, b, r, _, _, _, _ => by
    rw [layF, labs, allC]
    exact ⟨rfl, fun i r c h => by simp at h⟩
  | p :: ps, l, k, b, r, ho, hs, hv, hc => by
    rw [oks, Bool.and_eq_true] at ho
    rw [labs, allC] at hs ⊢
    rw [layF]
    have e : ∀ (x : List Lp) (y z : List (List Lp)), x :: (y ++ z) = (x :: y) ++ z := fun _ _ _ => rfl
    rw [e] at hs ⊢
    have s1 := hs.left
    have s2 := hs.right
    have il : ((p.lab l :: (labs ps (l + p.acts.length) ++ r)) :: (p.lab l).inn (labs ps (l + p.acts.length) ++ r)).length = p.size := by
      have := inn_len (p.lab l) (labs ps (l + p.acts.length) ++ r)
      rw [(lab_facts p l).2] at this
      rw [List.length_cons]
      exact this
    rw [il] at s2
    have c1 : ((k + p.size : Nat) : Int) = (k : Int) + (p.size : Nat) := by omega
    have ha : Vp N (if ps.isEmpty = true then b else (k : Int) + (p.size : Nat)) ∧ contP N (if ps.isEmpty = true then b else (k : Int) + (p.size : Nat)) = labs ps (l + p.acts.length) ++ r := by
      cases ps with
      | nil => exact ⟨hv, by rw [labs]; exact hc⟩
      | cons q qs =>
        obtain ⟨z1, e1⟩ := allC_head (labs_ne (ps := q :: qs) (by simp) (l + p.acts.length)) r
        rw [e1] at s2
        rw [← c1]
        exact at_nat s2.head
    have r2 := layF_ok ps (l + p.acts.length) (k + p.size) b r ho.2 s2 hv hc
    rw [c1] at r2
    exact (lay_ok p l k _ _ ho.1 s1 ha.1 ha.2).app r2
end
/-! ### labels by counting -/
def isDo (r : Rw) : Bool := decide (r.w = "do")
def cntDo (rs : List Rw) : Nat := (rs.filter isDo).length
theorem cntDo_app (a b : List Rw) : cntDo (a ++ b) = cntDo a + cntDo b := by unfold cntDo; rw [List.filter_append, List.length_append]
theorem cntDo_cons (r : Rw) (a : List Rw) : cntDo (r :: a) = (if r.w = "do" then 1 else 0) + cntDo a := by
  unfold cntDo
  by_cases h : r.w = "do"
  · rw [List.filter_cons_of_pos (by simp [isDo, h]), if_pos h, List.length_cons]; omega
  · rw [List.filter_cons_of_neg (by simp [isDo, h]), if_neg h]; omega
mutual
theorem lay_cnt : ∀ (p : Pg) (k a : Int), cntDo (p.lay k a) = p.acts.length
  | .skip, k, a => by rw [Pg.lay, cntDo_cons]; simp [cntDo, Pg.acts]
  | .abort, k, a => by rw [Pg.lay, cntDo_cons]; simp [cntDo, Pg.acts]
  | .act _, k, a => by rw [Pg.lay, cntDo_cons]; simp [cntDo, Pg.acts]
  | .asr s, k, a => by rw [Pg.lay, cntDo_cons]; simp [cntDo, Pg.acts]
  | .ite s p q, k, a => by rw [Pg.lay, cntDo_cons, cntDo_app, layF_cnt p, layF_cnt q, Pg.acts]; simp
  | .whl s p, k, a => by rw [Pg.lay, cntDo_cons, layF_cnt p, Pg.acts]; simp
theorem layF_cnt : ∀ (ps : List Pg) (k b : Int), cntDo (layF ps k b) = (actsOf ps).length
  | [], k, b => by rw [layF, actsOf]; rfl
  | p :: ps, k, b => by rw [layF, cntDo_app, lay_cnt p, layF_cnt ps, actsOf, List.length_append]
end
mutual
theorem lay_label {b l : Nat} {u : List Lp} : ∀ (p : Pg) (l0 : Nat) (k a : Int) (t : List Lp) (i : Nat), ((p.lab l0 :: t) :: (p.lab l0).inn t)[i]? = some (.act b l :: u) → l = l0 + cntDo ((p.lay k a).take (i + 1))
  | .skip, l0, k, a, t, i, h => by
    rw [Pg.lab, Lp.inn] at h
    cases i with
    | zero => simp at h
    | succ i => simp at h
  | .abort, l0, k, a, t, i, h => by
    rw [Pg.lab, Lp.inn] at h
    cases i with
    | zero => simp at h
    | succ i => simp at h
  | .act c, l0, k, a, t, i, h => by
    rw [Pg.lab, Lp.inn] at h
    cases i with
    | zero =>
      simp at h
      rw [Pg.lay, List.take_succ_cons, cntDo_cons, if_pos rfl]
      simp [cntDo]
      omega
    | succ i => simp at h
  | .asr s, l0, k, a, t, i, h => by
    rw [Pg.lab, Lp.inn] at h
    cases i with
    | zero => simp at h
    | succ i => simp at h
  | .ite s p q, l0, k, a, t, i, h => by
    rw [Pg.lab, Lp.inn] at h
    cases i with
    | zero => simp at h
    | succ i =>
      have h : (allC (labs p l0) t ++ allC (labs q (l0 + (actsOf p).length)) t)[i]? = some (.act b l :: u) := by simpa using h
      rw [Pg.lay, List.take_succ_cons, cntDo_cons, if_neg (by simp), List.take_append, cntDo_app]
      have pl : (allC (labs p l0) t).length = sizes p := by rw [allC_len, (labs_facts p l0).2]
      have ll := layF_len p (k + 1) a
      by_cases hi : i < sizes p
      · rw [List.getElem?_append_left (by rw [pl]; exact hi)] at h
        have e := layF_label p l0 (k + 1) a t i h
        have z : (layF q (k + 1 + (sizes p : Nat)) a).take (i + 1 - (layF p (k + 1) a).length) = [] := by rw [ll, show i + 1 - sizes p = 0 by omega]; rfl
        rw [z]
        show l = l0 + (0 + (cntDo _ + 0))
        omega
      · rw [List.getElem?_append_right (by rw [pl]; omega), pl] at h
        have e := layF_label q (l0 + (actsOf p).length) (k + 1 + (sizes p : Nat)) a t (i - sizes p) h
        have z : (layF p (k + 1) a).take (i + 1) = layF p (k + 1) a := List.take_of_length_le (by rw [ll]; omega)
        rw [z, layF_cnt, ll, show i + 1 - sizes p = i - sizes p + 1 by omega]
        omega
  | .whl s p, l0, k, a, t, i, h => by
    rw [Pg.lab, Lp.inn] at h
    cases i with
    | zero => simp at h
    | succ i =>
      have h : (allC (labs p l0) (.whl s (labs p l0) :: t))[i]? = some (.act b l :: u) := by simpa using h
      rw [Pg.lay, List.take_succ_cons, cntDo_cons, if_neg (by simp)]
      have e := layF_label p l0 (k + 1) (-2 - k) _ i h
      omega
theorem layF_label {b l : Nat} {u : List Lp} : ∀ (ps : List Pg) (l0 : Nat) (k a : Int) (r : List Lp) (i : Nat), (allC (labs ps l0) r)[i]? = some (.act b l :: u) → l = l0 + cntDo ((layF ps k a).take (i + 1))
  | [], l0, k, a, r, i, h => by simp [labs, allC] at h
  | p :: ps, l0, k, a, r, i, h => by
    rw [labs, allC] at h
    have e : ∀ (x : List Lp) (y z : List (List Lp)), x :: (y ++ z) = (x :: y) ++ z := fun _ _ _ => rfl
    rw [e] at h
    have il : ((p.lab l0 :: (labs ps (l0 + p.acts.length) ++ r)) :: (p.lab l0).inn (labs ps (l0 + p.acts.length) ++ r)).length = p.size := by
      have := inn_len (p.lab l0) (labs ps (l0 + p.acts.length) ++ r)
      rw [(lab_facts p l0).2] at this
      rw [List.length_cons]
      exact this
    rw [layF, List.take_append, cntDo_app]
    generalize (if ps.isEmpty = true then a else k + (p.size : Nat)) = af
    have ll := lay_len p k af
    by_cases hi : i < p.size
    · rw [List.getElem?_append_left (by rw [il]; exact hi)] at h
      have e := lay_label p l0 k af _ i h
      have z : (layF ps (k + (p.size : Nat)) a).take (i + 1 - (p.lay k af).length) = [] := by rw [ll, show i + 1 - p.size = 0 by omega]; rfl
      rw [z]
      show l = l0 + (cntDo _ + 0)
      omega
    · rw [List.getElem?_append_right (by rw [il]; omega), il] at h
      have e := layF_label ps (l0 + p.acts.length) (k + (p.size : Nat)) a r (i - p.size) h
      have z : (p.lay k af).take (i + 1) = p.lay k af := List.take_of_length_le (by rw [ll]; omega)
      rw [z, lay_cnt, ll, show i + 1 - p.size = i - p.size + 1 by omega]
      omega
end
/-! ### the rows of a program -/
def rowsF (ps : List Pg) : List Rw := layF ps 0 (-1)
theorem rows_len (ps : List Pg) : (rowsF ps).length = sizes ps := layF_len ps 0 (-1)
theorem plcs_len (ps : List Pg) : (plcs ps).length = sizes ps := by unfold plcs; rw [allC_len, (labs_facts ps 0).2]
theorem rows_at {ps : List Pg} (h : oks ps = true) {i : Nat} (hi : i < sizes ps) : ∃ r c, (rowsF ps)[i]? = some r ∧ (plcs ps)[i]? = some c ∧ RowAt (plcs ps) r c := by
  have ok := layF_ok (N := plcs ps) ps 0 0 (-1) [] h (fun i c hc => by rw [Nat.zero_add]; exact hc) (.inl rfl) rfl
  have l1 : i < (rowsF ps).length := by rw [rows_len]; exact hi
  have l2 : i < (plcs ps).length := by rw [plcs_len]; exact hi
  have h1 : (rowsF ps)[i]? = some (rowsF ps)[i] := List.getElem?_eq_getElem l1
  have h2 : (plcs ps)[i]? = some (plcs ps)[i] := List.getElem?_eq_getElem l2
  exact ⟨_, _, h1, h2, ok.2 i _ _ h1 h2⟩
/-- the label of an act's row: how many acts up to it -/
theorem label_cnt {ps : List Pg} {i b l : Nat} {u : List Lp} (h : (plcs ps)[i]? = some (.act b l :: u)) : l = cntDo ((rowsF ps).take (i + 1)) := by
  have := layF_label ps 0 0 (-1) [] i h
  rw [Nat.zero_add] at this
  exact this
/-- the next point -/
def nextP (r : Rw) (a : Nat) : Int := if (r.w = "if" ∨ r.w = "while") ∧ r.d.testBit a = true then r.ins else if r.w = "if" then r.oth else r.aft
def stuckR (r : Rw) (a : Nat) : Prop := r.w = "abort" ∨ r.w = "assert" ∧ r.d.testBit a = false
/-- a row's step is the place's step -/
theorem row_eps {N : List (List Lp)} {r : Rw} {c : List Lp} (h : RowAt N r c) (a : Nat) : (r.w = "do" ∧ ∃ b l u, c = .act b l :: u ∧ r.d = b ∧ Vp N r.aft ∧ contP N r.aft = u) ∨ (r.w ≠ "do" ∧ stuckR r a ∧ eps a c = none ∧ c ≠ [] ∧ ∀ b l u, c ≠ .act b l :: u) ∨
    (r.w ≠ "do" ∧ ¬ stuckR r a ∧ Vp N (nextP r a) ∧ eps a c = some (contP N (nextP r a))) := by
  cases c with
  | nil => exact h.elim
  | cons p t =>
    cases p with
    | skip =>
      obtain ⟨hw, h1, h2⟩ := h
      right; right
      have : nextP r a = r.aft := by simp [nextP, hw]
      rw [this]
      exact ⟨by simp [hw], by simp [stuckR, hw], h1, by rw [h2]; rfl⟩
    | abort =>
      have hw : r.w = "abort" := h
      right; left
      exact ⟨by simp [hw], .inl hw, rfl, by simp, by simp⟩
    | act b l =>
      obtain ⟨hw, hd, h1, h2⟩ := h
      exact .inl ⟨hw, b, l, t, rfl, hd, h1, h2⟩
    | asr w =>
      obtain ⟨hw, hd, h1, h2⟩ := h
      cases hb : w.testBit a with
      | true =>
        right; right
        have : nextP r a = r.aft := by simp [nextP, hw]
        rw [this]
        exact ⟨by simp [hw], by simp [stuckR, hw, hd, hb], h1, by simp [eps, hb, h2]⟩
      | false =>
        right; left
        exact ⟨by simp [hw], .inr ⟨hw, by rw [hd]; exact hb⟩, by simp [eps, hb], by simp, by simp⟩
    | ite w p q =>
      obtain ⟨hw, hd, ⟨h1, h2⟩, h3, h4⟩ := h
      right; right
      cases hb : w.testBit a with
      | true =>
        have : nextP r a = r.ins := by simp [nextP, hw, hd, hb]
        rw [this]
        exact ⟨by simp [hw], by simp [stuckR, hw], h1, by simp [eps, hb, h2]⟩
      | false =>
        have : nextP r a = r.oth := by simp [nextP, hw, hd, hb]
        rw [this]
        exact ⟨by simp [hw], by simp [stuckR, hw], h3, by simp [eps, hb, h4]⟩
    | whl w p =>
      obtain ⟨hw, hd, ⟨h1, h2⟩, h3, h4⟩ := h
      right; right
      cases hb : w.testBit a with
      | true =>
        have : nextP r a = r.ins := by simp [nextP, hw, hd, hb]
        rw [this]
        exact ⟨by simp [hw], by simp [stuckR, hw], h1, by simp [eps, hb, h2]⟩
      | false =>
        have : nextP r a = r.aft := by simp [nextP, hw, hd, hb]
        rw [this]
        exact ⟨by simp [hw], by simp [stuckR, hw], h3, by simp [eps, hb, h4]⟩
end Tw

set_option Elab.async false
set_option linter.all false
set_option maxRecDepth 100000
set_option maxHeartbeats 4000000
/-! TwS: the library's rows are evaluated. -/
namespace Tw
open PySem L2 TW
def layG : List Pg → Int → Int → Nat → List Rw
  | _, _, _, 0 => []
  | [], _, _, _ => []
  | p :: ps, k, b, i + 1 => p.lay k (if ps.isEmpty = true then b else k + (p.size : Nat)) ++ layG ps (k + (p.size : Nat)) b i
theorem layG_all : ∀ (ps : List Pg) (k b : Int), layG ps k b ps.length = layF ps k b
  | [], k, b => by rw [layF]; rfl
  | p :: ps, k, b => by rw [List.length_cons, layG, layF, layG_all ps]
theorem layG_succ : ∀ (ps : List Pg) (k b : Int) (i : Nat) (p : Pg), ps[i]? = some p → layG ps k b (i + 1) = layG ps k b i ++ p.lay (k + ((layG ps k b i).length : Nat)) (if i + 1 = ps.length then b else k + ((layG ps k b i).length : Nat) + (p.size : Nat))
  | [], k, b, i, p, h => by simp at h
  | q :: ps, k, b, 0, p, h => by
    simp at h
    subst h
    cases ps with
    | nil => simp [layG]
    | cons r rs => simp [layG]
  | q :: ps, k, b, i + 1, p, h => by
    have h : ps[i]? = some p := h
    have e := layG_succ ps (k + (q.size : Nat)) b i p h
    rw [layG, e, layG]
    have l := lay_len q k (if ps.isEmpty = true then b else k + (q.size : Nat))
    have z : k + ((q.lay k (if ps.isEmpty = true then b else k + (q.size : Nat)) ++ layG ps (k + (q.size : Nat)) b i).length : Nat) = k + (q.size : Nat) + ((layG ps (k + (q.size : Nat)) b i).length : Nat) := by
      rw [List.length_append, l]; omega
    rw [z, List.append_assoc, List.length_cons]
    congr 2
    by_cases hi : i + 1 = ps.length
    · rw [if_pos hi, if_pos (by omega)]
    · rw [if_neg hi, if_neg (by omega)]
theorem layG_len (ps : List Pg) (k b : Int) (i : Nat) : (layG ps k b i).length ≤ sizes ps := by
  induction ps generalizing k i with
  | nil => cases i <;> simp [layG]
  | cons p ps ih =>
    cases i with
    | zero => simp [layG]
    | succ i =>
      rw [layG, List.length_append, lay_len, sizes]
      have := ih (k + (p.size : Nat)) i
      omega
theorem enum_pg : ∀ (ps : List Pg) (k : Nat), enumT k (ps.map Pg.t) = (ps.zipIdx k).map fun q => T.tup [.int (q.2 : Int), q.1.t]
  | [], _ => rfl
  | p :: ps, k => by
    rw [List.map_cons, enumT, enum_pg ps (k + 1)]
    rfl
structure LibR (Γ : List TW.Fn) (x : Ix) : Prop where
  laid : Γ[x.f_laid]? = some (cc_laid x)
  rows_of : Γ[x.f_rows_of]? = some (cc_rows_of x)
  next_point : Γ[x.f_next_point]? = some (cc_next_point x)
  gone : Γ[x.f_gone]? = some (cc_gone x)
  points_of : Γ[x.f_points_of]? = some (cc_points_of x)
  go_from : Γ[x.f_go_from]? = some (cc_go_from x)
  goes_in : Γ[x.f_goes_in]? = some (cc_goes_in x)
  goings_in : Γ[x.f_goings_in]? = some (cc_goings_in x)
  actions_in : Γ[x.f_actions_in_places]? = some (cc_actions_in_places x)
section
variable {P : Pm} {Γ : List TW.Fn} {lf n : Nat} {x : Ix} {s r : Sto} (A : LibA Γ x) (C : LibC Γ x) (L : LibR Γ x)
def rwL (rs : List Rw) : List T := rs.map Rw.t
theorem rwL_app (a b : List Rw) : rwL (a ++ b) = rwL a ++ rwL b := List.map_append
theorem rwL_len (a : List Rw) : (rwL a).length = a.length := List.length_map _
def laidBody (x : Ix) : List TW.S := match (cc_laid x).body with
  | [_, .for_ _ _ _ bd, _] => bd
  | _ => []
include C L
theorem laid_core (M : Nat) (hM : M = n + 27) (ps : List Pg) (hg : hgts ps ≤ 25) (hz : sizes ps ≤ 100000) (hok : oks ps = true) (k b : Int)
    (hb : ∀ p ∈ ps, ∀ q ∈ p.subs, ∀ (k b : Int) (s : Sto), run P Γ lf M x.f_laid [tupP q, .int k, .int b] s = .ok (.own (.lst (rwL (layF q k b)))) s) (s : Sto) :
    run P Γ lf (M + 1) x.f_laid [tupP ps, .int k, .int b] s = .ok (.own (.lst (rwL (layF ps k b)))) s := by
  subst hM
  rw [run_at L.laid rfl]
  have e3 : (tupP ps).itr? = some (ps.map Pg.t) := by rw [← pgT_map]; rfl
  have el : bltT s .len (tupP ps) = some (.val (.int (ps.length : Int))) := by
    unfold tupP
    rw [b_lenT, pgT_map, List.length_map]
  have key := forGo_inv (b := fun t env s => match (Tg.tp [4, 5]).put env t with
      | some env' => evSs P (run P Γ lf (n + 27)) lf (laidBody x) env' s
      | none => .bad) (g := fun q : Pg × Nat => T.tup [.int (q.2 : Int), q.1.t])
    (I := fun i env s' => s' = s ∧ ∃ j4 j5 j6 j7 j8, env = [.val (tupP ps), .val (.int k), .val (.int b), .own (.lst (rwL (layG ps k b i))), j4, j5, j6, j7, j8]) (l := ps.zipIdx) (k := 0)
    (env := [.val (tupP ps), .val (.int k), .val (.int b), .own (.lst []), .no, .no, .no, .no, .no]) (s := s) (fun i q hq env s' hI => by
      obtain ⟨p, i'⟩ := q
      rw [List.getElem?_zipIdx] at hq
      obtain ⟨p', hp', e⟩ := Option.map_eq_some_iff.mp hq
      simp only [Nat.zero_add, Prod.mk.injEq] at e
      obtain ⟨e1, e2⟩ := e
      subst e1 e2
      simp only [Nat.zero_add] at hI ⊢
      obtain ⟨es, j4, j5, j6, j7, j8, ee⟩ := hI
      subst es ee
      have hpm := List.mem_of_getElem? hp'
      have hi := (List.getElem?_eq_some_iff.mp hp').1
      have hpo := oks_mem hok hpm
      have hgl := layG_len ps k b i
      have hps : p'.size ≤ sizes ps := by rw [sizes_map]; exact sum_mem (List.mem_map.mpr ⟨p', hpm, rfl⟩)
      have st : run P Γ lf (n + 27) x.f_steps_in [.tup [p'.t]] s' = .ok (.own (.lst ((flats [p']).map Pg.t))) s' := steps_ev C 25 n [p'] (by rw [hgts, hgts]; have := hgts_mem hpm; omega) (by rw [sizes, sizes]; omega) (by rw [oks, hpo]; rfl) s'
      have fl : (flats [p']).length = p'.size := by rw [flats_len, sizes, sizes]; omega
      have bl1 : ∀ st, bltT st .len (.lst ((flats [p']).map Pg.t)) = some (.val (.int (p'.size : Int))) := fun st => by rw [b_lenL, List.length_map, fl]
      have bl2 : ∀ st, bltT st .len (.lst (rwL (layG ps k b i))) = some (.val (.int ((layG ps k b i).length : Int))) := fun st => by rw [b_lenL, rwL_len]
      have sc := layG_succ ps k b i p' hp'
      generalize (flats [p']).map Pg.t = F at st bl1
      have hlen : (rwL (layG ps k b i)).length ≤ 100000 := by rw [rwL_len]; omega
      generalize hh : k + ((layG ps k b i).length : Int) = h0 at sc
      have haf : (if ((i : Int) < (ps.length : Int) - 1) then (h0 + (p'.size : Int)) else b) = (if i + 1 = ps.length then b else h0 + (p'.size : Int)) := by
        by_cases h1 : i + 1 = ps.length
        · rw [if_pos h1, if_neg (by omega)]
        · rw [if_neg h1, if_pos (by omega)]
      generalize hA : (if i + 1 = ps.length then b else h0 + (p'.size : Int)) = af at sc haf
      rw [sc, rwL_app]
      generalize rwL (layG ps k b i) = R0 at bl2 hlen ⊢
      generalize ((layG ps k b i).length : Int) = L0 at bl2 hh
      generalize tupP ps = PS at *
      generalize (ps.length : Int) = PL at *
      generalize (p'.size : Int) = SZ at *
      have hl2 : R0.length < 16777216 := by omega
      have two : ∀ (env : TW.Env) (u v : T), (Tg.tp [4, 5]).put env (.tup [u, v]) = some ((env.set 4 (.val u)).set 5 (.val v)) := fun _ _ _ => rfl
      have rest : ∀ (bd2 : List TW.S) (Q : List T) (z7 : Slot), (∀ z4 : Slot, ∃ z8, evSs P (run P Γ lf (n + 27)) lf bd2 [.val PS, .val (.int k), .val (.int b), .own (.lst R0), .val (.int (i : Int)), .val p'.t, .val (.int h0), .val (.int af), j8] s' = .nx [.val PS, .val (.int k), .val (.int b), .own (.lst (R0 ++ Q)), .val (.int (i : Int)), .val p'.t, .val (.int h0), .val (.int af), z8] s') →
          laidBody x = [.asg [] 6 (.bin .add (.pk 1) (.blt .len (.pk 3))), .asg [5, 2] 7 (.ifx (.cmp .lt (.pk 4) (.bin .sub (.blt .len (.pk 0)) (.con (.int 1)))) (.bin .add (.pk 6) (.blt .len (.call x.f_steps_in [.tup [.var 5]]))) (.var 2))] ++ bd2 →
          ∃ z8, evSs P (run P Γ lf (n + 27)) lf (laidBody x) [.val PS, .val (.int k), .val (.int b), .own (.lst R0), .val (.int (i : Int)), .val p'.t, j6, j7, j8] s' = .nx [.val PS, .val (.int k), .val (.int b), .own (.lst (R0 ++ Q)), .val (.int (i : Int)), .val p'.t, .val (.int h0), .val (.int af), z8] s' := by
        intro bd2 Q z7 hr hbd
        obtain ⟨z8, hr⟩ := hr z7
        refine ⟨z8, ?_⟩
        rw [hbd, evSs_app]
        have first : evSs P (run P Γ lf (n + 27)) lf [.asg [] 6 (.bin .add (.pk 1) (.blt .len (.pk 3))), .asg [5, 2] 7 (.ifx (.cmp .lt (.pk 4) (.bin .sub (.blt .len (.pk 0)) (.con (.int 1)))) (.bin .add (.pk 6) (.blt .len (.call x.f_steps_in [.tup [.var 5]]))) (.var 2))] [.val PS, .val (.int k), .val (.int b), .own (.lst R0), .val (.int (i : Int)), .val p'.t, j6, j7, j8] s' = .nx [.val PS, .val (.int k), .val (.int b), .own (.lst R0), .val (.int (i : Int)), .val p'.t, .val (.int h0), .val (.int af), j8] s' := by
          rw [← haf]
          by_cases hc : (i : Int) < PL - 1
          · simp (implicitDefEqProofs := false) [opd, fits, bl2, el, st, bl1, hh, hc]
          · simp (implicitDefEqProofs := false) [opd, fits, bl2, el, st, bl1, hh, hc]
        rw [first, seq_nx, hr]
      have body : ∃ bd2, laidBody x = [.asg [] 6 (.bin .add (.pk 1) (.blt .len (.pk 3))), .asg [5, 2] 7 (.ifx (.cmp .lt (.pk 4) (.bin .sub (.blt .len (.pk 0)) (.con (.int 1)))) (.bin .add (.pk 6) (.blt .len (.call x.f_steps_in [.tup [.var 5]]))) (.var 2))] ++ bd2 ∧ bd2 = (laidBody x).drop 2 := ⟨_, rfl, rfl⟩
      obtain ⟨bd2, hbd, hb2⟩ := body
      have main : ∃ z8, evSs P (run P Γ lf (n + 27)) lf bd2 [.val PS, .val (.int k), .val (.int b), .own (.lst R0), .val (.int (i : Int)), .val p'.t, .val (.int h0), .val (.int af), j8] s' = .nx [.val PS, .val (.int k), .val (.int b), .own (.lst (R0 ++ rwL (p'.lay h0 af))), .val (.int (i : Int)), .val p'.t, .val (.int h0), .val (.int af), z8] s' := by
        rw [hb2]
        have hsz : p'.size ≤ 100000 := by omega
        cases p' with
        | skip => exact ⟨j8, by simp (implicitDefEqProofs := false) [laidBody, cc_laid, Pg.t, opd, eqO_kw, fits, isL, chg, appO, hl2, Pg.lay, rwL, Rw.t]⟩
        | abort => exact ⟨j8, by simp (implicitDefEqProofs := false) [laidBody, cc_laid, Pg.t, opd, eqO_kw, fits, isL, chg, appO, hl2, Pg.lay, rwL, Rw.t]⟩
        | act c => exact ⟨j8, by simp (implicitDefEqProofs := false) [laidBody, cc_laid, Pg.t, opd, eqO_kw, fits, isL, chg, appO, hl2, Pg.lay, rwL, Rw.t, nT]⟩
        | asr c => exact ⟨j8, by simp (implicitDefEqProofs := false) [laidBody, cc_laid, Pg.t, opd, eqO_kw, fits, isL, chg, appO, hl2, Pg.lay, rwL, Rw.t, nT]⟩
        | ite w p1 p2 =>
          rw [Pg.size] at hsz
          have c1 := hb _ hpm p1 (by simp [Pg.subs]) (h0 + 1) af s'
          have c2 := hb _ hpm p2 (by simp [Pg.subs]) (h0 + 1 + (sizes p1 : Nat)) af s'
          have l1 : (rwL (layF p1 (h0 + 1) af)).length = sizes p1 := by rw [rwL_len, layF_len]
          have l2 : (rwL (layF p2 (h0 + 1 + (sizes p1 : Nat)) af)).length = sizes p2 := by rw [rwL_len, layF_len]
          have b8 : ∀ st, bltT st .len (.lst (rwL (layF p1 (h0 + 1) af))) = some (.val (.int (sizes p1 : Int))) := fun st => by rw [b_lenL, l1]
          refine ⟨.own (.lst (rwL (layF p1 (h0 + 1) af))), ?_⟩
          rw [show rwL ((Pg.ite w p1 p2).lay h0 af) = Rw.t ⟨"if", w, h0 + 1, h0 + 1 + (sizes p1 : Nat), af⟩ :: (rwL (layF p1 (h0 + 1) af) ++ rwL (layF p2 (h0 + 1 + (sizes p1 : Nat)) af)) by rw [Pg.lay, ← rwL_app]; rfl]
          generalize rwL (layF p1 (h0 + 1) af) = Q1 at *
          generalize rwL (layF p2 (h0 + 1 + (sizes p1 : Nat)) af) = Q2 at *
          generalize hz1 : ((sizes p1 : Nat) : Int) = z1 at *
          have f1 : R0.length + 1 + Q1.length ≤ 16777216 := by omega
          have f2 : R0.length + (1 + Q1.length) + Q2.length ≤ 16777216 := by omega
          have f3 : R0.length + (1 + (Q1.length + Q2.length)) ≤ 16777216 := by omega
          have f4 : R0.length + (Q1.length + 1) + Q2.length ≤ 16777216 := by omega
          simp (implicitDefEqProofs := false) [laidBody, cc_laid, Pg.t, opd, eqO_kw, fits, isL, chg, appO, hl2, tupP_t, c1, b8, c2, f1, f2, f3, f4, Rw.t, nT]
        | whl w p1 =>
          rw [Pg.size] at hsz
          have c1 := hb _ hpm p1 (by simp [Pg.subs]) (h0 + 1) (-2 - h0) s'
          have l1 : (rwL (layF p1 (h0 + 1) (-2 - h0))).length = sizes p1 := by rw [rwL_len, layF_len]
          refine ⟨j8, ?_⟩
          rw [show rwL ((Pg.whl w p1).lay h0 af) = Rw.t ⟨"while", w, h0 + 1, -1, af⟩ :: rwL (layF p1 (h0 + 1) (-2 - h0)) by rw [Pg.lay]; rfl]
          generalize rwL (layF p1 (h0 + 1) (-2 - h0)) = Q1 at *
          have f1 : R0.length + 1 + Q1.length ≤ 16777216 := by omega
          have f3 : R0.length + (1 + Q1.length) ≤ 16777216 := by omega
          have f4 : R0.length + (Q1.length + 1) ≤ 16777216 := by omega
          simp (implicitDefEqProofs := false) [laidBody, cc_laid, Pg.t, opd, eqO_kw, fits, isL, chg, appO, hl2, tupP_t, c1, f1, f3, f4, Rw.t, nT]
      obtain ⟨z8, hm⟩ := rest bd2 (rwL (p'.lay h0 af)) .no (fun _ => main) hbd
      exact ⟨_, s', hm, rfl, _, _, _, _, _, rfl⟩) ⟨rfl, .no, .no, .no, .no, .no, by cases ps <;> rfl⟩
  obtain ⟨env', s', h1, h2, j4, j5, j6, j7, j8, h3⟩ := key
  subst h2 h3
  rw [Nat.zero_add, List.length_zipIdx, layG_all] at h1
  have hc : cc_laid x = ⟨3, 9, [.asg [] 3 (.lst []), .for_ [0] (.tp [4, 5]) (.enum (.var 0)) (laidBody x), .retv 3]⟩ := rfl
  rw [hc]
  show (evSs P (run P Γ lf (n + 27)) lf [.asg [] 3 (.lst []), .for_ [0] (.tp [4, 5]) (.enum (.var 0)) (laidBody x), .retv 3] [.val (tupP ps), .val (.int k), .val (.int b), .no, .no, .no, .no, .no, .no] s').res = _
  have x1 : evS P (run P Γ lf (n + 27)) lf (.asg [] 3 (.lst [])) [.val (tupP ps), .val (.int k), .val (.int b), .no, .no, .no, .no, .no, .no] s' = .nx [.val (tupP ps), .val (.int k), .val (.int b), .own (.lst []), .no, .no, .no, .no, .no] s' := by simp [fits]
  have it : evI P (run P Γ lf (n + 27)) (frzE [.val (tupP ps), .val (.int k), .val (.int b), .own (.lst []), .no, .no, .no, .no, .no] [0]) (.enum (.var 0)) s' = .ok (ps.zipIdx.map fun q : Pg × Nat => T.tup [.int (q.2 : Int), q.1.t]) s' := by
    simp [opd, e3, enum_pg]
  have f0 : frzE [.val (tupP ps), .val (.int k), .val (.int b), .own (.lst []), .no, .no, .no, .no, .no] [0] = [.val (tupP ps), .val (.int k), .val (.int b), .own (.lst []), .no, .no, .no, .no, .no] := by simp
  rw [xss_cons, x1, seq_nx, xss_cons, xs_for, it, R_out_ok, f0]
  erw [h1]
  simp
theorem laid_ev : ∀ (m n : Nat) (ps : List Pg), hgts ps ≤ m → hgts ps ≤ 25 → sizes ps ≤ 100000 → oks ps = true → ∀ (k b : Int) (s : Sto), run P Γ lf (n + 28 + m) x.f_laid [tupP ps, .int k, .int b] s = .ok (.own (.lst (rwL (layF ps k b)))) s := by
  intro m
  induction m with
  | zero =>
    intro n ps h1 hg h2 h3 k b s
    refine laid_core C L (n := n) (n + 27) rfl ps hg h2 h3 k b (fun p hp q hq => ?_) s
    exfalso
    have h6 := (subs_facts p (oks_mem h3 hp)).1 q hq
    have h7 := hgts_mem hp
    omega
  | succ m ih =>
    intro n ps h1 hg h2 h3 k b s
    refine laid_core C L (n := n + 1 + m) (n + 28 + m) (by omega) ps hg h2 h3 k b (fun p hp q hq k b s => ?_) s
    obtain ⟨q1, q2, q3⟩ := (subs_facts p (oks_mem h3 hp)).1 q hq
    have h7 := hgts_mem hp
    refine ih n q (by omega) (by omega) ?_ q1 k b s
    have h8 := (subs_facts p (oks_mem h3 hp)).2
    have h9 : sizes q ≤ (p.subs.map sizes).sum := sum_mem (List.mem_map.mpr ⟨q, hq, rfl⟩)
    have h10 : p.size ≤ sizes ps := by rw [sizes_map]; exact sum_mem (List.mem_map.mpr ⟨p, hp, rfl⟩)
    omega
theorem rows_ev {ps : List Pg} (hg : hgts ps ≤ 25) (hz : sizes ps ≤ 100000) (hok : oks ps = true) : run P Γ lf (n + 54) x.f_rows_of [tupP ps] s = .ok (.own (.lst (rwL (rowsF ps)))) s := by
  rw [run_at L.rows_of rfl]
  have e : run P Γ lf (n + 53) x.f_laid [tupP ps, .int 0, .int (-1)] s = .ok (.own (.lst (rwL (layF ps 0 (-1))))) s := laid_ev C L 25 n ps hg hg hz hok 0 (-1) s
  simp (implicitDefEqProofs := false) [cc_rows_of, startE_def, e, rowsF]
omit C in
theorem next_ev (A : LibA Γ x) (r : Rw) (hr : r.w = "if" ∨ r.w = "while" ∨ r.w = "skip" ∨ r.w = "assert") (a : Nat) : run P Γ lf (n + 2) x.f_next_point [r.t, nT a] s = .ok (.val (.int (nextP r a))) s := by
  rw [run_at L.next_point rfl]
  have h := has_ev (P := P) (lf := lf) (n := n) (s := s) A.has r.d a
  obtain ⟨w, d, i, o, f⟩ := r
  simp only at hr h
  have h : run P Γ lf (n + 1) x.f_has [.int (d : Int), nT a] s = .ok (.val (.bl (d.testBit a))) s := h
  rcases hr with rfl | rfl | rfl | rfl <;> cases hb : d.testBit a <;> rw [hb] at h <;> simp (implicitDefEqProofs := false) [cc_next_point, startE_def, Rw.t, opd, fits, eqO_kw, h, nextP, hb]
end
end Tw

set_option Elab.async false
set_option linter.all false
set_option maxRecDepth 100000
set_option maxHeartbeats 4000000
/-! TwT: the library's goings. -/
namespace Tw
open PySem L2 TW
/-- an owned list, or one that is handed on -/
def lsl (o : Bool) (L : List T) : Slot := if o = true then .own (.lst L) else .val (.lst L)
@[simp] theorem lsl_t (L : List T) : lsl true L = .own (.lst L) := rfl
@[simp] theorem lsl_f (L : List T) : lsl false L = .val (.lst L) := rfl
@[simp] theorem frz1_lsl0 (o : Bool) (L : List T) (l : TW.Env) : frz1 (lsl o L :: l) 0 = .val (.lst L) :: l := by cases o <;> rfl
theorem seen_in {P : Pm} (s : Sto) (p : Int) (seen : List Int) : inT P s (.int p) (.dk (seen.map fun q => (Sum.inl q, T.bl true))) = some (decide (p ∈ seen)) := by
  show some ((seen.map fun q => ((Sum.inl q : Key), T.bl true)).any fun z => decide (z.1 = Sum.inl p)) = _
  congr 1
  rw [List.any_map, Bool.eq_iff_iff, List.any_eq_true, decide_eq_true_eq]
  constructor
  · rintro ⟨z, h1, h2⟩
    have h2 : decide ((Sum.inl z : Key) = Sum.inl p) = true := h2
    have := of_decide_eq_true h2
    cases this
    exact h1
  · intro h
    exact ⟨p, h, by show decide ((Sum.inl p : Key) = Sum.inl p) = true; simp⟩
theorem seen_put (p : Int) {seen : List Int} (h : p ∉ seen) : dPut (Sum.inl p : Key) (.bl true) (seen.map fun q => ((Sum.inl q : Key), T.bl true)) = (seen ++ [p]).map fun q => ((Sum.inl q : Key), T.bl true) := by
  unfold dPut
  rw [if_neg]
  · simp
  · rw [List.any_map, Bool.not_eq_true, List.any_eq_false]
    intro z hz
    show ¬ decide ((Sum.inl z : Key) = Sum.inl p) = true
    rw [decide_eq_true_eq]
    intro e
    cases e
    exact h hz
/-! ### the orbit -/
structure Pt (a : Nat) (N : List (List Lp)) (c0 : List Lp) (p : Int) (seen : List Int) : Prop where
  way : Ep a c0 (contP N p)
  v : Vp N p
  nd : seen.Nodup
  sv : ∀ q ∈ seen, Vp N q ∧ q ≠ -1
  via : ∀ q ∈ seen, ∃ d', eps a (contP N q) = some d' ∧ Ep a d' (contP N p) ∧ Ep a c0 (contP N q)
theorem pt_len {N : List (List Lp)} {seen : List Int} (nd : seen.Nodup) (sv : ∀ q ∈ seen, Vp N q ∧ q ≠ -1) : seen.length ≤ 2 * N.length := by
  have := nodup_len seen ((List.range N.length).map (fun i : Nat => (i : Int)) ++ (List.range N.length).map fun i : Nat => -2 - (i : Int)) nd fun q hq => by
    obtain ⟨h1, h2⟩ := sv q hq
    rw [List.mem_append]
    rcases h1 with h | ⟨h3, h4⟩ | ⟨h3, h4⟩
    · exact absurd h h2
    · exact .inl (List.mem_map.mpr ⟨q.toNat, List.mem_range.mpr (by omega), by omega⟩)
    · exact .inr (List.mem_map.mpr ⟨(-2 - q).toNat, List.mem_range.mpr (by omega), by omega⟩)
  simp at this
  omega
/-- the node of a point -/
def nodeP (p : Int) : Nat := if 0 ≤ p then p.toNat else (-2 - p).toNat
theorem node_at {N : List (List Lp)} {p : Int} (hv : Vp N p) (hn : p ≠ -1) : nodeP p < N.length ∧ N[nodeP p]? = some (contP N p) := by
  unfold nodeP contP
  rw [if_neg hn]
  rcases hv with h | ⟨h3, h4⟩ | ⟨h3, h4⟩
  · exact absurd h hn
  · rw [if_pos h3, if_pos h3]
    have hl : p.toNat < N.length := by omega
    exact ⟨hl, by rw [List.getD_eq_getElem?_getD, List.getElem?_eq_getElem hl]; rfl⟩
  · have : ¬ (0 ≤ p) := by omega
    rw [if_neg this, if_neg this]
    have hl : (-2 - p).toNat < N.length := by omega
    exact ⟨hl, by rw [List.getD_eq_getElem?_getD, List.getElem?_eq_getElem hl]; rfl⟩
theorem rowAt_word {N : List (List Lp)} {r : Rw} {c : List Lp} (h : RowAt N r c) : r.w = "do" ∨ r.w = "abort" ∨ r.w = "if" ∨ r.w = "while" ∨ r.w = "skip" ∨ r.w = "assert" := by
  cases c with
  | nil => exact h.elim
  | cons p t =>
    cases p with
    | skip => exact .inr (.inr (.inr (.inr (.inl h.1))))
    | abort => exact .inr (.inl h)
    | act b l => exact .inl h.1
    | asr w => exact .inr (.inr (.inr (.inr (.inr h.1))))
    | ite w p q => exact .inr (.inr (.inl h.1))
    | whl w p => exact .inr (.inr (.inr (.inl h.1)))
def goneBody (x : Ix) : List TW.S := match (cc_gone x).body with
  | [_, .whl _ b, _] => b
  | _ => []
theorem gone_eq (x : Ix) : cc_gone x = ⟨3, 8, [.par [] [3, 4] [.dct false [], .lst []], .whl (.and (.cmp .ne (.pk 1) (.con (.int (-1)))) (.cmp .nin (.pk 1) (.pk 3))) (goneBody x), .ret [4] (.tup [.ifx (.cmp .eq (.pk 1) (.con (.int (-1)))) (.con (.int (-2))) (.con (.int (-1))), .var 4])]⟩ := rfl
def gnE (rs : List Rw) (a : Nat) (p : Int) (seen : List Int) (o : Bool) (L : List T) (j5 j6 j7 : Slot) : TW.Env := [.val (.lst (rwL rs)), .val (.int p), .val (nT a), .own (.dk (seen.map fun q => ((Sum.inl q : Key), T.bl true))), lsl o L, j5, j6, j7]
section
variable {P : Pm} {Γ : List TW.Fn} {lf n : Nat} {x : Ix} {s r : Sto} (A : LibA Γ x) (C : LibC Γ x) (L : LibR Γ x)
include A L
/-- one turn -/
theorem gone_turn {rs : List Rw} {p : Int} {rw_ : Rw} (hr : rs[nodeP p]? = some rw_) (hn : p ≠ -1) (hv : -2 - p = (nodeP p : Int) ∨ 0 ≤ p) (hw : rw_.w = "do" ∨ rw_.w = "abort" ∨ rw_.w = "if" ∨ rw_.w = "while" ∨ rw_.w = "skip" ∨ rw_.w = "assert") (a : Nat) {seen : List Int} (hs : p ∉ seen) (hl : seen.length ≤ 100000) (o : Bool) (B : List T) (hB : B.length ≤ 100000) (j5 j6 j7 : Slot) :
    ∃ o' B' k5 k6 k7, B'.length ≤ B.length + 1 ∧ evSs P (run P Γ lf (n + 2)) lf (goneBody x) (gnE rs a p seen o B j5 j6 j7) s = if rw_.w = "do" then .rt (.val (.tup [.int (nodeP p : Int), .lst B'])) s
      else if rw_.w = "abort" ∨ (rw_.w = "assert" ∧ rw_.d.testBit a = false) then .rt (.val (.tup [.int (-1), .lst B'])) s
      else .nx (gnE rs a (nextP rw_ a) (seen ++ [p]) o' B' k5 k6 k7) s := by
  have h := has_ev (P := P) (lf := lf) (n := n + 1) (s := s) A.has rw_.d a
  have h : run P Γ lf (n + 2) x.f_has [.int (rw_.d : Int), nT a] s = .ok (.val (.bl (rw_.d.testBit a))) s := h
  have hi : atI (rwL rs) (nodeP p : Int) = some rw_.t := atI_at (by unfold rwL; rw [List.getElem?_map, hr]; rfl)
  have ps := seen_put p hs
  have hl2 : seen.length < 16777216 := by omega
  have cut : ∀ st, slT st rw_.t none (some 2) = some (.val (.tup [.str rw_.w, .int (rw_.d : Int)])) := fun _ => rfl
  have hNx : ∀ hx : rw_.w = "if" ∨ rw_.w = "while" ∨ rw_.w = "skip" ∨ rw_.w = "assert", run P Γ lf (n + 2) x.f_next_point [rw_.t, nT a] s = .ok (.val (.int (nextP rw_ a))) s := fun hx => next_ev L A rw_ hx a
  simp only [gnE]
  generalize rwL rs = RS at *
  have hB2 : B.length + 1 ≤ 16777216 := by omega
  have key : ∀ (h0 : Bool) (q : Int) (hq : (if h0 = true then (p = q ∧ 0 ≤ p) else (-2 - p = q ∧ ¬ 0 ≤ p))), atI RS q = some rw_.t → ∃ o' B' k5 k6 k7, B'.length ≤ B.length + 1 ∧ evSs P (run P Γ lf (n + 2)) lf (goneBody x) [.val (.lst RS), .val (.int p), .val (nT a), .own (.dk (seen.map fun q => ((Sum.inl q : Key), T.bl true))), lsl o B, j5, j6, j7] s = if rw_.w = "do" then .rt (.val (.tup [.int q, .lst B'])) s
      else if rw_.w = "abort" ∨ (rw_.w = "assert" ∧ rw_.d.testBit a = false) then .rt (.val (.tup [.int (-1), .lst B'])) s
      else .nx [.val (.lst RS), .val (.int (nextP rw_ a)), .val (nT a), .own (.dk ((seen ++ [p]).map fun q => ((Sum.inl q : Key), T.bl true))), lsl o' B', k5, k6, k7] s := by
    intro h0 q hq hi
    rw [← ps]
    generalize hM : seen.map (fun q => ((Sum.inl q : Key), T.bl true)) = M at *
    have hM2 : M.length < 16777216 := by rw [← hM, List.length_map]; exact hl2
    obtain ⟨M', hM'⟩ : ∃ M', dPut (Sum.inl p : Key) (.bl true) M = M' := ⟨_, rfl⟩
    rw [hM']
    cases h0 with
    | true =>
      obtain ⟨rfl, hp⟩ := (show p = q ∧ 0 ≤ p from hq)
      refine ⟨true, B ++ [.int p], .val (.int p), .val (.str rw_.w), .val (.int (rw_.d : Int)), by simp, ?_⟩
      rcases hw with hw | hw | hw | hw | hw | hw
      · simp (implicitDefEqProofs := false) [goneBody, cc_gone, isOb, chg, setiO, hM2, hp, opd, fits, hB2, hi, cut, hw, eqO_kw]
      · simp (implicitDefEqProofs := false) [goneBody, cc_gone, isOb, chg, setiO, hM2, hp, opd, fits, hB2, hi, cut, hw, eqO_kw]
      · have nx := hNx (.inl hw)
        generalize nextP rw_ a = NX at *
        simp (implicitDefEqProofs := false) [goneBody, cc_gone, isOb, chg, setiO, hM2, hp, opd, fits, hB2, hi, cut, hw, eqO_kw, nx]
        try exact hM'
      · have nx := hNx (.inr (.inl hw))
        generalize nextP rw_ a = NX at *
        simp (implicitDefEqProofs := false) [goneBody, cc_gone, isOb, chg, setiO, hM2, hp, opd, fits, hB2, hi, cut, hw, eqO_kw, nx]
        try exact hM'
      · have nx := hNx (.inr (.inr (.inl hw)))
        generalize nextP rw_ a = NX at *
        simp (implicitDefEqProofs := false) [goneBody, cc_gone, isOb, chg, setiO, hM2, hp, opd, fits, hB2, hi, cut, hw, eqO_kw, nx]
        try exact hM'
      · have nx := hNx (.inr (.inr (.inr hw)))
        generalize nextP rw_ a = NX at *
        cases hb : rw_.d.testBit a with
        | true =>
          rw [hb] at h
          simp (implicitDefEqProofs := false) [goneBody, cc_gone, isOb, chg, setiO, hM2, hp, opd, fits, hB2, hi, cut, hw, eqO_kw, nx, h, hb]
          try exact hM'
        | false =>
          rw [hb] at h
          simp (implicitDefEqProofs := false) [goneBody, cc_gone, isOb, chg, setiO, hM2, hp, opd, fits, hB2, hi, cut, hw, eqO_kw, nx, h, hb]
          try exact hM'
    | false =>
      obtain ⟨hq, hp⟩ := (show -2 - p = q ∧ ¬ 0 ≤ p from hq)
      refine ⟨false, B, .val (.int q), .val (.str rw_.w), .val (.int (rw_.d : Int)), by omega, ?_⟩
      rcases hw with hw | hw | hw | hw | hw | hw
      · simp (implicitDefEqProofs := false) [goneBody, cc_gone, isOb, chg, setiO, hM2, hp, opd, fits, hB2, hi, cut, hw, eqO_kw, hq]
      · simp (implicitDefEqProofs := false) [goneBody, cc_gone, isOb, chg, setiO, hM2, hp, opd, fits, hB2, hi, cut, hw, eqO_kw, hq]
      · have nx := hNx (.inl hw)
        generalize nextP rw_ a = NX at *
        simp (implicitDefEqProofs := false) [goneBody, cc_gone, isOb, chg, setiO, hM2, hp, opd, fits, hB2, hi, cut, hw, eqO_kw, nx, hq]
        try exact hM'
      · have nx := hNx (.inr (.inl hw))
        generalize nextP rw_ a = NX at *
        simp (implicitDefEqProofs := false) [goneBody, cc_gone, isOb, chg, setiO, hM2, hp, opd, fits, hB2, hi, cut, hw, eqO_kw, nx, hq]
        try exact hM'
      · have nx := hNx (.inr (.inr (.inl hw)))
        generalize nextP rw_ a = NX at *
        simp (implicitDefEqProofs := false) [goneBody, cc_gone, isOb, chg, setiO, hM2, hp, opd, fits, hB2, hi, cut, hw, eqO_kw, nx, hq]
        try exact hM'
      · have nx := hNx (.inr (.inr (.inr hw)))
        generalize nextP rw_ a = NX at *
        cases hb : rw_.d.testBit a with
        | true =>
          rw [hb] at h
          simp (implicitDefEqProofs := false) [goneBody, cc_gone, isOb, chg, setiO, hM2, hp, opd, fits, hB2, hi, cut, hw, eqO_kw, nx, h, hb, hq]
          try exact hM'
        | false =>
          rw [hb] at h
          simp (implicitDefEqProofs := false) [goneBody, cc_gone, isOb, chg, setiO, hM2, hp, opd, fits, hB2, hi, cut, hw, eqO_kw, nx, h, hb, hq]
          try exact hM'
  have r1 := key (decide (0 ≤ p)) (nodeP p : Int) (by
    by_cases h0 : 0 ≤ p
    · rw [if_pos (by simpa using h0)]
      refine ⟨?_, h0⟩
      unfold nodeP
      rw [if_pos h0]
      omega
    · rw [if_neg (by simpa using h0)]
      exact ⟨hv.resolve_right h0, h0⟩) hi
  exact r1
/-- what the loop leaves -/
def GnOut (a : Nat) (N : List (List Lp)) (c0 : List Lp) (rs : List Rw) (out : Out) (s : Sto) : Prop :=
  (∃ (i b l : Nat) (u : List Lp) (B : List T), N[i]? = some (.act b l :: u) ∧ Ep a c0 (.act b l :: u) ∧ out = .rt (.val (.tup [.int (i : Int), .lst B])) s) ∨
  (∃ B : List T, Ends a c0 .stops ∧ out = .rt (.val (.tup [.int (-1), .lst B])) s) ∨
  (∃ (q : Int) (seen : List Int) (o : Bool) (B : List T) (j5 j6 j7 : Slot), out = .nx (gnE rs a q seen o B j5 j6 j7) s ∧ (q = -1 ∧ Ends a c0 .ends ∨ q ≠ -1 ∧ Ends a c0 .stops))
theorem gone_loop {rs : List Rw} {N : List (List Lp)} (hR : ∀ i, i < N.length → ∃ r c, rs[i]? = some r ∧ N[i]? = some c ∧ RowAt N r c) (hN : N.length ≤ 1000) {a : Nat} {c0 : List Lp} : ∀ (m : Nat) (p : Int) (seen : List Int) (o : Bool) (B : List T) (j5 j6 j7 : Slot), Pt a N c0 p seen → B.length ≤ seen.length → 2 * N.length + 1 - seen.length ≤ m →
    GnOut a N c0 rs (whGo (fun env s => evC P (run P Γ lf (n + 2)) env (some (.and (.cmp .ne (.pk 1) (.con (.int (-1)))) (.cmp .nin (.pk 1) (.pk 3)))) s) (fun env s => evSs P (run P Γ lf (n + 2)) lf (goneBody x) env s) m (gnE rs a p seen o B j5 j6 j7) s) s
  | m, p, seen, o, B, j5, j6, j7, h, hB, hm => by
    have sl := pt_len h.nd h.sv
    obtain ⟨m, rfl⟩ : ∃ k, m = k + 1 := ⟨m - 1, by omega⟩
    have c : evC P (run P Γ lf (n + 2)) (gnE rs a p seen o B j5 j6 j7) (some (.and (.cmp .ne (.pk 1) (.con (.int (-1)))) (.cmp .nin (.pk 1) (.pk 3)))) s = .ok (decide (p ≠ -1) && decide (p ∉ seen)) s := by
      have si := seen_in (P := P) s p seen
      by_cases h1 : p = -1
      · simp (implicitDefEqProofs := false) [gnE, opd, h1]
      · simp (implicitDefEqProofs := false) [gnE, opd, h1, si]
    rw [whGo, c]
    by_cases h1 : p = -1
    · subst h1
      have e : (decide ((-1 : Int) ≠ -1) && decide ((-1 : Int) ∉ seen)) = false := by simp
      rw [e]
      exact .inr (.inr ⟨-1, seen, o, B, j5, j6, j7, rfl, .inl ⟨rfl, h.way⟩⟩)
    by_cases h2 : p ∈ seen
    · have e : (decide (p ≠ -1) && decide (p ∉ seen)) = false := by simp [h2]
      rw [e]
      obtain ⟨d', v1, v2, v3⟩ := h.via p h2
      refine .inr (.inr ⟨p, seen, o, B, j5, j6, j7, rfl, .inr ⟨h1, fun t ht hh => ?_⟩⟩)
      refine Ep.cyc v1 v2 ht v3 ?_
      rcases hh with rfl | ⟨b, l, u, rfl⟩ <;> rfl
    · have e : (decide (p ≠ -1) && decide (p ∉ seen)) = true := by simp [h1, h2]
      rw [e]
      obtain ⟨nl, na⟩ := node_at h.v h1
      obtain ⟨rw_, c, q1, q2, q3⟩ := hR (nodeP p) nl
      rw [na] at q2
      cases q2
      have hv : -2 - p = (nodeP p : Int) ∨ 0 ≤ p := by
        unfold nodeP
        by_cases h0 : 0 ≤ p
        · exact .inr h0
        · rw [if_neg h0]
          rcases h.v with h | h | h
          · exact absurd h h1
          · omega
          · left; omega
      obtain ⟨o', B', k5, k6, k7, hB', ev⟩ := gone_turn (P := P) (lf := lf) (n := n) (s := s) A L q1 h1 hv (rowAt_word q3) a h2 (by omega) o B (by omega) j5 j6 j7
      show GnOut a N c0 rs (match evSs P (run P Γ lf (n + 2)) lf (goneBody x) (gnE rs a p seen o B j5 j6 j7) s with
        | .nx env' s' => whGo (fun env s => evC P (run P Γ lf (n + 2)) env (some (.and (.cmp .ne (.pk 1) (.con (.int (-1)))) (.cmp .nin (.pk 1) (.pk 3)))) s) (fun env s => evSs P (run P Γ lf (n + 2)) lf (goneBody x) env s) m env' s'
        | .ct env' s' => whGo (fun env s => evC P (run P Γ lf (n + 2)) env (some (.and (.cmp .ne (.pk 1) (.con (.int (-1)))) (.cmp .nin (.pk 1) (.pk 3)))) s) (fun env s => evSs P (run P Γ lf (n + 2)) lf (goneBody x) env s) m env' s'
        | .bk env' s' => .nx env' s'
        | o => o) s
      rw [ev]
      rcases row_eps q3 a with ⟨w1, b, l, u, e1, _⟩ | ⟨w1, w2, e1, e2, e3⟩ | ⟨w1, w2, v1, e1⟩
      · rw [if_pos w1]
        rw [e1] at na
        exact .inl ⟨nodeP p, b, l, u, B', na, by rw [← e1]; exact h.way, rfl⟩
      · have w2' : rw_.w = "abort" ∨ (rw_.w = "assert" ∧ rw_.d.testBit a = false) := w2
        rw [if_neg w1, if_pos w2']
        refine .inr (.inl ⟨B', fun t ht hh => ?_, rfl⟩)
        have hnt : eps a t = none := by
          rcases hh with rfl | ⟨b, l, u, rfl⟩ <;> rfl
        have := h.way.det e1 ht hnt
        subst this
        rcases hh with h | ⟨b, l, u, h⟩
        · exact e2 h
        · exact e3 b l u h
      · have w2' : ¬ (rw_.w = "abort" ∨ (rw_.w = "assert" ∧ rw_.d.testBit a = false)) := w2
        rw [if_neg w1, if_neg w2']
        refine gone_loop hR hN m _ _ o' B' k5 k6 k7 ⟨h.way.trans (.one e1), v1, ?_, ?_, ?_⟩ (by simp; omega) (by simp; omega)
        · rw [List.nodup_append]
          exact ⟨h.nd, by simp, fun x hx y hy => by simp at hy; subst hy; exact fun e => h2 (e ▸ hx)⟩
        · intro z hz
          rcases List.mem_append.mp hz with hz | hz
          · exact h.sv z hz
          · simp at hz; subst hz; exact ⟨h.v, h1⟩
        · intro z hz
          rcases List.mem_append.mp hz with hz | hz
          · obtain ⟨d', v1, v2, v3⟩ := h.via z hz
            exact ⟨d', v1, v2.trans (.one e1), v3⟩
          · simp at hz; subst hz
            exact ⟨_, e1, .refl _, h.way⟩
theorem gone_ev {rs : List Rw} {N : List (List Lp)} (hR : ∀ i, i < N.length → ∃ r c, rs[i]? = some r ∧ N[i]? = some c ∧ RowAt N r c) (hN : N.length ≤ 1000) (hlf : 10000 < lf) {a : Nat} {p : Int} (hv : Vp N p) (s : Sto) :
    ∃ (t : Int) (B : List T), run P Γ lf (n + 3) x.f_gone [.lst (rwL rs), .int p, nT a] s = .ok (.val (.tup [.int t, .lst B])) s ∧
      ((∃ (i b l : Nat) (u : List Lp), t = (i : Int) ∧ N[i]? = some (.act b l :: u) ∧ Ep a (contP N p) (.act b l :: u)) ∨ (t = -1 ∧ Ends a (contP N p) .stops) ∨ (t = -2 ∧ Ends a (contP N p) .ends)) := by
  have lp := gone_loop (P := P) (lf := lf) (n := n) (s := s) (x := x) A L hR hN (a := a) (c0 := contP N p) lf p [] true [] .no .no .no ⟨.refl _, hv, by simp, by simp, by simp⟩ (by simp) (by simp; omega)
  rw [run_at L.gone (by rw [gone_eq]; rfl), gone_eq]
  show ∃ (t : Int) (B : List T), (evSs P (run P Γ lf (n + 2)) lf [.par [] [3, 4] [.dct false [], .lst []], .whl (.and (.cmp .ne (.pk 1) (.con (.int (-1)))) (.cmp .nin (.pk 1) (.pk 3))) (goneBody x), .ret [4] (.tup [.ifx (.cmp .eq (.pk 1) (.con (.int (-1)))) (.con (.int (-2))) (.con (.int (-1))), .var 4])] [.val (.lst (rwL rs)), .val (.int p), .val (nT a), .no, .no, .no, .no, .no] s).res = _ ∧ _
  have s1 : evS P (run P Γ lf (n + 2)) lf (.par [] [3, 4] [.dct false [], .lst []]) [.val (.lst (rwL rs)), .val (.int p), .val (nT a), .no, .no, .no, .no, .no] s = .nx (gnE rs a p [] true [] .no .no .no) s := by
    simp (implicitDefEqProofs := false) [gnE, fits, dkAll]
  rw [xss_cons, s1, seq_nx, xss_cons, xs_whl]
  generalize whGo (fun env s => evC P (run P Γ lf (n + 2)) env (some (.and (.cmp .ne (.pk 1) (.con (.int (-1)))) (.cmp .nin (.pk 1) (.pk 3)))) s) (fun env s => evSs P (run P Γ lf (n + 2)) lf (goneBody x) env s) lf (gnE rs a p [] true [] .no .no .no) s = out at lp
  rcases lp with ⟨i, b, l, u, B, h1, h2, rfl⟩ | ⟨B, h1, rfl⟩ | ⟨q, seen, o, B, j5, j6, j7, rfl, h⟩
  · exact ⟨(i : Int), B, rfl, .inl ⟨i, b, l, u, rfl, h1, h2⟩⟩
  · exact ⟨-1, B, rfl, .inr (.inl ⟨rfl, h1⟩)⟩
  · rcases h with ⟨rfl, h⟩ | ⟨hq, h⟩
    · refine ⟨-2, B, ?_, .inr (.inr ⟨rfl, h⟩)⟩
      simp (implicitDefEqProofs := false) [gnE, opd, fits]
    · refine ⟨-1, B, ?_, .inr (.inl ⟨rfl, h⟩)⟩
      simp (implicitDefEqProofs := false) [gnE, opd, fits, hq]
end
end Tw

set_option Elab.async false
set_option linter.all false
set_option maxRecDepth 100000
set_option maxHeartbeats 4000000
/-! TwU: goings_in is evaluated. -/
namespace Tw
open PySem L2 TW
def codeG : Go → Int
  | .lab l => (l : Int)
  | .stops => -1
  | .ends => -2
/-- where one comes to is one -/
theorem ends_uniq {a : Nat} {c : List Lp} {g h : Go} (hg : Ends a c g) (hh : Ends a c h) : g = h := by
  cases g with
  | ends =>
    have hg : Ep a c [] := hg
    cases h with
    | ends => rfl
    | stops => exact (hh [] hg (.inl rfl)).elim
    | lab l =>
      obtain ⟨b, u, e⟩ := hh
      have := hg.det rfl e rfl
      cases this
  | stops =>
    cases h with
    | ends => exact (hg [] hh (.inl rfl)).elim
    | stops => rfl
    | lab l =>
      obtain ⟨b, u, e⟩ := hh
      exact (hg _ e (.inr ⟨b, l, u, rfl⟩)).elim
  | lab l =>
    obtain ⟨b, u, e⟩ := hg
    cases h with
    | ends =>
      have := e.det rfl (show Ep a c [] from hh) rfl
      cases this
    | stops => exact (hh _ e (.inr ⟨b, l, u, rfl⟩)).elim
    | lab l2 =>
      obtain ⟨b2, u2, e2⟩ := hh
      have := e.det rfl e2 rfl
      cases this
      rfl
theorem goW_uniq {ps : List Pg} {gw gw2 : Nat → Nat → Go} (h : GoW ps gw) (h2 : GoW ps gw2) {l a : Nat} (hl : l ≤ (actsOf ps).length) (ha : a < 8) : gw l a = gw2 l a := ends_uniq (h.ends l a hl ha) (h2.ends l a hl ha)
theorem cut_to (l : List T) (k : Nat) : cutT l none (some (k : Int)) = l.take k := by
  unfold cutT
  rw [HT.sIx_nat, HT.sIx_none, List.drop_zero, Nat.sub_zero]
  by_cases h : k ≤ l.length
  · rw [Nat.min_eq_left h]
  · rw [Nat.min_eq_right (by omega), List.take_of_length_le (Nat.le_refl _), List.take_of_length_le (by omega)]
theorem filter_at : ∀ (rs : List Rw) (j : Nat) (r : Rw), (rs.filter isDo)[j]? = some r → ∃ i, rs[i]? = some r ∧ r.w = "do" ∧ cntDo (rs.take (i + 1)) = j + 1
  | [], j, r, h => by simp at h
  | q :: rs, j, r, h => by
    by_cases hq : q.w = "do"
    · rw [List.filter_cons_of_pos (by simp [isDo, hq])] at h
      cases j with
      | zero =>
        simp at h
        subst h
        exact ⟨0, rfl, hq, by rw [List.take_succ_cons, cntDo_cons, if_pos hq]; rfl⟩
      | succ j =>
        obtain ⟨i, h1, h2, h3⟩ := filter_at rs j r (by simpa using h)
        exact ⟨i + 1, by simpa using h1, h2, by rw [List.take_succ_cons, cntDo_cons, if_pos hq, h3]; omega⟩
    · rw [List.filter_cons_of_neg (by simp [isDo, hq])] at h
      obtain ⟨i, h1, h2, h3⟩ := filter_at rs j r h
      exact ⟨i + 1, by simpa using h1, h2, by rw [List.take_succ_cons, cntDo_cons, if_neg hq, h3]; omega⟩
def ptsF (ps : List Pg) : List Int := 0 :: ((rowsF ps).filter isDo).map Rw.aft
theorem pts_len (ps : List Pg) : (ptsF ps).length = (actsOf ps).length + 1 := by
  unfold ptsF
  rw [List.length_cons, List.length_map]
  have := layF_cnt ps 0 (-1)
  unfold cntDo at this
  unfold rowsF
  omega
/-- the points of the places -/
theorem pts_at {ps : List Pg} (hne : ps ≠ []) (hok : oks ps = true) {l : Nat} {p : Int} (h : (ptsF ps)[l]? = some p) : Vp (plcs ps) p ∧ contP (plcs ps) p = restAt ps l := by
  cases l with
  | zero =>
    simp [ptsF] at h
    subst h
    obtain ⟨z, e⟩ := allC_head (labs_ne hne 0) []
    rw [List.append_nil] at e
    have h0 : (plcs ps)[0]? = some (labs ps 0) := by unfold plcs; rw [e]; rfl
    exact at_nat h0
  | succ j =>
    unfold ptsF at h
    rw [List.getElem?_cons_succ, List.getElem?_map] at h
    obtain ⟨r, h1, rfl⟩ := Option.map_eq_some_iff.mp h
    obtain ⟨i, h2, h3, h4⟩ := filter_at _ _ _ h1
    have hi : i < sizes ps := by rw [← rows_len]; exact (List.getElem?_eq_some_iff.mp h2).1
    obtain ⟨r', c, q1, q2, q3⟩ := rows_at hok hi
    rw [h2] at q1
    cases q1
    rcases row_eps q3 0 with ⟨_, b, l, u, e1, _, v1, v2⟩ | ⟨w1, _⟩ | ⟨w1, _⟩
    · subst e1
      have hl := label_cnt q2
      rw [h4] at hl
      subst hl
      have hm : (j + 1, u) ∈ cnts ps := allC_act _ _ u (List.mem_of_getElem? q2)
      obtain ⟨_, _, _, e⟩ := cnts_mem hm
      exact ⟨v1, by rw [v2, e]⟩
    · exact absurd h3 w1
    · exact absurd h3 w1
theorem rows_word {ps : List Pg} (hok : oks ps = true) {r : Rw} (h : r ∈ rowsF ps) : (PyData.str r.w).canLay0 = true := by
  obtain ⟨i, hi, e⟩ := List.getElem_of_mem h
  obtain ⟨r', c, q1, q2, q3⟩ := rows_at hok (by rw [← rows_len]; exact hi)
  rw [List.getElem?_eq_getElem hi, e] at q1
  cases q1
  rcases rowAt_word q3 with h | h | h | h | h | h <;> rw [h] <;> simp
mutual
theorem acts_flat : ∀ p : Pg, p.acts = (p.flat.filter Pg.isAct).map Pg.num
  | .skip => by simp [Pg.acts, Pg.flat, Pg.isAct]
  | .abort => by simp [Pg.acts, Pg.flat, Pg.isAct]
  | .act a => by simp only [Pg.acts, Pg.flat]; rw [List.filter_cons_of_pos rfl]; rfl
  | .asr s => by simp [Pg.acts, Pg.flat, Pg.isAct]
  | .ite s p q => by
    rw [Pg.acts, Pg.flat, List.filter_cons_of_neg (by simp [Pg.isAct]), List.filter_append, List.map_append, actsOf_flat p, actsOf_flat q]
  | .whl s p => by
    rw [Pg.acts, Pg.flat, List.filter_cons_of_neg (by simp [Pg.isAct]), actsOf_flat p]
theorem actsOf_flat : ∀ ps : List Pg, actsOf ps = ((flats ps).filter Pg.isAct).map Pg.num
  | [] => by simp [actsOf, flats]
  | p :: ps => by rw [actsOf, flats, List.filter_append, List.map_append, acts_flat p, actsOf_flat ps]
end
def gT (ps : List Pg) (gw : Nat → Nat → Go) : T := .tup ((List.range ((actsOf ps).length + 1)).map fun l => .tup ((List.range 8).map fun a => .int (codeG (gw l a))))
def aT (ps : List Pg) : T := .tup (.int (-1) :: (actsOf ps).map nT)
section
variable {P : Pm} {Γ : List TW.Fn} {lf n : Nat} {x : Ix} {s r : Sto} (A : LibA Γ x) (C : LibC Γ x) (L : LibR Γ x)
include L
theorem points_ev {ps : List Pg} (hok : oks ps = true) (hz : sizes ps ≤ 1000) : run P Γ lf (n + 1) x.f_points_of [.lst (rwL (rowsF ps))] s = .ok (.own (.lst ((ptsF ps).map .int))) s := by
  rw [run_at L.points_of rfl]
  have rl := rows_len ps
  have wd := fun r (h : r ∈ rowsF ps) => rows_word hok h
  unfold ptsF rwL
  generalize rowsF ps = rs at *
  simp (implicitDefEqProofs := false) [cc_points_of, startE_def, opd, fits]
  rw [lcGo_filter (p := isDo) (h := fun r => .int r.aft) (fun r hr => by
    have e : eqO s (.str r.w) (.str "do") = some (isDo r) := eqO_kw s (wd r hr) (by simp)
    obtain ⟨w, d, i, o, f⟩ := r
    simp only at e
    have a4 : atI [T.str w, .int (d : Int), .int i, .int o, .int f] 4 = some (.int f) := atI_at (k := 4) rfl
    simp (implicitDefEqProofs := false) [Rw.t, opd, e, a4]) (by simp; omega)]
  have fl : (rs.filter isDo).length ≤ rs.length := List.length_filter_le _ _
  have ff : 1 + (rs.filter isDo).length ≤ 16777216 := by omega
  simp (implicitDefEqProofs := false) [fits, ff, Function.comp_def]
include A
theorem go_from_ev {ps : List Pg} (hok : oks ps = true) (hz : sizes ps ≤ 1000) (hlf : 10000 < lf) {p : Int} (hv : Vp (plcs ps) p) (a : Nat) (s : Sto) :
    ∃ (g : Go) (B : List T), Ends a (contP (plcs ps) p) g ∧ run P Γ lf (n + 4) x.f_go_from [.lst (rwL (rowsF ps)), .int p, nT a] s = .ok (.val (.tup [.int (codeG g), .tup B])) s := by
  have nl := plcs_len ps
  obtain ⟨t, B, e, h⟩ := gone_ev (P := P) (lf := lf) (n := n) A L (rs := rowsF ps) (N := plcs ps) (fun i hi => rows_at hok (by rw [← plcs_len]; exact hi)) (by omega) hlf (a := a) hv s
  have rl := rows_len ps
  have wd := fun r (h : r ∈ rowsF ps) => rows_word hok h
  rcases h with ⟨i, b, l, u, rfl, h1, h2⟩ | ⟨rfl, h⟩ | ⟨rfl, h⟩
  · refine ⟨.lab l, B, ⟨b, u, h2⟩, ?_⟩
    have hl := label_cnt h1
    rw [run_at L.go_from rfl]
    have hcut : ∀ st, slT st (.lst (rwL (rowsF ps))) none (some ((i : Int) + 1)) = some (.own (.lst (rwL ((rowsF ps).take (i + 1))))) := fun st => by
      rw [TW.sl_lst, show ((i : Int) + 1) = ((i + 1 : Nat) : Int) by omega, cut_to]
      unfold rwL
      rw [List.map_take]
    have tk : ∀ r ∈ (rowsF ps).take (i + 1), (PyData.str r.w).canLay0 = true := fun r hr => wd r (List.mem_of_mem_take hr)
    have tl : ((rowsF ps).take (i + 1)).length ≤ 1000 := by rw [List.length_take]; omega
    unfold cntDo at hl
    generalize (rowsF ps).take (i + 1) = rs at *
    generalize rwL (rowsF ps) = RS at *
    simp (implicitDefEqProofs := false) [cc_go_from, startE_def, opd, fits, e, hcut]
    unfold rwL
    rw [lcGo_filter (p := isDo) (h := fun _ => .int 1) (fun r hr => by
      have e : eqO s (.str r.w) (.str "do") = some (isDo r) := eqO_kw s (tk r hr) (by simp)
      obtain ⟨w, d, i, o, f⟩ := r
      simp only at e
      simp (implicitDefEqProofs := false) [Rw.t, opd, e]) (by simp; omega)]
    simp (implicitDefEqProofs := false) [codeG, hl]
  · refine ⟨.stops, B, h, ?_⟩
    rw [run_at L.go_from rfl]
    simp (implicitDefEqProofs := false) [cc_go_from, startE_def, opd, fits, e, codeG]
  · refine ⟨.ends, B, h, ?_⟩
    rw [run_at L.go_from rfl]
    simp (implicitDefEqProofs := false) [cc_go_from, startE_def, opd, fits, e, codeG]
include C
theorem goings_ev (hlf : 10000 < lf) {ps : List Pg} (hne : ps ≠ []) (hg : hgts ps ≤ 25) (hz : sizes ps ≤ 1000) (hok : oks ps = true) (s : Sto) : ∃ gw, GoW ps gw ∧ run P Γ lf (n + 56) x.f_goings_in [tupP ps] s = .ok (.val (gT ps gw)) s := by
  have ex : ∀ l a, ∃ (g : Go) (B : List T), l ≤ (actsOf ps).length → ∃ p, (ptsF ps)[l]? = some p ∧ Ends a (restAt ps l) g ∧ run P Γ lf (n + 54) x.f_go_from [.lst (rwL (rowsF ps)), .int p, nT a] s = .ok (.val (.tup [.int (codeG g), .tup B])) s := fun l a => by
    by_cases h : l ≤ (actsOf ps).length
    · have hl : l < (ptsF ps).length := by rw [pts_len]; omega
      have e : (ptsF ps)[l]? = some (ptsF ps)[l] := List.getElem?_eq_getElem hl
      obtain ⟨v1, v2⟩ := pts_at hne hok e
      obtain ⟨g, B, h1, h2⟩ := go_from_ev (P := P) (lf := lf) (n := n + 50) A L hok hz hlf v1 a s
      rw [v2] at h1
      exact ⟨g, B, fun _ => ⟨_, e, h1, h2⟩⟩
    · exact ⟨.stops, [], fun q => absurd q h⟩
  obtain ⟨gw, sp⟩ : ∃ gw : Nat → Nat → Go, ∀ l a, ∃ B : List T, l ≤ (actsOf ps).length → ∃ p, (ptsF ps)[l]? = some p ∧ Ends a (restAt ps l) (gw l a) ∧ run P Γ lf (n + 54) x.f_go_from [.lst (rwL (rowsF ps)), .int p, nT a] s = .ok (.val (.tup [.int (codeG (gw l a)), .tup B])) s := ⟨fun l a => Classical.choose (ex l a), fun l a => Classical.choose_spec (ex l a)⟩
  obtain ⟨Bw, sp⟩ : ∃ Bw : Nat → Nat → List T, ∀ l a, l ≤ (actsOf ps).length → ∃ p, (ptsF ps)[l]? = some p ∧ Ends a (restAt ps l) (gw l a) ∧ run P Γ lf (n + 54) x.f_go_from [.lst (rwL (rowsF ps)), .int p, nT a] s = .ok (.val (.tup [.int (codeG (gw l a)), .tup (Bw l a)])) s := ⟨fun l a => Classical.choose (sp l a), fun l a => Classical.choose_spec (sp l a)⟩
  refine ⟨gw, ⟨fun l a hl _ => by obtain ⟨p, _, h, _⟩ := sp l a hl; exact h⟩, ?_⟩
  have re : run P Γ lf (n + 54) x.f_rows_of [tupP ps] s = .ok (.own (.lst (rwL (rowsF ps)))) s := rows_ev C L hg (by omega) hok
  have pe : run P Γ lf (n + 54) x.f_points_of [.lst (rwL (rowsF ps))] s = .ok (.own (.lst ((ptsF ps).map .int))) s := points_ev (n := n + 53) L hok hz
  have al := acts_le ps
  -- the points by their places
  have pm : (ptsF ps).map T.int = (List.range ((actsOf ps).length + 1)).map fun l => T.int ((ptsF ps).getD l 0) := by
    apply List.ext_getElem?
    intro i
    by_cases hi : i < (actsOf ps).length + 1
    · have hl : i < (ptsF ps).length := by rw [pts_len]; exact hi
      rw [List.getElem?_map, List.getElem?_map, List.getElem?_range hi, List.getElem?_eq_getElem hl, Option.map_some, Option.map_some, List.getD_eq_getElem?_getD, List.getElem?_eq_getElem hl]
      rfl
    · rw [List.getElem?_eq_none (by rw [List.length_map, pts_len]; omega), List.getElem?_eq_none (by simp; omega)]
  have ge : run P Γ lf (n + 55) x.f_goes_in [tupP ps] s = .ok (.own (.lst ((List.range ((actsOf ps).length + 1)).map fun l => .lst ((List.range 8).map fun a => .tup [.int (codeG (gw l a)), .tup (Bw l a)])))) s := by
    rw [run_at L.goes_in rfl]
    rw [pm] at pe
    have gf : ∀ l a, l ≤ (actsOf ps).length → run P Γ lf (n + 54) x.f_go_from [.lst (rwL (rowsF ps)), .int ((ptsF ps).getD l 0), nT a] s = .ok (.val (.tup [.int (codeG (gw l a)), .tup (Bw l a)])) s := fun l a hl => by
      obtain ⟨p, h1, _, h3⟩ := sp l a hl
      rw [List.getD_eq_getElem?_getD, h1]
      exact h3
    generalize (ptsF ps).getD = pt at *
    generalize rwL (rowsF ps) = RS at *
    simp (implicitDefEqProofs := false) [cc_goes_in, startE_def, re, pe, opd]
    rw [lcGo_map (h := fun l => .lst ((List.range 8).map fun a => .tup [.int (codeG (gw l a)), .tup (Bw l a)])) (fun l hl => by
      have hl : l ≤ (actsOf ps).length := by have := List.mem_range.mp hl; omega
      have g1 := fun a => gf l a hl
      generalize pt l 0 = q at *
      simp (implicitDefEqProofs := false) [rng8, small62]
      rw [lcGo_map (h := fun a => .tup [.int (codeG (gw l a)), .tup (Bw l a)]) (fun a _ => by simp (implicitDefEqProofs := false) [g1]) (by simp)]
      simp (implicitDefEqProofs := false)) (by simp; omega)]
    simp (implicitDefEqProofs := false)
  rw [run_at L.goings_in rfl]
  simp (implicitDefEqProofs := false) [cc_goings_in, startE_def, ge, opd]
  rw [lcGo_map (h := fun l => .tup ((List.range 8).map fun a => .int (codeG (gw l a)))) (fun l _ => by
    simp (implicitDefEqProofs := false) [opd]
    rw [lcGo_map (h := fun a => .int (codeG (gw l a))) (fun a _ => by simp (implicitDefEqProofs := false)) (by simp)]
    simp (implicitDefEqProofs := false)) (by simp; omega)]
  simp (implicitDefEqProofs := false) [gT]
omit A in
theorem actions_p_ev {ps : List Pg} (hg : hgts ps ≤ 25) (hz : sizes ps ≤ 1000) (hok : oks ps = true) : run P Γ lf (n + 28) x.f_actions_in_places [tupP ps] s = .ok (.val (aT ps)) s := by
  rw [run_at L.actions_in rfl]
  have st : run P Γ lf (n + 27) x.f_steps_in [tupP ps] s = .ok (.own (.lst ((flats ps).map Pg.t))) s := steps_ev C 25 n ps hg (by omega) hok s
  simp (implicitDefEqProofs := false) [cc_actions_in_places, startE_def, opd, st, fits]
  rw [lcGo_filter (p := Pg.isAct) (h := fun p => nT p.num) (fun p _ => by cases p <;> simp [Pg.t, eqO_kw, Pg.isAct, Pg.num]) (by simp [flats_len]; omega)]
  have fl : ((flats ps).filter Pg.isAct).length ≤ sizes ps := by rw [← flats_len]; exact List.length_filter_le _ _
  have ff : 1 + ((flats ps).filter Pg.isAct).length ≤ 16777216 := by omega
  simp (implicitDefEqProofs := false) [fits, ff, aT, actsOf_flat, Function.comp_def]
end
end Tw

set_option Elab.async false
set_option linter.all false
set_option maxRecDepth 100000
set_option maxHeartbeats 4000000
/-! TwV: sets at places, in plain words. -/
namespace Tw
open PySem L2 TW
/-- where one atom is led -/
def imgF (hs : List Hy) (c a : Nat) : Nat := maskOf (hit hs c (1 <<< a)) (List.range 8) 0
theorem img_bit (hs : List Hy) (c : Nat) {a : Nat} (ha : a < 8) (y : Nat) : (imgF hs c a).testBit y = (decide (y < 8) && lead hs c a y) := by
  unfold imgF
  rw [maskOf_bit, hit_one hs c ha, Nat.zero_testBit, Bool.false_or]
  congr 1
  simp
theorem img_256 (hs : List Hy) (c : Nat) {a : Nat} (ha : a < 8) : imgF hs c a < 256 := by
  apply Classical.byContradiction
  intro hn
  obtain ⟨i, h1, h2⟩ := Nat.exists_ge_and_testBit_of_ge_two_pow (n := 8) (x := imgF hs c a) (by omega)
  rw [img_bit hs c ha] at h2
  simp at h2
  omega
/-- what breaks the sets at a place -/
def viol (gw : Nat → Nat → Go) (acts : List Nat) (hs : List Hy) (behind : Nat) (S : List Nat) (pl a : Nat) : Bool := match gw pl a with
  | .ends => !behind.testBit a
  | .stops => false
  | .lab l => !wthn (imgF hs (acts.getD (l - 1) 0) a) (S.getD l 0)
def closedB (gw : Nat → Nat → Go) (acts : List Nat) (hs : List Hy) (behind : Nat) (S : List Nat) : Bool := !(S.zipIdx.any fun q => (mem8 q.1).any fun a => viol gw acts hs behind S q.2 a)
theorem closed_iff {gw : Nat → Nat → Go} {acts : List Nat} {hs : List Hy} {behind : Nat} {S : List Nat} : closedB gw acts hs behind S = true ↔ ∀ pl a, pl < S.length → a < 8 → (S.getD pl 0).testBit a = true → viol gw acts hs behind S pl a = false := by
  unfold closedB
  rw [Bool.not_eq_true', List.any_eq_false]
  constructor
  · intro h pl a hl ha hb
    have hm : (S.getD pl 0, pl) ∈ S.zipIdx := by
      rw [List.mk_mem_zipIdx_iff_getElem?, List.getD_eq_getElem?_getD, List.getElem?_eq_getElem hl]
      rfl
    have := h _ hm
    rw [Bool.not_eq_true, List.any_eq_false] at this
    have := this a (mem8_iff.mpr ⟨ha, hb⟩)
    simpa using this
  · intro h q hq
    obtain ⟨own, pl⟩ := q
    rw [List.mk_mem_zipIdx_iff_getElem?] at hq
    have hl := (List.getElem?_eq_some_iff.mp hq).1
    have e : S.getD pl 0 = own := by rw [List.getD_eq_getElem?_getD, hq]; rfl
    rw [Bool.not_eq_true, List.any_eq_false]
    intro a ha
    obtain ⟨h1, h2⟩ := mem8_iff.mp ha
    rw [Bool.not_eq_true]
    exact h pl a hl h1 (by rw [e]; exact h2)
/-! ### pushing -/
def push (S : List Nat) (l m : Nat) : List Nat := S.set l (S.getD l 0 ||| m)
theorem push_len (S : List Nat) (l m : Nat) : (push S l m).length = S.length := by unfold push; rw [List.length_set]
theorem push_get (S : List Nat) (l m i : Nat) (hl : l < S.length) : (push S l m).getD i 0 = if i = l then S.getD l 0 ||| m else S.getD i 0 := by
  unfold push
  rw [List.getD_eq_getElem?_getD, List.getElem?_set]
  by_cases h : l = i
  · subst h
    rw [if_pos rfl, if_pos hl, if_pos rfl]
    rfl
  · rw [if_neg h, if_neg (fun e => h e.symm), List.getD_eq_getElem?_getD]
/-- one atom's push -/
def pstep (gw : Nat → Nat → Go) (acts : List Nat) (hs : List Hy) (pl : Nat) (more : List Nat) (a : Nat) : List Nat := match gw pl a with
  | .lab l => push more l (imgF hs (acts.getD (l - 1) 0) a)
  | _ => more
def prow (gw : Nat → Nat → Go) (acts : List Nat) (hs : List Hy) (S : List Nat) (more : List Nat) (pl : Nat) : List Nat := (mem8 (S.getD pl 0)).foldl (pstep gw acts hs pl) more
def pround (gw : Nat → Nat → Go) (acts : List Nat) (hs : List Hy) (S : List Nat) : List Nat := (List.range S.length).foldl (prow gw acts hs S) S
/-- pointwise -/
def leS (S U : List Nat) : Prop := ∀ i y, (S.getD i 0).testBit y = true → (U.getD i 0).testBit y = true
section
variable {gw : Nat → Nat → Go} {acts : List Nat} {hs : List Hy}
/-- labels are places -/
def LabOk (gw : Nat → Nat → Go) (k : Nat) : Prop := ∀ l a j, l < k → a < 8 → gw l a = .lab j → 1 ≤ j ∧ j < k
theorem pstep_len (pl : Nat) (more : List Nat) (a : Nat) : (pstep gw acts hs pl more a).length = more.length := by
  unfold pstep
  split
  · exact push_len _ _ _
  · rfl
theorem pstep_le (pl : Nat) (more : List Nat) (a : Nat) (h : ∀ j, gw pl a = .lab j → j < more.length) : leS more (pstep gw acts hs pl more a) := by
  intro i y hb
  unfold pstep
  split
  · rename_i j hj
    rw [push_get _ _ _ _ (h j hj)]
    split
    · rename_i e
      subst e
      rw [Nat.testBit_or, hb, Bool.true_or]
    · exact hb
  · exact hb
theorem leS.trans {S U W : List Nat} (h : leS S U) (h2 : leS U W) : leS S W := fun i y q => h2 i y (h i y q)
theorem fold_len {α : Type} (f : List Nat → α → List Nat) (hf : ∀ m a, (f m a).length = m.length) : ∀ (l : List α) (m : List Nat), (l.foldl f m).length = m.length
  | [], m => rfl
  | a :: l, m => by rw [List.foldl_cons, fold_len f hf l, hf]
theorem fold_le {α : Type} (f : List Nat → α → List Nat) (k : Nat) (hl : ∀ m a, (f m a).length = m.length) : ∀ (l : List α) (m : List Nat), m.length = k → (∀ a ∈ l, ∀ m : List Nat, m.length = k → leS m (f m a)) → leS m (l.foldl f m)
  | [], m, _, _ => fun i y q => q
  | a :: l, m, hm, hf => by
    rw [List.foldl_cons]
    exact (hf a List.mem_cons_self m hm).trans (fold_le f k hl l _ ((hl m a).trans hm) fun b hb => hf b (List.mem_cons_of_mem _ hb))
/-- a member's own share stays -/
theorem fold_has {α : Type} (f : List Nat → α → List Nat) (k : Nat) (hl : ∀ m a, (f m a).length = m.length) {Q : List Nat → Prop} (up : ∀ S U, leS S U → Q S → Q U) : ∀ (l : List α) (m : List Nat), m.length = k → (∀ a ∈ l, ∀ m : List Nat, m.length = k → leS m (f m a)) → ∀ {a : α}, a ∈ l → (∀ m : List Nat, m.length = k → Q (f m a)) → Q (l.foldl f m)
  | b :: l, m, hm, hf, a, ha, hq => by
    rw [List.foldl_cons]
    rcases List.mem_cons.mp ha with rfl | ha
    · exact up _ _ (fold_le f k hl l _ ((hl m a).trans hm) fun b hb => hf b (List.mem_cons_of_mem _ hb)) (hq m hm)
    · exact fold_has f k hl up l _ ((hl m b).trans hm) (fun c hc => hf c (List.mem_cons_of_mem _ hc)) ha hq
theorem prow_len (S more : List Nat) (pl : Nat) : (prow gw acts hs S more pl).length = more.length := fold_len _ (pstep_len pl) _ _
theorem pround_len (S : List Nat) : (pround gw acts hs S).length = S.length := fold_len _ (prow_len S) _ _
theorem prow_le {S : List Nat} (hk : LabOk gw S.length) {pl : Nat} (hpl : pl < S.length) (more : List Nat) (hm : more.length = S.length) : leS more (prow gw acts hs S more pl) :=
  fold_le _ S.length (pstep_len pl) _ _ hm fun a ha m hm => pstep_le pl m a fun j hj => by rw [hm]; exact (hk pl a j hpl (mem8_iff.mp ha).1 hj).2
theorem pround_le {S : List Nat} (hk : LabOk gw S.length) : leS S (pround gw acts hs S) :=
  fold_le _ S.length (prow_len S) _ _ rfl fun pl hpl m hm => prow_le hk (List.mem_range.mp hpl) m hm
/-- an atom of a place is pushed on -/
theorem pround_has {S : List Nat} (hk : LabOk gw S.length) {pl a l : Nat} (hpl : pl < S.length) (ha : a < 8) (hb : (S.getD pl 0).testBit a = true) (hg : gw pl a = .lab l) (y : Nat) (hy : (imgF hs (acts.getD (l - 1) 0) a).testBit y = true) : ((pround gw acts hs S).getD l 0).testBit y = true := by
  refine fold_has (prow gw acts hs S) S.length (prow_len S) (Q := fun U => (U.getD l 0).testBit y = true) (fun S U h q => h l y q) _ _ rfl (fun pl hpl m hm => prow_le hk (List.mem_range.mp hpl) m hm) (List.mem_range.mpr hpl) fun m hm => ?_
  refine fold_has (pstep gw acts hs pl) S.length (pstep_len pl) (Q := fun U => (U.getD l 0).testBit y = true) (fun S U h q => h l y q) _ _ hm (fun a ha m hm => pstep_le pl m a fun j hj => by rw [hm]; exact (hk pl a j hpl (mem8_iff.mp ha).1 hj).2) (mem8_iff.mpr ⟨ha, hb⟩) fun m hm => ?_
  unfold pstep
  rw [hg]
  show ((push m l _).getD l 0).testBit y = true
  rw [push_get _ _ _ _ (by rw [hm]; exact (hk pl a l hpl ha hg).2), if_pos rfl, Nat.testBit_or, hy, Bool.or_true]
/-- nothing else is pushed -/
theorem pround_only {S : List Nat} (hk : LabOk gw S.length) {R : Nat → Nat → Prop} (h0 : ∀ i y, (S.getD i 0).testBit y = true → R i y) (h1 : ∀ pl a l y, pl < S.length → a < 8 → (S.getD pl 0).testBit a = true → gw pl a = .lab l → (imgF hs (acts.getD (l - 1) 0) a).testBit y = true → R l y) :
    ∀ i y, ((pround gw acts hs S).getD i 0).testBit y = true → R i y := by
  have inner : ∀ pl, pl < S.length → ∀ (l : List Nat) (m : List Nat), m.length = S.length → (∀ a ∈ l, a < 8 ∧ (S.getD pl 0).testBit a = true) → (∀ i y, (m.getD i 0).testBit y = true → R i y) → ∀ i y, ((l.foldl (pstep gw acts hs pl) m).getD i 0).testBit y = true → R i y := by
    intro pl hpl l
    induction l with
    | nil => intro m _ _ h; exact h
    | cons a l ih =>
      intro m hm hl h
      rw [List.foldl_cons]
      refine ih _ ((pstep_len pl m a).trans hm) (fun b hb => hl b (List.mem_cons_of_mem _ hb)) fun i y q => ?_
      obtain ⟨ha, hb⟩ := hl a List.mem_cons_self
      unfold pstep at q
      split at q
      · rename_i j hj
        rw [push_get _ _ _ _ (by rw [hm]; exact (hk pl a j hpl ha hj).2)] at q
        split at q
        · rename_i e
          subst e
          rw [Nat.testBit_or, Bool.or_eq_true] at q
          rcases q with q | q
          · exact h _ y q
          · exact h1 pl a _ y hpl ha hb hj q
        · exact h i y q
      · exact h i y q
  have outer : ∀ (l : List Nat) (m : List Nat), m.length = S.length → (∀ pl ∈ l, pl < S.length) → (∀ i y, (m.getD i 0).testBit y = true → R i y) → ∀ i y, ((l.foldl (prow gw acts hs S) m).getD i 0).testBit y = true → R i y := by
    intro l
    induction l with
    | nil => intro m _ _ h; exact h
    | cons pl l ih =>
      intro m hm hl h
      rw [List.foldl_cons]
      refine ih _ ((prow_len S m pl).trans hm) (fun b hb => hl b (List.mem_cons_of_mem _ hb)) ?_
      exact inner pl (hl pl List.mem_cons_self) _ m hm (fun a ha => mem8_iff.mp ha) h
  exact outer _ S rfl (fun pl hp => List.mem_range.mp hp) h0
/-! ### it comes to an end -/
def cntS (S : List Nat) : Nat := (List.range (8 * S.length)).countP fun i => (S.getD (i / 8) 0).testBit (i % 8)
theorem cntS_le (S : List Nat) : cntS S ≤ 8 * S.length := by
  unfold cntS
  exact Nat.le_trans List.countP_le_length (by simp)
def Sets (k : Nat) (S : List Nat) : Prop := S.length = k ∧ ∀ i y, (S.getD i 0).testBit y = true → y < 8
theorem sets_256 {k : Nat} {S : List Nat} (h : Sets k S) (i : Nat) : S.getD i 0 < 256 := by
  apply Classical.byContradiction
  intro hn
  obtain ⟨y, h1, h2⟩ := Nat.exists_ge_and_testBit_of_ge_two_pow (n := 8) (x := S.getD i 0) (by omega)
  have := h.2 i y h2
  omega
theorem cntS_lt {k : Nat} {S U : List Nat} (hS : Sets k S) (hU : Sets k U) (h : leS S U) (ne : U ≠ S) : cntS S < cntS U := by
  unfold cntS
  rw [hS.1, hU.1]
  refine countP_lt _ (fun i _ hp => h _ _ hp) ?_
  apply Classical.byContradiction
  intro hn
  apply ne
  apply List.ext_getElem?
  intro i
  by_cases hi : i < k
  · have e : S.getD i 0 = U.getD i 0 := by
      apply Nat.eq_of_testBit_eq
      intro y
      cases h1 : (S.getD i 0).testBit y with
      | true => exact (h i y h1).symm
      | false =>
        cases h2 : (U.getD i 0).testBit y with
        | false => rfl
        | true =>
          exfalso
          have hy := hU.2 i y h2
          apply hn
          refine ⟨i * 8 + y, List.mem_range.mpr (by omega), ?_, ?_⟩
          · rw [show (i * 8 + y) / 8 = i by omega, show (i * 8 + y) % 8 = y by omega]; exact h1
          · rw [show (i * 8 + y) / 8 = i by omega, show (i * 8 + y) % 8 = y by omega]; exact h2
    rw [List.getD_eq_getElem?_getD, List.getD_eq_getElem?_getD, List.getElem?_eq_getElem (by rw [hS.1]; exact hi), List.getElem?_eq_getElem (by rw [hU.1]; exact hi)] at e
    rw [List.getElem?_eq_getElem (by rw [hU.1]; exact hi), List.getElem?_eq_getElem (by rw [hS.1]; exact hi)]
    exact congrArg some e.symm
  · rw [List.getElem?_eq_none (by rw [hU.1]; omega), List.getElem?_eq_none (by rw [hS.1]; omega)]
theorem pround_sets {k : Nat} {S : List Nat} (hk : LabOk gw k) (h : Sets k S) : Sets k (pround gw acts hs S) := by
  refine ⟨(pround_len S).trans h.1, ?_⟩
  refine pround_only (by rw [h.1]; exact hk) (R := fun _ y => y < 8) h.2 fun pl a l y hpl ha hb hg hy => ?_
  rw [img_bit _ _ ha] at hy
  simp at hy
  exact hy.1
/-! ### the least sets, and leading -/
/-- what the least sets keep -/
structure Lst (gw : Nat → Nat → Go) (acts : List Nat) (hs : List Hy) (k ahead : Nat) (S : List Nat) : Prop where
  sets : Sets k S
  head : ∀ y, y < 8 → ahead.testBit y = true → (S.getD 0 0).testBit y = true
  rc : ∀ i y, (S.getD i 0).testBit y = true → ∃ z, z < 8 ∧ ahead.testBit z = true ∧ Rc gw acts hs (0, z) (i, y)
theorem Lst.round {k ahead : Nat} {S : List Nat} (hk : LabOk gw k) (h : Lst gw acts hs k ahead S) : Lst gw acts hs k ahead (pround gw acts hs S) := by
  have hk' : LabOk gw S.length := by rw [h.sets.1]; exact hk
  refine ⟨pround_sets hk h.sets, fun y hy hb => pround_le hk' 0 y (h.head y hy hb), ?_⟩
  refine pround_only hk' h.rc fun pl a l y hpl ha hb hg hy => ?_
  obtain ⟨z, z1, z2, z3⟩ := h.rc pl a hb
  rw [img_bit _ _ ha] at hy
  simp at hy
  refine ⟨z, z1, z2, .snoc z3 ⟨l, hg, ?_⟩⟩
  unfold nxt
  exact List.mem_map.mpr ⟨y, List.mem_filter.mpr ⟨List.mem_range.mpr hy.1, by simpa using hy.2⟩, rfl⟩
/-- every place that is come to has its atom -/
theorem Lst.all {k ahead : Nat} {S : List Nat} (hk : LabOk gw k) (h : Lst gw acts hs k ahead S) (fix : pround gw acts hs S = S) (hk0 : 0 < k) {z : Nat} (z1 : z < 8) (z2 : ahead.testBit z = true) {q : Nd} (r : Rc gw acts hs (0, z) q) : q.1 < k ∧ q.2 < 8 ∧ (S.getD q.1 0).testBit q.2 = true := by
  have hk' : LabOk gw S.length := by rw [h.sets.1]; exact hk
  induction r with
  | refl => exact ⟨hk0, z1, h.head z z1 z2⟩
  | @snoc q r _ e ih =>
    obtain ⟨i1, i2, i3⟩ := ih
    obtain ⟨l, g1, g2⟩ := e
    unfold nxt at g2
    obtain ⟨y, hy, rfl⟩ := List.mem_map.mp g2
    obtain ⟨hy1, hy2⟩ := List.mem_filter.mp hy
    have hy1 := List.mem_range.mp hy1
    refine ⟨(hk _ _ _ i1 i2 g1).2, hy1, ?_⟩
    rw [← fix]
    refine pround_has hk' (by rw [h.sets.1]; exact i1) i2 i3 g1 y ?_
    rw [img_bit _ _ i2]
    simp [hy1]
    simpa using hy2
end
/-- a bit of the table: a place that is come to, at which one ends -/
theorem tab_rc {hs : List Hy} {ps : List Pg} {gw : Nat → Nat → Go} (G : GoW ps gw) {x : Nat} (hx : x < 8) (y : Nat) : bitAt (tabB hs ps same) x y = true ↔ ∃ l, Rc gw (actsOf ps) hs (0, x) (l, y) ∧ gw l y = .ends := by
  rw [← Rn.bit hx]
  constructor
  · intro h
    exact ac_rc G h.ac 0 (Nat.zero_le _) hx rfl .refl
  · rintro ⟨l, h1, h2⟩
    obtain ⟨⟨h3, h4⟩, h5⟩ := rc_rn G (st := (0, x)) ⟨Nat.zero_le _, hx⟩ h1
    have e := G.ends l y h3 h4
    rw [h2] at e
    exact h5 y (e.rn (.fin y))
theorem lab_ok {ps : List Pg} {gw : Nat → Nat → Go} (G : GoW ps gw) : LabOk gw ((actsOf ps).length + 1) := fun l a j hl ha h => by
  obtain ⟨_, _, g1, g2, _⟩ := go_lab G (by omega) ha h
  exact ⟨g1, by omega⟩
/-- the least sets are closed just if the program leads -/
theorem least_closed {hs : List Hy} {ps : List Pg} {gw : Nat → Nat → Go} (G : GoW ps gw) {ahead behind : Nat} {S : List Nat} (h : Lst gw (actsOf ps) hs ((actsOf ps).length + 1) ahead S) (fix : pround gw (actsOf ps) hs S = S) :
    closedB gw (actsOf ps) hs behind S = wthn (unite (tabB hs ps same) ahead) behind := by
  have hk := lab_ok G
  have hk' : LabOk gw S.length := by rw [h.sets.1]; exact hk
  rw [Bool.eq_iff_iff, closed_iff, lead_iff (tabB_tab hs ps same tab_same)]
  constructor
  · intro hc z hz hb
    rw [wthn_iff]
    intro y hy hyb
    obtain ⟨l, r, e⟩ := (tab_rc G hz y).mp hyb
    obtain ⟨q1, q2, q3⟩ := h.all hk fix (by omega) hz hb r
    have := hc l y (by rw [h.sets.1]; exact q1) q2 q3
    unfold viol at this
    rw [e] at this
    simpa using this
  · intro hl pl a hpl ha hb
    unfold viol
    cases hg : gw pl a with
    | stops => rfl
    | ends =>
      obtain ⟨z, z1, z2, z3⟩ := h.rc pl a hb
      have := wthn_iff.mp (hl z z1 z2) a ha ((tab_rc G z1 a).mpr ⟨pl, z3, hg⟩)
      simp [this]
    | lab l =>
      have : wthn (imgF hs ((actsOf ps).getD (l - 1) 0) a) (S.getD l 0) = true := by
        rw [wthn_iff]
        intro y hy hyb
        rw [← fix]
        exact pround_has hk' hpl ha hb hg y hyb
      show (!wthn _ _) = false
      rw [this]
      rfl
end Tw

set_option Elab.async false
set_option linter.all false
set_option maxRecDepth 100000
set_option maxHeartbeats 4000000
/-! TwX: least_sets is evaluated. -/
namespace Tw
open PySem L2 TW
structure LibS (Γ : List TW.Fn) (x : Ix) : Prop where
  pushed : Γ[x.f_pushed]? = some (cc_pushed x)
  least_sets : Γ[x.f_least_sets]? = some (cc_least_sets x)
  are_closed : Γ[x.f_are_closed]? = some (cc_are_closed x)
  fits_sets : Γ[x.f_fits_sets]? = some (cc_fits_sets x)
  place_sets : Γ[x.f_place_sets]? = some (cc_place_sets x)
  takes_places : Γ[x.f_takes_places]? = some (cc_takes_places x)
structure LibG (Γ : List TW.Fn) (x : Ix) : Prop where
  need_whole : Γ[x.f_need_whole]? = some (cc_need_whole x)
  need_set : Γ[x.f_need_set]? = some (cc_need_set x)
  is_within : Γ[x.f_is_within]? = some (cc_is_within x)
  need_all : Γ[x.f_need_all]? = some (cc_need_all x)
section
variable {P : Pm} {Γ : List TW.Fn} {lf n : Nat} {x : Ix} {s r : Sto} (A : LibA Γ x) (E : LibG Γ x)
include A E
theorem need_set2 {v : Nat} (h : v < 256) : run P Γ lf (n + 3) x.f_need_set [nT v] s = .ok (.val .non) s := by
  rw [run_at E.need_set rfl]
  have w := is_whole_ev (P := P) (lf := lf) (n := n) (s := s) A.is_whole (v : Int) 0 255
  have h2 : (v : Int) ≤ 255 := by omega
  have w2 : run P Γ lf (n + 2) x.f_need_whole [.int v, .int 0, .int 255] s = .ok (.val .non) s := by
    rw [run_at E.need_whole rfl]
    simp (implicitDefEqProofs := false) [cc_need_whole, startE_def, opd, w, h2]
  simp (implicitDefEqProofs := false) [cc_need_set, startE_def, opd, nT, w2]
omit A in
theorem is_within2 {own other : Nat} (h : own < 256) (h2 : other < 256) : run P Γ lf (n + 1) x.f_is_within [nT own, nT other] s = .ok (.val (.bl (wthn own other))) s := by
  rw [run_at E.is_within rfl]
  have e1 : intOp .sub 255 (other : Int) = some ((255 - other : Nat) : Int) := by
    rw [intOp_sub]
    congr 1
    omega
  have e2 : intOp .band (own : Int) ((255 - other : Nat) : Int) = some ((own &&& (255 - other) : Nat) : Int) := intOp_band _ _
  rw [← within_and h h2]
  generalize (255 - other : Nat) = k at e1 e2 ⊢
  generalize (own &&& k : Nat) = j at e2 ⊢
  rw [intOp_sub] at e1
  have e1 := Option.some.inj e1
  simp (implicitDefEqProofs := false) [cc_is_within, startE_def, opd, nT, e1, e2]
end
theorem set_cut : ∀ (S : List T) (l : Nat) (v : T), l < S.length → S.take l ++ ([v] ++ S.drop (l + 1)) = S.set l v
  | [], l, v, h => absurd h (Nat.not_lt_zero _)
  | a :: S, 0, v, _ => rfl
  | a :: S, l + 1, v, h => by
    rw [List.take_succ_cons, List.drop_succ_cons, List.set_cons_succ, List.cons_append, set_cut S l v (by simpa using h)]
theorem mul_rep (s : Sto) (v : Nat) {k : Nat} (hk : k ≤ 1000) : opBin s .mul (.tup [nT v]) (.int (k : Int)) = some (.val (tbT (List.replicate k v))) := by
  show mulT s (.tup [nT v]) (.int (k : Int)) = _
  unfold mulT tbT
  by_cases k1 : k = 1
  · subst k1; rfl
  · by_cases k0 : k = 0
    · subst k0; rfl
    · have h2 : (decide (2 ≤ (k : Int)) && decide ((k : Int) ≤ 1000)) = true := by simp; omega
      simp [h2]
theorem map_set_n (S : List Nat) (l v : Nat) : (S.map nT).set l (nT v) = (S.set l v).map nT := by rw [List.map_set]
section
variable {P : Pm} {Γ : List TW.Fn} {lf n : Nat} {x : Ix} {s r : Sto} (A : LibA Γ x) (C : LibC Γ x) (L : LibR Γ x) (H : LibS Γ x)
include H
theorem pushed_ev {S : List Nat} {l : Nat} (hl : l < S.length) (hS : S.length ≤ 1000) (m : Nat) : run P Γ lf (n + 1) x.f_pushed [tbT S, nT l, nT m] s = .ok (.val (tbT (push S l m))) s := by
  rw [run_at H.pushed rfl]
  have i1 : atI (S.map nT) (l : Int) = some (nT (S.getD l 0)) := atI_tb hl
  have c1 : cutT (S.map nT) none (some (l : Int)) = (S.map nT).take l := cut_to _ _
  have c2 : cutT (S.map nT) (some ((l : Int) + 1)) none = (S.map nT).drop (l + 1) := by
    rw [show ((l : Int) + 1) = ((l + 1 : Nat) : Int) by omega]
    exact cut_from _ _ (by simp; omega)
  have e := set_cut (S.map nT) l (nT (S.getD l 0 ||| m)) (by simpa using hl)
  rw [map_set_n] at e
  have fl : ((S.map nT).take l).length ≤ 1000 := by rw [List.length_take, List.length_map]; omega
  have fd : ((S.map nT).drop (l + 1)).length ≤ 1000 := by rw [List.length_drop, List.length_map]; omega
  unfold push tbT
  generalize S.set l (S.getD l 0 ||| m) = U at *
  generalize S.getD l 0 = v at *
  generalize S.map nT = M at *
  generalize M.take l = M1 at *
  generalize M.drop (l + 1) = M2 at *
  have f1 : M1.length + 1 ≤ 16777216 := by omega
  have f2 : M1.length + (M2.length + 1) ≤ 16777216 := by omega
  have f3 : M1.length + 1 + M2.length ≤ 16777216 := by omega
  simp (implicitDefEqProofs := false) [cc_pushed, startE_def, opd, nT, fits, i1, c1, c2, intOp_bor, f1, f2, f3]
  rw [← e]
  simp [nT]
end
def lsE (ps : List Pg) (hs : List Hy) (ahead : Nat) (gw : Nat → Nat → Go) (S U : List Nat) (j7 j8 j9 : Option T) : TW.Env :=
  [.val (tupP ps), .val (hT hs), .val (nT ahead), .val (gT ps gw), .val (aT ps), .val (tbT S), .val (tbT U), sl j7, sl j8, sl j9]
def lsF (ps : List Pg) (hs : List Hy) (ahead : Nat) (gw : Nat → Nat → Go) (S : List Nat) (j6 j7 j8 j9 : Option T) : TW.Env :=
  [.val (tupP ps), .val (hT hs), .val (nT ahead), .val (gT ps gw), .val (aT ps), .val (tbT S), sl j6, sl j7, sl j8, sl j9]
theorem whGo_rt {c : TW.Env → Sto → R Bool} {b : TW.Env → Sto → Out} {m : Nat} {env : TW.Env} {s s' : Sto} {w : Ow} (hc : c env s = .ok true s) (hb : b env s = .rt w s') : whGo c b (m + 1) env s = .rt w s' := by
  simp [whGo, hc, hb]
theorem whGo_nx {c : TW.Env → Sto → R Bool} {b : TW.Env → Sto → Out} {m : Nat} {env env' : TW.Env} {s s' : Sto} (hc : c env s = .ok true s) (hb : b env s = .nx env' s') : whGo c b (m + 1) env s = whGo c b m env' s' := by
  simp [whGo, hc, hb]
def lsBody (x : Ix) : List TW.S := match (cc_least_sets x).body with
  | [_, _, .whl _ b] => b
  | _ => []
def lsIn (x : Ix) : List TW.S := match lsBody x with
  | [_, .for_ _ _ _ [.for_ _ _ _ b], _, _] => b
  | _ => []
theorem least_eq (x : Ix) : cc_least_sets x = ⟨3, 10, [.par [0, 0] [3, 4] [.call x.f_goings_in [.var 0], .call x.f_actions_in_places [.var 0]], .asg [2] 5 (.call x.f_pushed [.bin .mul (.tup [.con (.int 0)]) (.blt .len (.pk 3)), .con (.int 0), .var 2]), .whl (.con (.bl true)) (lsBody x)]⟩ := rfl
theorem lsBody_eq (x : Ix) : lsBody x = [.asg [5] 6 (.var 5), .for_ [] (.nm 7) (.rng1 (.blt .len (.pk 3))) [.for_ [7] (.nm 8) (.seq (.call x.f_members [.ix (.pk 5) (.var 7)])) (lsIn x)], .ifs [] (.cmp .eq (.pk 6) (.pk 5)) [.retv 5] [], .asg [6] 5 (.var 6)] := rfl
theorem gT_at (ps : List Pg) (gw : Nat → Nat → Go) {l a : Nat} (hl : l ≤ (actsOf ps).length) (ha : a < 8) (st : Sto) : ∃ row, ixT P st (gT ps gw) (nT l) = some row ∧ ixT P st row (nT a) = some (.int (codeG (gw l a))) := by
  refine ⟨.tup ((List.range 8).map fun a => .int (codeG (gw l a))), ?_, ?_⟩
  · show atI ((List.range ((actsOf ps).length + 1)).map fun l => T.tup ((List.range 8).map fun a => .int (codeG (gw l a)))) (l : Int) = _
    exact atI_at (by rw [List.getElem?_map, List.getElem?_range (by omega)]; rfl)
  · show atI ((List.range 8).map fun a => T.int (codeG (gw l a))) (a : Int) = _
    exact atI_at (by rw [List.getElem?_map, List.getElem?_range ha]; rfl)
theorem aT_at (ps : List Pg) {l : Nat} (h1 : 1 ≤ l) (h2 : l ≤ (actsOf ps).length) (st : Sto) : ixT P st (aT ps) (nT l) = some (nT ((actsOf ps).getD (l - 1) 0)) := by
  show atI (.int (-1) :: (actsOf ps).map nT) (l : Int) = _
  refine atI_at ?_
  obtain ⟨k, rfl⟩ : ∃ k, l = k + 1 := ⟨l - 1, by omega⟩
  rw [List.getElem?_cons_succ, List.getElem?_map, List.getElem?_eq_getElem (by omega), List.getD_eq_getElem?_getD, show k + 1 - 1 = k by omega, List.getElem?_eq_getElem (by omega)]
  rfl
section
variable {P : Pm} {Γ : List TW.Fn} {lf n : Nat} {x : Ix} {s r : Sto} (A : LibA Γ x) (C : LibC Γ x) (L : LibR Γ x) (H : LibS Γ x)
include A H
/-- one atom -/
theorem ls_atom {ps : List Pg} {hs : List Hy} (hh : hs.length ≤ 100) (ha1 : (actsOf ps).length ≤ 200) (ahead : Nat) {gw : Nat → Nat → Go} (hk : LabOk gw ((actsOf ps).length + 1)) (S U : List Nat) (hU : U.length = (actsOf ps).length + 1) {pl a : Nat} (hpl : pl ≤ (actsOf ps).length) (ha : a < 8) (j8 j9 : Option T) :
    evSs P (run P Γ lf (n + 4)) lf (lsIn x) ((lsE ps hs ahead gw S U (some (nT pl)) j8 j9).set 8 (.val (nT a))) s = .nx (lsE ps hs ahead gw S (pstep gw (actsOf ps) hs pl U a) (some (nT pl)) (some (nT a)) (some (.int (codeG (gw pl a))))) s := by
  obtain ⟨row, g1, g2⟩ := gT_at (P := P) ps gw hpl ha s
  have hk := hk pl a
  unfold pstep
  cases hg : gw pl a with
  | ends =>
    rw [hg] at g2
    simp (implicitDefEqProofs := false) [lsIn, lsBody, cc_least_sets, lsE, opd, g1, g2, codeG]
  | stops =>
    rw [hg] at g2
    simp (implicitDefEqProofs := false) [lsIn, lsBody, cc_least_sets, lsE, opd, g1, g2, codeG]
  | lab l =>
    obtain ⟨l1, l2⟩ := hk l (by omega) ha hg
    rw [hg] at g2
    have a1 := aT_at (P := P) ps l1 (by omega) s
    have im : run P Γ lf (n + 4) x.f_image [hT hs, nT ((actsOf ps).getD (l - 1) 0), nT (1 <<< a)] s = .ok (.val (nT (imgF hs ((actsOf ps).getD (l - 1) 0) a))) s := image_ev A hs hh _ _
    have pu := pushed_ev (P := P) (lf := lf) (n := n + 3) (s := s) H (S := U) (l := l) (by omega) (by omega) (imgF hs ((actsOf ps).getD (l - 1) 0) a)
    have sh := intOp_shl1 a (by omega)
    have l0 : 0 < l := l1
    show _ = Out.nx (lsE ps hs ahead gw S (push U l (imgF hs ((actsOf ps).getD (l - 1) 0) a)) (some (nT pl)) (some (nT a)) (some (.int (codeG (.lab l))))) s
    generalize (actsOf ps).getD (l - 1) 0 = c at *
    generalize imgF hs c a = m at *
    generalize push U l m = U2 at *
    generalize (1 <<< a : Nat) = b at *
    simp only [nT] at pu im a1 g1 g2 sh
    simp (implicitDefEqProofs := false) [lsIn, lsBody, cc_least_sets, lsE, opd, g1, g2, codeG, l0, a1, sh, im, pu, nT]
/-- a place's row -/
theorem ls_row {ps : List Pg} {hs : List Hy} (hh : hs.length ≤ 100) (ha1 : (actsOf ps).length ≤ 200) (ahead : Nat) {gw : Nat → Nat → Go} (hk : LabOk gw ((actsOf ps).length + 1)) (S U : List Nat) (hS : S.length = (actsOf ps).length + 1) (hU : U.length = (actsOf ps).length + 1) {pl : Nat} (hpl : pl ≤ (actsOf ps).length) (j8 j9 : Option T) :
    ∃ j8' j9', evSs P (run P Γ lf (n + 4)) lf [.for_ [7] (.nm 8) (.seq (.call x.f_members [.ix (.pk 5) (.var 7)])) (lsIn x)] (lsE ps hs ahead gw S U (some (nT pl)) j8 j9) s = .nx (lsE ps hs ahead gw S (prow gw (actsOf ps) hs S U pl) (some (nT pl)) j8' j9') s := by
  have i1 : ixT P s (tbT S) (nT pl) = some (nT (S.getD pl 0)) := atI_tb (by omega)
  have m1 : run P Γ lf (n + 4) x.f_members [nT (S.getD pl 0)] s = .ok (.own (.lst ((mem8 (S.getD pl 0)).map nT))) s := members_ev (n := n + 2) A.has A.members _
  have m8 : ∀ a ∈ mem8 (S.getD pl 0), a < 8 := fun a ha => (mem8_iff.mp ha).1
  unfold prow
  generalize mem8 (S.getD pl 0) = ms at *
  generalize S.getD pl 0 = v at *
  have lo : ∀ U : List Nat, U.length = (actsOf ps).length + 1 → ∀ j8 j9, ∀ b, (∀ a, a < 8 → ∀ (U : List Nat) j8 j9, b (nT a) (lsE ps hs ahead gw S U (some (nT pl)) j8 j9) s = evSs P (run P Γ lf (n + 4)) lf (lsIn x) ((lsE ps hs ahead gw S U (some (nT pl)) j8 j9).set 8 (.val (nT a))) s) →
      ∃ j8' j9', forGo b (ms.map nT) (lsE ps hs ahead gw S U (some (nT pl)) j8 j9) s = .nx (lsE ps hs ahead gw S (ms.foldl (pstep gw (actsOf ps) hs pl) U) (some (nT pl)) j8' j9') s := by
    clear m1
    induction ms with
    | nil => intro U _ j8 j9 b _; exact ⟨j8, j9, rfl⟩
    | cons a ms ih =>
      intro U hU j8 j9 b hb
      obtain ⟨k8, k9, e⟩ := ih (fun a ha => m8 a (List.mem_cons_of_mem _ ha)) (pstep gw (actsOf ps) hs pl U a) ((pstep_len _ _ _).trans hU) (some (nT a)) (some (.int (codeG (gw pl a)))) b hb
      refine ⟨k8, k9, ?_⟩
      have a8 := m8 a List.mem_cons_self
      rw [List.map_cons, forGo, hb a a8, ls_atom A H hh ha1 ahead hk S U hU hpl a8, List.foldl_cons]
      exact e
  obtain ⟨k8, k9, e⟩ := lo U hU j8 j9 (fun t env s => match Tg.put env (.nm 8) t with
      | some env' => evSs P (run P Γ lf (n + 4)) lf (lsIn x) env' s
      | none => .bad) (fun a ha U j8 j9 => rfl)
  refine ⟨k8, k9, ?_⟩
  rw [xss_cons, xs_for]
  have fz : frzE (lsE ps hs ahead gw S U (some (nT pl)) j8 j9) [7] = lsE ps hs ahead gw S U (some (nT pl)) j8 j9 := rfl
  rw [fz]
  have ev : evI P (run P Γ lf (n + 4)) (lsE ps hs ahead gw S U (some (nT pl)) j8 j9) (.seq (.call x.f_members [.ix (.pk 5) (.var 7)])) s = .ok (ms.map nT) s := by
    simp (implicitDefEqProofs := false) [lsE, opd, i1, m1]
  rw [ev]
  show (forGo _ (ms.map nT) _ s).seq _ = _
  refine (congrArg (fun o => Out.seq o _) e).trans ?_
  rfl
/-- a round -/
theorem ls_round {ps : List Pg} {hs : List Hy} (hh : hs.length ≤ 100) (ha1 : (actsOf ps).length ≤ 200) (ahead : Nat) {gw : Nat → Nat → Go} (hk : LabOk gw ((actsOf ps).length + 1)) (S : List Nat) (hS : S.length = (actsOf ps).length + 1) (j6 j7 j8 j9 : Option T) :
    ∃ j7' j8' j9', evSs P (run P Γ lf (n + 4)) lf (lsBody x) (lsF ps hs ahead gw S j6 j7 j8 j9) s = if pround gw (actsOf ps) hs S = S then .rt (.val (tbT S)) s else .nx (lsF ps hs ahead gw (pround gw (actsOf ps) hs S) (some (tbT (pround gw (actsOf ps) hs S))) j7' j8' j9') s := by
  have lo : ∀ (l : List Nat) (U : List Nat), (∀ pl ∈ l, pl ≤ (actsOf ps).length) → U.length = (actsOf ps).length + 1 → ∀ j7 j8 j9, ∀ b, (∀ pl, ∀ (U : List Nat) j7 j8 j9, b (nT pl) (lsE ps hs ahead gw S U j7 j8 j9) s = evSs P (run P Γ lf (n + 4)) lf [.for_ [7] (.nm 8) (.seq (.call x.f_members [.ix (.pk 5) (.var 7)])) (lsIn x)] (lsE ps hs ahead gw S U (some (nT pl)) j8 j9) s) →
      ∃ j7' j8' j9', forGo b (l.map nT) (lsE ps hs ahead gw S U j7 j8 j9) s = .nx (lsE ps hs ahead gw S (l.foldl (prow gw (actsOf ps) hs S) U) j7' j8' j9') s := by
    intro l
    induction l with
    | nil => intro U _ _ j7 j8 j9 b _; exact ⟨j7, j8, j9, rfl⟩
    | cons a l ih =>
      intro U hl hU j7 j8 j9 b hb
      obtain ⟨m8, m9, e1⟩ := ls_row (P := P) (lf := lf) (n := n) (s := s) A H hh ha1 ahead hk S U hS hU (hl a List.mem_cons_self) j8 j9
      obtain ⟨k7, k8, k9, e⟩ := ih (prow gw (actsOf ps) hs S U a) (fun b hb => hl b (List.mem_cons_of_mem _ hb)) ((prow_len _ _ _).trans hU) (some (nT a)) m8 m9 b hb
      refine ⟨k7, k8, k9, ?_⟩
      rw [List.map_cons, forGo, hb, e1, List.foldl_cons]
      exact e
  obtain ⟨k7, k8, k9, e⟩ := lo (List.range S.length) S (fun pl h => by have := List.mem_range.mp h; omega) hS j7 j8 j9 (fun t env s => match Tg.put env (.nm 7) t with
      | some env' => evSs P (run P Γ lf (n + 4)) lf [.for_ [7] (.nm 8) (.seq (.call x.f_members [.ix (.pk 5) (.var 7)])) (lsIn x)] env' s
      | none => .bad) (fun pl U j7 j8 j9 => rfl)
  refine ⟨k7, k8, k9, ?_⟩
  rw [lsBody_eq]
  have s1 : evS P (run P Γ lf (n + 4)) lf (.asg [5] 6 (.var 5)) (lsF ps hs ahead gw S j6 j7 j8 j9) s = .nx (lsE ps hs ahead gw S S j7 j8 j9) s := by
    simp (implicitDefEqProofs := false) [lsE, lsF]
  have s2 : evS P (run P Γ lf (n + 4)) lf (.for_ [] (.nm 7) (.rng1 (.blt .len (.pk 3))) [.for_ [7] (.nm 8) (.seq (.call x.f_members [.ix (.pk 5) (.var 7)])) (lsIn x)]) (lsE ps hs ahead gw S S j7 j8 j9) s = .nx (lsE ps hs ahead gw S (pround gw (actsOf ps) hs S) k7 k8 k9) s := by
    rw [xs_for]
    have fz : frzE (lsE ps hs ahead gw S S j7 j8 j9) [] = lsE ps hs ahead gw S S j7 j8 j9 := rfl
    rw [fz]
    have gl : bltT s .len (gT ps gw) = some (.val (.int ((S.length : Nat) : Int))) := by
      unfold gT
      rw [b_lenT, List.length_map, List.length_range, hS]
    have rg : rngT 0 ((S.length : Nat) : Int) = (List.range S.length).map nT := rngT_nat _
    have sm : small62 ((S.length : Nat) : Int) = true := by unfold small62; simp; omega
    have ev : evI P (run P Γ lf (n + 4)) (lsE ps hs ahead gw S S j7 j8 j9) (.rng1 (.blt .len (.pk 3))) s = .ok ((List.range S.length).map nT) s := by
      generalize ((S.length : Nat) : Int) = k at gl rg sm
      simp (implicitDefEqProofs := false) [lsE, opd, gl, rg, sm]
    rw [ev]
    exact e
  rw [xss_cons, s1, seq_nx, xss_cons, s2, seq_nx]
  have eq1 := eqO_tb s (pround gw (actsOf ps) hs S) S
  generalize pround gw (actsOf ps) hs S = U at *
  by_cases hU : U = S
  · subst hU
    simp at eq1
    simp (implicitDefEqProofs := false) [lsE, opd, eq1]
  · simp [hU] at eq1
    simp (implicitDefEqProofs := false) [lsE, lsF, opd, eq1, hU]
/-- the rounds -/
theorem ls_loop {ps : List Pg} {hs : List Hy} (hh : hs.length ≤ 100) (ha1 : (actsOf ps).length ≤ 200) (ahead : Nat) {gw : Nat → Nat → Go} (hk : LabOk gw ((actsOf ps).length + 1)) : ∀ (m : Nat) (S : List Nat) (j6 j7 j8 j9 : Option T), Lst gw (actsOf ps) hs ((actsOf ps).length + 1) ahead S → 8 * S.length - cntS S < m →
    ∃ S', whGo (fun env s => evC P (run P Γ lf (n + 4)) env (some (.con (.bl true))) s) (fun env s => evSs P (run P Γ lf (n + 4)) lf (lsBody x) env s) m (lsF ps hs ahead gw S j6 j7 j8 j9) s = .rt (.val (tbT S')) s ∧ Lst gw (actsOf ps) hs ((actsOf ps).length + 1) ahead S' ∧ pround gw (actsOf ps) hs S' = S'
  | 0, _, _, _, _, _, _, h => by omega
  | m + 1, S, j6, j7, j8, j9, hL, hm => by
    obtain ⟨k7, k8, k9, e⟩ := ls_round (P := P) (lf := lf) (n := n) (s := s) A H hh ha1 ahead hk S hL.sets.1 j6 j7 j8 j9
    have c : (fun env s => evC P (run P Γ lf (n + 4)) env (some (.con (.bl true))) s) (lsF ps hs ahead gw S j6 j7 j8 j9) s = .ok true s := by
      simp (implicitDefEqProofs := false)
    have hk' : LabOk gw S.length := by rw [hL.sets.1]; exact hk
    by_cases hf : pround gw (actsOf ps) hs S = S
    · refine ⟨S, ?_, hL, hf⟩
      rw [if_pos hf] at e
      exact whGo_rt c e
    · have lt := cntS_lt hL.sets (hL.round hk).sets (pround_le hk') hf
      have l2 := cntS_le (pround gw (actsOf ps) hs S)
      have l3 := pround_len (gw := gw) (acts := actsOf ps) (hs := hs) S
      obtain ⟨S', e2, h2, h3⟩ := ls_loop hh ha1 ahead hk m (pround gw (actsOf ps) hs S) (some (tbT (pround gw (actsOf ps) hs S))) k7 k8 k9 (hL.round hk) (by rw [l3] at l2 ⊢; omega)
      refine ⟨S', ?_, h2, h3⟩
      rw [if_neg hf] at e
      exact (whGo_nx c e).trans e2
include C L
theorem least_ev (hlf : 1100000 < lf) {ps : List Pg} (hne : ps ≠ []) (hg : hgts ps ≤ 25) (hz : sizes ps ≤ 200) (hok : oks ps = true) {hs : List Hy} (hh : hs.length ≤ 100) {ahead : Nat} (h1 : ahead < 256) (s : Sto) :
    ∃ gw S, GoW ps gw ∧ Lst gw (actsOf ps) hs ((actsOf ps).length + 1) ahead S ∧ pround gw (actsOf ps) hs S = S ∧ run P Γ lf (n + 57) x.f_least_sets [tupP ps, hT hs, nT ahead] s = .ok (.val (tbT S)) s := by
  obtain ⟨gw, G, ge⟩ := goings_ev (P := P) (lf := lf) (n := n) A C L (by omega) hne hg (by omega) hok s
  have ae : run P Γ lf (n + 56) x.f_actions_in_places [tupP ps] s = .ok (.val (aT ps)) s := actions_p_ev (n := n + 28) C L hg (by omega) hok
  have al := acts_le ps
  have hk := lab_ok G
  have z0 : ∀ i, (List.replicate ((actsOf ps).length + 1) 0).getD i 0 = 0 := fun i => by
    rw [List.getD_eq_getElem?_getD, List.getElem?_replicate]
    split <;> rfl
  have p0 : ∀ i, (push (List.replicate ((actsOf ps).length + 1) 0) 0 ahead).getD i 0 = if i = 0 then ahead else 0 := fun i => by
    rw [push_get _ _ _ _ (by simp), z0, z0, Nat.zero_or]
  have l0 : (push (List.replicate ((actsOf ps).length + 1) 0) 0 ahead).length = (actsOf ps).length + 1 := by rw [push_len, List.length_replicate]
  have hL : Lst gw (actsOf ps) hs ((actsOf ps).length + 1) ahead (push (List.replicate ((actsOf ps).length + 1) 0) 0 ahead) := ⟨⟨l0, fun i y hb => by
    rw [p0] at hb
    split at hb
    · exact bit_lt8 h1 hb
    · simp at hb⟩, fun y hy hb => by rw [p0, if_pos rfl]; exact hb, fun i y hb => by
    rw [p0] at hb
    split at hb
    · rename_i e
      subst e
      exact ⟨y, bit_lt8 h1 hb, hb, .refl⟩
    · simp at hb⟩
  obtain ⟨S, e, h2, h3⟩ := ls_loop (P := P) (lf := lf) (n := n + 52) (s := s) A H hh (by omega) ahead hk lf _ none none none none hL (by rw [l0]; omega)
  refine ⟨gw, S, G, h2, h3, ?_⟩
  rw [run_at H.least_sets (by rw [least_eq]; rfl), least_eq]
  show (evSs P (run P Γ lf (n + 56)) lf [.par [0, 0] [3, 4] [.call x.f_goings_in [.var 0], .call x.f_actions_in_places [.var 0]], .asg [2] 5 (.call x.f_pushed [.bin .mul (.tup [.con (.int 0)]) (.blt .len (.pk 3)), .con (.int 0), .var 2]), .whl (.con (.bl true)) (lsBody x)] [.val (tupP ps), .val (hT hs), .val (nT ahead), .no, .no, .no, .no, .no, .no, .no] s).res = _
  have s1 : evS P (run P Γ lf (n + 56)) lf (.par [0, 0] [3, 4] [.call x.f_goings_in [.var 0], .call x.f_actions_in_places [.var 0]]) [.val (tupP ps), .val (hT hs), .val (nT ahead), .no, .no, .no, .no, .no, .no, .no] s = .nx [.val (tupP ps), .val (hT hs), .val (nT ahead), .val (gT ps gw), .val (aT ps), .no, .no, .no, .no, .no] s := by
    simp (implicitDefEqProofs := false) [ge, ae]
  have gl : bltT s .len (gT ps gw) = some (.val (.int (((actsOf ps).length + 1 : Nat) : Int))) := by
    unfold gT
    rw [b_lenT, List.length_map, List.length_range]
  have ml : opBin s .mul (.tup [.int 0]) (.int (((actsOf ps).length + 1 : Nat) : Int)) = some (.val (tbT (List.replicate ((actsOf ps).length + 1) 0))) := by
    exact mul_rep s 0 (by omega)
  have pu := pushed_ev (P := P) (lf := lf) (n := n + 55) (s := s) H (S := List.replicate ((actsOf ps).length + 1) 0) (l := 0) (by simp) (by simp; omega) ahead
  have s2 : evS P (run P Γ lf (n + 56)) lf (.asg [2] 5 (.call x.f_pushed [.bin .mul (.tup [.con (.int 0)]) (.blt .len (.pk 3)), .con (.int 0), .var 2])) [.val (tupP ps), .val (hT hs), .val (nT ahead), .val (gT ps gw), .val (aT ps), .no, .no, .no, .no, .no] s = .nx (lsF ps hs ahead gw (push (List.replicate ((actsOf ps).length + 1) 0) 0 ahead) none none none none) s := by
    generalize push (List.replicate ((actsOf ps).length + 1) 0) 0 ahead = U at *
    generalize List.replicate ((actsOf ps).length + 1) 0 = Z at *
    generalize (((actsOf ps).length + 1 : Nat) : Int) = k at *
    have pu : run P Γ lf (n + 56) x.f_pushed [tbT Z, .int 0, nT ahead] s = .ok (.val (tbT U)) s := pu
    simp (implicitDefEqProofs := false) [lsF, opd, fits, gl, ml, pu]
  rw [xss_cons, s1, seq_nx, xss_cons, s2, seq_nx, xss_cons, xs_whl]
  have e' := congrArg (fun o => (Out.seq o fun env' s' => evSs P (run P Γ lf (n + 56)) lf [] env' s').res) e
  exact e'
end
end Tw

set_option Elab.async false
set_option linter.all false
set_option maxRecDepth 100000
set_option maxHeartbeats 4000000
/-! TwY: are_closed, place_sets, fits_sets, takes_places. -/
namespace Tw
open PySem L2 TW
theorem closed_congr {gw gw2 : Nat → Nat → Go} {acts : List Nat} {hs : List Hy} {behind : Nat} {S : List Nat} (h : ∀ l a, l < S.length → a < 8 → gw l a = gw2 l a) : closedB gw acts hs behind S = closedB gw2 acts hs behind S := by
  rw [Bool.eq_iff_iff, closed_iff, closed_iff]
  constructor
  · intro q pl a h1 h2 h3
    have := q pl a h1 h2 h3
    unfold viol at this ⊢
    rw [← h pl a h1 h2]
    exact this
  · intro q pl a h1 h2 h3
    have := q pl a h1 h2 h3
    unfold viol at this ⊢
    rw [h pl a h1 h2]
    exact this
theorem enum_nat : ∀ (S : List Nat) (k : Nat), enumT k (S.map nT) = (S.zipIdx k).map fun q => T.tup [nT q.2, nT q.1]
  | [], _ => rfl
  | p :: q, k => by
    rw [List.map_cons, enumT, enum_nat q (k + 1), List.zipIdx_cons, List.map_cons]
    rfl
def acE (ps : List Pg) (hs : List Hy) (behind : Nat) (S : List Nat) (gw : Nat → Nat → Go) (j : Option T × Option T × Option T × Option T) : TW.Env :=
  [.val (tupP ps), .val (hT hs), .val (nT behind), .val (tbT S), .val (gT ps gw), .val (aT ps), sl j.1, sl j.2.1, sl j.2.2.1, sl j.2.2.2]
def acIn (x : Ix) : List TW.S := match (cc_are_closed x).body with
  | [_, .for_ _ _ _ [.for_ _ _ _ b], _] => b
  | _ => []
theorem closed_eq (x : Ix) : cc_are_closed x = ⟨4, 10, [.par [0, 0] [4, 5] [.call x.f_goings_in [.var 0], .call x.f_actions_in_places [.var 0]], .for_ [3] (.tp [6, 7]) (.enum (.var 3)) [.for_ [7] (.nm 8) (.seq (.call x.f_members [.var 7])) (acIn x)], .ret [] (.con (.bl true))]⟩ := rfl
section
variable {P : Pm} {Γ : List TW.Fn} {lf n : Nat} {x : Ix} {s r : Sto} (A : LibA Γ x) (C : LibC Γ x) (L : LibR Γ x) (E : LibG Γ x) (H : LibS Γ x)
include A E
/-- one atom -/
theorem ac_atom {ps : List Pg} {hs : List Hy} (hh : hs.length ≤ 100) (behind : Nat) {gw : Nat → Nat → Go} (hk : LabOk gw ((actsOf ps).length + 1)) {S : List Nat} (hS : S.length = (actsOf ps).length + 1) (h256 : ∀ i, S.getD i 0 < 256) {pl a : Nat} (hpl : pl ≤ (actsOf ps).length) (ha : a < 8) (own : Nat) (j8 j9 : Option T) :
    if viol gw (actsOf ps) hs behind S pl a = true then evSs P (run P Γ lf (n + 4)) lf (acIn x) (acE ps hs behind S gw (some (nT pl), some (nT own), some (nT a), j9)) s = .rt (.val (.bl false)) s
    else evSs P (run P Γ lf (n + 4)) lf (acIn x) (acE ps hs behind S gw (some (nT pl), some (nT own), some (nT a), j9)) s = .nx (acE ps hs behind S gw (some (nT pl), some (nT own), some (nT a), some (.int (codeG (gw pl a))))) s := by
  obtain ⟨row, g1, g2⟩ := gT_at (P := P) ps gw hpl ha s
  have hk := hk pl a
  unfold viol
  cases hg : gw pl a with
  | ends =>
    rw [hg] at g2
    have h1 : run P Γ lf (n + 4) x.f_has [nT behind, nT a] s = .ok (.val (.bl (behind.testBit a))) s := has_ev (n := n + 3) A.has _ _
    show if (!behind.testBit a) = true then _ else _
    cases hb : behind.testBit a with
    | true =>
      rw [hb] at h1
      simp (implicitDefEqProofs := false) [acIn, cc_are_closed, acE, opd, g1, g2, codeG, h1]
    | false =>
      rw [hb] at h1
      simp (implicitDefEqProofs := false) [acIn, cc_are_closed, acE, opd, g1, g2, codeG, h1]
  | stops =>
    rw [hg] at g2
    simp (implicitDefEqProofs := false) [acIn, cc_are_closed, acE, opd, g1, g2, codeG]
  | lab l =>
    obtain ⟨l1, l2⟩ := hk l (by omega) ha hg
    rw [hg] at g2
    have a1 := aT_at (P := P) ps l1 (by omega) s
    have im : run P Γ lf (n + 4) x.f_image [hT hs, nT ((actsOf ps).getD (l - 1) 0), nT (1 <<< a)] s = .ok (.val (nT (imgF hs ((actsOf ps).getD (l - 1) 0) a))) s := image_ev A hs hh _ _
    have i1 : ixT P s (tbT S) (nT l) = some (nT (S.getD l 0)) := atI_tb (by omega)
    have w1 := is_within2 (P := P) (lf := lf) (n := n + 3) (s := s) E (img_256 hs ((actsOf ps).getD (l - 1) 0) ha) (h256 l)
    have sh := intOp_shl1 a (by omega)
    have l0 : 0 < l := l1
    have ln : ¬ ((l : Int) = -2) := by omega
    show if (!wthn (imgF hs ((actsOf ps).getD (l - 1) 0) a) (S.getD l 0)) = true then _ else _
    generalize (actsOf ps).getD (l - 1) 0 = c at *
    generalize S.getD l 0 = v at *
    generalize imgF hs c a = m at *
    generalize (1 <<< a : Nat) = b at *
    simp only [nT] at im a1 g1 g2 sh i1 w1
    cases hw : wthn m v with
    | true =>
      rw [hw] at w1
      simp (implicitDefEqProofs := false) [acIn, cc_are_closed, acE, opd, g1, g2, codeG, l0, ln, a1, sh, im, i1, w1, nT]
    | false =>
      rw [hw] at w1
      simp (implicitDefEqProofs := false) [acIn, cc_are_closed, acE, opd, g1, g2, codeG, l0, ln, a1, sh, im, i1, w1, nT]
/-- a place -/
theorem ac_row {ps : List Pg} {hs : List Hy} (hh : hs.length ≤ 100) (behind : Nat) {gw : Nat → Nat → Go} (hk : LabOk gw ((actsOf ps).length + 1)) {S : List Nat} (hS : S.length = (actsOf ps).length + 1) (h256 : ∀ i, S.getD i 0 < 256) {pl : Nat} (hpl : pl ≤ (actsOf ps).length) (own : Nat) (j8 j9 : Option T) :
    if ((mem8 own).any fun a => viol gw (actsOf ps) hs behind S pl a) = true then evSs P (run P Γ lf (n + 4)) lf [.for_ [7] (.nm 8) (.seq (.call x.f_members [.var 7])) (acIn x)] (acE ps hs behind S gw (some (nT pl), some (nT own), j8, j9)) s = .rt (.val (.bl false)) s
    else ∃ k8 k9, evSs P (run P Γ lf (n + 4)) lf [.for_ [7] (.nm 8) (.seq (.call x.f_members [.var 7])) (acIn x)] (acE ps hs behind S gw (some (nT pl), some (nT own), j8, j9)) s = .nx (acE ps hs behind S gw (some (nT pl), some (nT own), k8, k9)) s := by
  have m1 : run P Γ lf (n + 4) x.f_members [nT own] s = .ok (.own (.lst ((mem8 own).map nT))) s := members_ev (n := n + 2) A.has A.members _
  have m8 : ∀ a ∈ mem8 own, a < 8 := fun a ha => (mem8_iff.mp ha).1
  generalize mem8 own = ms at *
  have lo := forGo_any (b := fun t env s => match Tg.put env (.nm 8) t with
      | some env' => evSs P (run P Γ lf (n + 4)) lf (acIn x) env' s
      | none => .bad) (g := nT) (E := fun (j : Option T × Option T) => acE ps hs behind S gw (some (nT pl), some (nT own), j.1, j.2)) (p := fun a => viol gw (actsOf ps) hs behind S pl a) (w := .val (.bl false)) (s := s) (l := ms) (j := (j8, j9)) (fun a ha j => by
    have := ac_atom (P := P) (lf := lf) (n := n) (s := s) A E hh behind hk hS h256 hpl (m8 a ha) own j.1 j.2
    cases hv : viol gw (actsOf ps) hs behind S pl a with
    | true =>
      rw [hv, if_pos rfl] at this
      rw [if_pos rfl]
      exact this
    | false =>
      rw [hv, if_neg Bool.false_ne_true] at this
      rw [if_neg Bool.false_ne_true]
      exact ⟨(some (nT a), some (.int (codeG (gw pl a)))), this⟩)
  have st : ∀ o, forGo (fun t env s => match Tg.put env (.nm 8) t with
      | some env' => evSs P (run P Γ lf (n + 4)) lf (acIn x) env' s
      | none => .bad) (ms.map nT) (acE ps hs behind S gw (some (nT pl), some (nT own), j8, j9)) s = o → evSs P (run P Γ lf (n + 4)) lf [.for_ [7] (.nm 8) (.seq (.call x.f_members [.var 7])) (acIn x)] (acE ps hs behind S gw (some (nT pl), some (nT own), j8, j9)) s = o.seq fun env s => .nx env s := fun o ho => by
    rw [xss_cons, xs_for]
    have fz : frzE (acE ps hs behind S gw (some (nT pl), some (nT own), j8, j9)) [7] = acE ps hs behind S gw (some (nT pl), some (nT own), j8, j9) := rfl
    rw [fz]
    have ev : evI P (run P Γ lf (n + 4)) (acE ps hs behind S gw (some (nT pl), some (nT own), j8, j9)) (.seq (.call x.f_members [.var 7])) s = .ok (ms.map nT) s := by
      simp (implicitDefEqProofs := false) [acE, opd, m1]
    rw [ev]
    exact congrArg (fun o => Out.seq o _) ho
  cases hv : (ms.any fun a => viol gw (actsOf ps) hs behind S pl a) with
  | true =>
    rw [if_pos hv] at lo
    rw [if_pos rfl]
    exact st _ lo
  | false =>
    rw [if_neg (by rw [hv]; exact Bool.false_ne_true)] at lo
    rw [if_neg Bool.false_ne_true]
    obtain ⟨j', lo⟩ := lo
    exact ⟨j'.1, j'.2, st _ lo⟩
include C L H
theorem closed_ev (hlf : 1100000 < lf) {ps : List Pg} (hne : ps ≠ []) (hg : hgts ps ≤ 25) (hz : sizes ps ≤ 200) (hok : oks ps = true) {hs : List Hy} (hh : hs.length ≤ 100) (behind : Nat) {gw0 : Nat → Nat → Go} (G0 : GoW ps gw0) {S : List Nat} (hS : S.length = (actsOf ps).length + 1) (h256 : ∀ i, S.getD i 0 < 256) (s : Sto) :
    run P Γ lf (n + 57) x.f_are_closed [tupP ps, hT hs, nT behind, tbT S] s = .ok (.val (.bl (closedB gw0 (actsOf ps) hs behind S))) s := by
  obtain ⟨gw, G, ge⟩ := goings_ev (P := P) (lf := lf) (n := n) A C L (by omega) hne hg (by omega) hok s
  have ae : run P Γ lf (n + 56) x.f_actions_in_places [tupP ps] s = .ok (.val (aT ps)) s := actions_p_ev (n := n + 28) C L hg (by omega) hok
  have hk := lab_ok G
  have al := acts_le ps
  rw [closed_congr (gw := gw0) (gw2 := gw) fun l a hl ha => goW_uniq G0 G (by omega) ha]
  rw [run_at H.are_closed (by rw [closed_eq]; rfl), closed_eq]
  show (evSs P (run P Γ lf (n + 56)) lf [.par [0, 0] [4, 5] [.call x.f_goings_in [.var 0], .call x.f_actions_in_places [.var 0]], .for_ [3] (.tp [6, 7]) (.enum (.var 3)) [.for_ [7] (.nm 8) (.seq (.call x.f_members [.var 7])) (acIn x)], .ret [] (.con (.bl true))] [.val (tupP ps), .val (hT hs), .val (nT behind), .val (tbT S), .no, .no, .no, .no, .no, .no] s).res = _
  have s1 : evS P (run P Γ lf (n + 56)) lf (.par [0, 0] [4, 5] [.call x.f_goings_in [.var 0], .call x.f_actions_in_places [.var 0]]) [.val (tupP ps), .val (hT hs), .val (nT behind), .val (tbT S), .no, .no, .no, .no, .no, .no] s = .nx (acE ps hs behind S gw (none, none, none, none)) s := by
    simp (implicitDefEqProofs := false) [ge, ae, acE]
  rw [xss_cons, s1, seq_nx, xss_cons, xs_for]
  have fz : frzE (acE ps hs behind S gw (none, none, none, none)) [3] = acE ps hs behind S gw (none, none, none, none) := rfl
  rw [fz]
  have ev : evI P (run P Γ lf (n + 56)) (acE ps hs behind S gw (none, none, none, none)) (.enum (.var 3)) s = .ok (S.zipIdx.map fun q => T.tup [nT q.2, nT q.1]) s := by
    rw [← enum_nat]
    simp (implicitDefEqProofs := false) [acE, opd, tbT]
    try omega
  rw [ev]
  have lo := forGo_any (b := fun t env s => match Tg.put env (.tp [6, 7]) t with
      | some env' => evSs P (run P Γ lf (n + 56)) lf [.for_ [7] (.nm 8) (.seq (.call x.f_members [.var 7])) (acIn x)] env' s
      | none => .bad) (g := fun (q : Nat × Nat) => T.tup [nT q.2, nT q.1]) (E := fun j => acE ps hs behind S gw j) (p := fun q => (mem8 q.1).any fun a => viol gw (actsOf ps) hs behind S q.2 a) (w := .val (.bl false)) (s := s) (l := S.zipIdx) (j := (none, none, none, none)) (fun q hq j => by
    obtain ⟨own, pl⟩ := q
    rw [List.mk_mem_zipIdx_iff_getElem?] at hq
    have hl := (List.getElem?_eq_some_iff.mp hq).1
    have := ac_row (P := P) (lf := lf) (n := n + 52) (s := s) A E hh behind hk hS h256 (pl := pl) (by omega) own j.2.2.1 j.2.2.2
    show if ((mem8 own).any fun a => viol gw (actsOf ps) hs behind S pl a) = true then _ else _
    cases hv : ((mem8 own).any fun a => viol gw (actsOf ps) hs behind S pl a) with
    | true =>
      rw [if_pos hv] at this
      rw [if_pos rfl]
      exact this
    | false =>
      rw [if_neg (by rw [hv]; exact Bool.false_ne_true)] at this
      rw [if_neg Bool.false_ne_true]
      obtain ⟨k8, k9, this⟩ := this
      exact ⟨(some (nT pl), some (nT own), k8, k9), this⟩)
  have st : ∀ o, forGo (fun t env s => match Tg.put env (.tp [6, 7]) t with
      | some env' => evSs P (run P Γ lf (n + 56)) lf [.for_ [7] (.nm 8) (.seq (.call x.f_members [.var 7])) (acIn x)] env' s
      | none => .bad) (S.zipIdx.map fun q => T.tup [nT q.2, nT q.1]) (acE ps hs behind S gw (none, none, none, none)) s = o → ((o.seq fun env s => evSs P (run P Γ lf (n + 56)) lf [.ret [] (.con (.bl true))] env s).res = .ok (.val (.bl (closedB gw (actsOf ps) hs behind S))) s) →
      (((R.ok (S.zipIdx.map fun q => T.tup [nT q.2, nT q.1]) s).out (acE ps hs behind S gw (none, none, none, none)) fun ts s1 => forGo (fun t env s => match Tg.put env (.tp [6, 7]) t with
      | some env' => evSs P (run P Γ lf (n + 56)) lf [.for_ [7] (.nm 8) (.seq (.call x.f_members [.var 7])) (acIn x)] env' s
      | none => .bad) ts (acE ps hs behind S gw (none, none, none, none)) s1).seq fun env s => evSs P (run P Γ lf (n + 56)) lf [.ret [] (.con (.bl true))] env s).res = .ok (.val (.bl (closedB gw (actsOf ps) hs behind S))) s := fun o ho h => by
    subst ho
    exact h
  unfold closedB at st ⊢
  cases hv : (S.zipIdx.any fun q => (mem8 q.1).any fun a => viol gw (actsOf ps) hs behind S q.2 a) with
  | true =>
    rw [if_pos hv] at lo
    rw [hv] at st
    exact st _ lo rfl
  | false =>
    rw [if_neg (by rw [hv]; exact Bool.false_ne_true)] at lo
    obtain ⟨j', lo⟩ := lo
    rw [hv] at st
    exact st _ lo (by simp (implicitDefEqProofs := false))
end
end Tw

set_option Elab.async false
set_option linter.all false
set_option maxRecDepth 100000
set_option maxHeartbeats 4000000
/-! TwZ: place_sets, fits_sets, takes_places. -/
namespace Tw
open PySem L2 TW
section
variable {P : Pm} {Γ : List TW.Fn} {lf n : Nat} {x : Ix} {s r : Sto} (A : LibA Γ x) (C : LibC Γ x) (D : LibD Γ x) (L : LibR Γ x) (E : LibG Γ x) (H : LibS Γ x)
include A C D E in
theorem need_all2 {ps : List Pg} (h : PlainOk ps) {hs : List Hy} (hl : hs.length ≤ 5) (ho : ∀ h ∈ hs, h.okB = true) {ahead behind : Nat} (h1 : ahead < 256) (h2 : behind < 256) : run P Γ lf (n + 60) x.f_need_all [tupP ps, hT hs, nT ahead, nT behind] s = .ok (.val .non) s := by
  rw [run_at E.need_all rfl]
  have e1 : run P Γ lf (n + 59) x.f_need_both [tupP ps, hT hs] s = .ok (.val .non) s := need_both_ev (n := n + 27) A C D h hs hl ho
  have e2 : run P Γ lf (n + 59) x.f_need_set [nT ahead] s = .ok (.val .non) s := need_set2 (n := n + 56) A E h1
  have e3 : run P Γ lf (n + 59) x.f_need_set [nT behind] s = .ok (.val .non) s := need_set2 (n := n + 56) A E h2
  simp (implicitDefEqProofs := false) [cc_need_all, startE_def, opd, e1, e2, e3]
include A C L E H
theorem fits_not (hlf : 1100000 < lf) {ps : List Pg} (h : PlainOk ps) (ahead : Nat) {t : T} (ht : tNt t = true) (s : Sto) : run P Γ lf (n + 57) x.f_fits_sets [tupP ps, nT ahead, t] s = .ok (.val (.bl false)) s := by
  obtain ⟨gw, G, ge⟩ := goings_ev (P := P) (lf := lf) (n := n) A C L (by omega) h.ne h.hgt (by have := h.size; omega) h.ok s
  have gl : bltT s .len (gT ps gw) = some (.val (.int (((actsOf ps).length + 1 : Nat) : Int))) := by
    unfold gT
    rw [b_lenT, List.length_map, List.length_range]
  have e1 := fun lo hi => tuple_not (P := P) (lf := lf) (n := n + 55) (s := s) A.is_tuple_of t ht lo hi
  rw [run_at H.fits_sets rfl]
  generalize (((actsOf ps).length + 1 : Nat) : Int) = k at *
  simp (implicitDefEqProofs := false) [cc_fits_sets, startE_def, opd, ge, gl, e1]
theorem fits_short (hlf : 1100000 < lf) {ps : List Pg} (h : PlainOk ps) (ahead : Nat) {ts : List T} (ht : ts.length ≠ (actsOf ps).length + 1) (s : Sto) : run P Γ lf (n + 57) x.f_fits_sets [tupP ps, nT ahead, .tup ts] s = .ok (.val (.bl false)) s := by
  obtain ⟨gw, G, ge⟩ := goings_ev (P := P) (lf := lf) (n := n) A C L (by omega) h.ne h.hgt (by have := h.size; omega) h.ok s
  have gl : bltT s .len (gT ps gw) = some (.val (.int (((actsOf ps).length + 1 : Nat) : Int))) := by
    unfold gT
    rw [b_lenT, List.length_map, List.length_range]
  have e1 := is_tuple_ev (P := P) (lf := lf) (n := n + 55) (s := s) A.is_tuple_of ts (((actsOf ps).length + 1 : Nat) : Int) (((actsOf ps).length + 1 : Nat) : Int)
  have e2 : (decide ((((actsOf ps).length + 1 : Nat) : Int) ≤ (ts.length : Int)) && decide ((ts.length : Int) ≤ (((actsOf ps).length + 1 : Nat) : Int))) = false := by
    rw [Bool.eq_false_iff]
    intro q
    simp at q
    omega
  rw [e2] at e1
  rw [run_at H.fits_sets rfl]
  generalize (((actsOf ps).length + 1 : Nat) : Int) = k at *
  simp (implicitDefEqProofs := false) [cc_fits_sets, startE_def, opd, ge, gl, e1]
theorem fits_full (hlf : 1100000 < lf) {ps : List Pg} (h : PlainOk ps) (ahead : Nat) {ts : List T} (ht : ts.length = (actsOf ps).length + 1) (hk : ∀ t ∈ ts, tKn t = true) (v : Nat) (hv : ts[0]? = some (nT v)) (h1 : ahead < 256) (h2 : ts.all (wholeB 0 255) = true → v < 256) (s : Sto) : run P Γ lf (n + 57) x.f_fits_sets [tupP ps, nT ahead, .tup ts] s = .ok (.val (.bl (ts.all (wholeB 0 255) && wthn ahead v))) s := by
  obtain ⟨gw, G, ge⟩ := goings_ev (P := P) (lf := lf) (n := n) A C L (by omega) h.ne h.hgt (by have := h.size; omega) h.ok s
  have gl : bltT s .len (gT ps gw) = some (.val (.int (((actsOf ps).length + 1 : Nat) : Int))) := by
    unfold gT
    rw [b_lenT, List.length_map, List.length_range]
  have e1 := is_tuple_ev (P := P) (lf := lf) (n := n + 55) (s := s) A.is_tuple_of ts (((actsOf ps).length + 1 : Nat) : Int) (((actsOf ps).length + 1 : Nat) : Int)
  have e2 : (decide ((((actsOf ps).length + 1 : Nat) : Int) ≤ (ts.length : Int)) && decide ((ts.length : Int) ≤ (((actsOf ps).length + 1 : Nat) : Int))) = true := by
    simp
    omega
  rw [e2] at e1
  have al := acts_le ps
  have zl := h.size
  have tl : ts.length ≤ 1000 := by omega
  have i0 : atI ts 0 = some (nT v) := atI_at (k := 0) hv
  have wo := fun t (h : t ∈ ts) => whole_any (P := P) (lf := lf) (n := n + 55) (s := s) A.is_whole t (hk t h) 0 255
  rw [run_at H.fits_sets rfl]
  generalize (((actsOf ps).length + 1 : Nat) : Int) = k at *
  have mt : ts = ts.map id := by simp
  simp (implicitDefEqProofs := false) [cc_fits_sets, startE_def, opd, ge, gl, e1]
  rw [mt, lcGo_map (h := fun t => T.bl (wholeB 0 255 t)) (fun t ht => by
    have := wo t ht
    simp (implicitDefEqProofs := false) [this]) (by simp; omega)]
  cases ha : ts.all (wholeB 0 255) with
  | false =>
    simp (implicitDefEqProofs := false) [b_all, ha]
  | true =>
    have w1 := is_within2 (P := P) (lf := lf) (n := n + 55) (s := s) E h1 (h2 ha)
    simp (implicitDefEqProofs := false) [b_all, ha, i0, w1, opd]
theorem fits_good (hlf : 1100000 < lf) {ps : List Pg} (h : PlainOk ps) {ahead : Nat} {S : List Nat} (hS : S.length = (actsOf ps).length + 1) (h256 : ∀ i, S.getD i 0 < 256) (h1 : ahead < 256) (s : Sto) : run P Γ lf (n + 57) x.f_fits_sets [tupP ps, nT ahead, tbT S] s = .ok (.val (.bl (wthn ahead (S.getD 0 0)))) s := by
  have e := fits_full (P := P) (lf := lf) (n := n) A C L E H hlf h ahead (ts := S.map nT) (by rw [List.length_map, hS]) (fun t ht => by
    obtain ⟨q, _, rfl⟩ := List.mem_map.mp ht
    rfl) (S.getD 0 0) (by rw [List.getElem?_map, List.getElem?_eq_getElem (by omega), List.getD_eq_getElem?_getD, List.getElem?_eq_getElem (by omega)]; rfl) h1 (fun _ => h256 0) s
  have al : (S.map nT).all (wholeB 0 255) = true := by
    rw [List.all_eq_true]
    intro t ht
    obtain ⟨q, hq, rfl⟩ := List.mem_map.mp ht
    obtain ⟨i, hi, rfl⟩ := List.mem_iff_getElem.mp hq
    have := h256 i
    rw [List.getD_eq_getElem?_getD, List.getElem?_eq_getElem hi] at this
    have : S[i] < 256 := this
    unfold wholeB nT
    simp
    omega
  rw [al, Bool.true_and] at e
  exact e
include D
theorem place_ev (hlf : 1100000 < lf) {ps : List Pg} (h : PlainOk ps) {hs : List Hy} (hl : hs.length ≤ 5) (ho : ∀ h ∈ hs, h.okB = true) {ahead behind : Nat} (h1 : ahead < 256) (h2 : behind < 256) {gw0 : Nat → Nat → Go} (G0 : GoW ps gw0) (s : Sto) :
    ∃ S : List Nat, S.length = (actsOf ps).length + 1 ∧ (∀ i, S.getD i 0 < 256) ∧ wthn ahead (S.getD 0 0) = true ∧ closedB gw0 (actsOf ps) hs behind S = wthn (unite (tabB hs ps same) ahead) behind ∧
      run P Γ lf (n + 61) x.f_place_sets [tupP ps, hT hs, nT ahead, nT behind] s = .ok (.val (if wthn (unite (tabB hs ps same) ahead) behind = true then tbT S else .non)) s := by
  have ne := need_all2 (P := P) (lf := lf) (n := n) (s := s) A C D E h hl ho h1 h2
  obtain ⟨gw, S, G, hL, fx, le⟩ := least_ev (P := P) (lf := lf) (n := n + 3) A C L H hlf h.ne h.hgt h.size h.ok (hs := hs) (by omega) h1 s
  have cl := closed_ev (P := P) (lf := lf) (n := n + 3) A C L E H hlf h.ne h.hgt h.size h.ok (hs := hs) (by omega) behind G0 hL.sets.1 (sets_256 hL.sets) s
  have q := least_closed G (behind := behind) hL fx
  have q2 : closedB gw0 (actsOf ps) hs behind S = wthn (unite (tabB hs ps same) ahead) behind := by
    rw [closed_congr (gw2 := gw) fun l a hl ha => goW_uniq G0 G (by have := hL.sets.1; omega) ha]
    exact q
  refine ⟨S, hL.sets.1, sets_256 hL.sets, wthn_iff.mpr fun a ha hb => hL.head a ha hb, q2, ?_⟩
  rw [q2] at cl
  rw [run_at H.place_sets rfl]
  generalize wthn (unite (tabB hs ps same) ahead) behind = b at *
  have le : run P Γ lf (n + 60) x.f_least_sets [tupP ps, hT hs, nT ahead] s = .ok (.val (tbT S)) s := le
  have cl : run P Γ lf (n + 60) x.f_are_closed [tupP ps, hT hs, nT behind, tbT S] s = .ok (.val (.bl b)) s := cl
  cases b <;> simp (implicitDefEqProofs := false) [cc_place_sets, startE_def, opd, ne, le, cl]
theorem takes_bad (hlf : 1100000 < lf) {ps : List Pg} (h : PlainOk ps) {hs : List Hy} (hl : hs.length ≤ 5) (ho : ∀ h ∈ hs, h.okB = true) {ahead behind : Nat} (h1 : ahead < 256) (h2 : behind < 256) {t : T} (s : Sto) (hf : run P Γ lf (n + 60) x.f_fits_sets [tupP ps, nT ahead, t] s = .ok (.val (.bl false)) s) : run P Γ lf (n + 61) x.f_takes_places [tupP ps, hT hs, nT ahead, nT behind, t] s = .ok (.val (.bl false)) s := by
  have ne := need_all2 (P := P) (lf := lf) (n := n) (s := s) A C D E h hl ho h1 h2
  rw [run_at H.takes_places rfl]
  simp (implicitDefEqProofs := false) [cc_takes_places, startE_def, opd, ne, hf]
theorem takes_good (hlf : 1100000 < lf) {ps : List Pg} (h : PlainOk ps) {hs : List Hy} (hl : hs.length ≤ 5) (ho : ∀ h ∈ hs, h.okB = true) {ahead behind : Nat} (h1 : ahead < 256) (h2 : behind < 256) {gw0 : Nat → Nat → Go} (G0 : GoW ps gw0) {S : List Nat} (hS : S.length = (actsOf ps).length + 1) (h256 : ∀ i, S.getD i 0 < 256) (s : Sto) :
    run P Γ lf (n + 61) x.f_takes_places [tupP ps, hT hs, nT ahead, nT behind, tbT S] s = .ok (.val (.bl (wthn ahead (S.getD 0 0) && closedB gw0 (actsOf ps) hs behind S))) s := by
  have ne := need_all2 (P := P) (lf := lf) (n := n) (s := s) A C D E h hl ho h1 h2
  have ft : run P Γ lf (n + 60) x.f_fits_sets [tupP ps, nT ahead, tbT S] s = .ok (.val (.bl (wthn ahead (S.getD 0 0)))) s := fits_good (n := n + 3) A C L E H hlf h hS h256 h1 s
  have cl : run P Γ lf (n + 60) x.f_are_closed [tupP ps, hT hs, nT behind, tbT S] s = .ok (.val (.bl (closedB gw0 (actsOf ps) hs behind S))) s := closed_ev (P := P) (lf := lf) (n := n + 3) A C L E H hlf h.ne h.hgt h.size h.ok (hs := hs) (by omega) behind G0 hS h256 s
  rw [run_at H.takes_places rfl]
  generalize wthn ahead (S.getD 0 0) = b at *
  generalize closedB gw0 (actsOf ps) hs behind S = c at *
  cases b <;> simp (implicitDefEqProofs := false) [cc_takes_places, startE_def, opd, ne, ft, cl]
end
/-! ### the law's own -/
structure LibT (Γ : List TW.Fn) (x : Ix) : Prop where
  image : Γ[x.f_law_image]? = some (cc_law_image x)
  closed : Γ[x.f_law_closed]? = some (cc_law_closed x)
theorem mem8_one {a : Nat} (ha : a < 8) : mem8 (1 <<< a) = [a] := by
  have : ∀ a, a < 8 → mem8 (1 <<< a) = [a] := by decide
  exact this a ha
section
variable {P : Pm} {Γ : List TW.Fn} {lf n : Nat} {x : Ix} {s r : Sto} (W : LibW Γ x) (U : LibU Γ x) (V : LibV Γ x) (K : LibT Γ x)
include W U K
theorem limage_ev {hs : List Hy} (ho : ∀ h ∈ hs, h.okB = true) (c : Nat) {a : Nat} (ha : a < 8) (s : Sto) : run P Γ lf (n + 3) x.f_law_image [hT hs, nT c, nT (1 <<< a)] s = .ok (.val (nT (imgF hs c a))) s := by
  rw [run_at K.image rfl]
  have e1 := lmembers_ev (P := P) (lf := lf) (n := n) (s := s) W U (1 <<< a)
  rw [mem8_one ha] at e1
  have fl : ((List.range 8).filter fun b => lead hs c a b).length ≤ 8 := Nat.le_trans (List.length_filter_le _ _) (by simp)
  obtain ⟨v, ev, bv⟩ := set_of_ev (P := P) (lf := lf) (n := n + 1) (s := s) W (found := (List.range 8).filter fun b => lead hs c a b) (by omega) (fun y hy => List.mem_range.mp (List.mem_filter.mp hy).1)
  have ve : v = imgF hs c a := Nat.eq_of_testBit_eq fun y => by
    rw [bv y, img_bit hs c ha, Bool.eq_iff_iff]
    simp
  subst ve
  have fl0 : 0 + ((List.range 8).filter fun b => lead hs c a b).length ≤ 16777216 := by omega
  have fl1 : ((List.range 8).filter fun b => lead hs c a b).length ≤ 16777216 := by omega
  generalize hm : (1 <<< a : Nat) = m at *
  simp (implicitDefEqProofs := false) [cc_law_image, startE_def, opd, e1, fits]
  rw [forGo]
  simp (implicitDefEqProofs := false) [opd, rng8, small62]
  erw [lcGo_filter (p := fun b => lead hs c a b) (h := nT) (fun b hb => by
    have hb := List.mem_range.mp hb
    have := lleads_ev (P := P) (lf := lf) (n := n) (s := s) W hs ho c ha hb
    simp (implicitDefEqProofs := false) [nT, this]) (by simp)]
  simp (implicitDefEqProofs := false) [fits, fl0, fl1, ev]
end
end Tw

set_option Elab.async false
set_option linter.all false
set_option maxRecDepth 100000
set_option maxHeartbeats 4000000
/-! TwZa: the law's own test of the sets. -/
namespace Tw
open PySem L2 TW
def lcE (ps : List Pg) (hs : List Hy) (ahead behind : Nat) (S : List Nat) (gw : Nat → Nat → Go) (j : Option T × Option T × Option T × Option T) : TW.Env :=
  [.val (tupP ps), .val (hT hs), .val (nT ahead), .val (nT behind), .val (tbT S), .val (goL ps gw), .val (actL ps), sl j.1, sl j.2.1, sl j.2.2.1, sl j.2.2.2]
def lcIn (x : Ix) : List TW.S := match (cc_law_closed x).body with
  | [_, _, .for_ _ _ _ [.for_ _ _ _ b], _] => b
  | _ => []
theorem lclosed_eq (x : Ix) : cc_law_closed x = ⟨5, 11, [.unp [0] [5, 6] (.call x.f_law_walks [.var 0]), .ifs [2] (.or (.cmp .ne (.blt .len (.pk 4)) (.blt .len (.pk 5))) (.not (.call x.f_law_within [.var 2, .ix (.pk 4) (.con (.int 0))]))) [.ret [] (.con (.bl false))] [], .for_ [4] (.tp [7, 8]) (.enum (.var 4)) [.for_ [8] (.nm 9) (.seq (.call x.f_law_members [.var 8])) (lcIn x)], .ret [] (.con (.bl true))]⟩ := rfl
theorem goL_at (ps : List Pg) (gw : Nat → Nat → Go) {l a : Nat} (hl : l ≤ (actsOf ps).length) (ha : a < 8) (st : Sto) : ∃ row, ixT P st (goL ps gw) (nT l) = some row ∧ ixT P st row (nT a) = some (gw l a).t := by
  refine ⟨.lst ((List.range 8).map fun a => (gw l a).t), ?_, ?_⟩
  · show atI ((List.range ((actsOf ps).length + 1)).map fun l => T.lst ((List.range 8).map fun a => (gw l a).t)) (l : Int) = _
    exact atI_at (by rw [List.getElem?_map, List.getElem?_range (by omega)]; rfl)
  · show atI ((List.range 8).map fun a => (gw l a).t) (a : Int) = _
    exact atI_at (by rw [List.getElem?_map, List.getElem?_range ha]; rfl)
theorem actL_at (ps : List Pg) {l : Nat} (h1 : 1 ≤ l) (h2 : l ≤ (actsOf ps).length) (st : Sto) : ixT P st (actL ps) (nT l) = some (nT ((actsOf ps).getD (l - 1) 0)) := by
  show atI (.int (-1) :: (actsOf ps).map nT) (l : Int) = _
  refine atI_at ?_
  obtain ⟨k, rfl⟩ : ∃ k, l = k + 1 := ⟨l - 1, by omega⟩
  rw [List.getElem?_cons_succ, List.getElem?_map, List.getElem?_eq_getElem (by omega), List.getD_eq_getElem?_getD, show k + 1 - 1 = k by omega, List.getElem?_eq_getElem (by omega)]
  rfl
section
variable {P : Pm} {Γ : List TW.Fn} {lf n : Nat} {x : Ix} {s r : Sto} (W : LibW Γ x) (U : LibU Γ x) (V : LibV Γ x) (K : LibT Γ x)
include W U V K
/-- one atom -/
theorem lc_atom {ps : List Pg} {hs : List Hy} (ho : ∀ h ∈ hs, h.okB = true) (ahead behind : Nat) {gw : Nat → Nat → Go} (hk : LabOk gw ((actsOf ps).length + 1)) {S : List Nat} (hS : S.length = (actsOf ps).length + 1) {pl a : Nat} (hpl : pl ≤ (actsOf ps).length) (ha : a < 8) (own : Nat) (j8 j9 : Option T) :
    if viol gw (actsOf ps) hs behind S pl a = true then evSs P (run P Γ lf (n + 4)) lf (lcIn x) (lcE ps hs ahead behind S gw (some (nT pl), some (nT own), some (nT a), j9)) s = .rt (.val (.bl false)) s
    else evSs P (run P Γ lf (n + 4)) lf (lcIn x) (lcE ps hs ahead behind S gw (some (nT pl), some (nT own), some (nT a), j9)) s = .nx (lcE ps hs ahead behind S gw (some (nT pl), some (nT own), some (nT a), some (gw pl a).t)) s := by
  obtain ⟨row, g1, g2⟩ := goL_at (P := P) ps gw hpl ha s
  have hk := hk pl a
  unfold viol
  cases hg : gw pl a with
  | ends =>
    rw [hg] at g2
    have g2 : ixT P s row (nT a) = some (.str "ends") := g2
    have h1 : run P Γ lf (n + 4) x.f_law_has [nT behind, nT a] s = .ok (.val (.bl (behind.testBit a))) s := lhas_ev (n := n + 3) W.has _ ha
    show if (!behind.testBit a) = true then _ else _ = Out.nx (lcE ps hs ahead behind S gw (some (nT pl), some (nT own), some (nT a), some (.str "ends"))) s
    have f1 : fits 2 = true := rfl
    cases hb : behind.testBit a with
    | true =>
      rw [hb] at h1
      simp (implicitDefEqProofs := false) [lcIn, cc_law_closed, lcE, opd, g1, g2, h1, eqO_kw, fits]
    | false =>
      rw [hb] at h1
      simp (implicitDefEqProofs := false) [lcIn, cc_law_closed, lcE, opd, g1, g2, h1, eqO_kw, fits]
  | stops =>
    rw [hg] at g2
    have g2 : ixT P s row (nT a) = some (.str "stops") := g2
    show if false = true then _ else _ = Out.nx (lcE ps hs ahead behind S gw (some (nT pl), some (nT own), some (nT a), some (.str "stops"))) s
    simp (implicitDefEqProofs := false) [lcIn, cc_law_closed, lcE, opd, g1, g2, eqO_kw, fits]
  | lab l =>
    obtain ⟨l1, l2⟩ := hk l (by omega) ha hg
    rw [hg] at g2
    have g2 : ixT P s row (nT a) = some (nT l) := g2
    have a1 := actL_at (P := P) ps l1 (by omega) s
    obtain ⟨v, ev, bv⟩ := set_of_ev (P := P) (lf := lf) (n := n + 3) (s := s) W (found := [a]) (by simp) (fun y hy => by simp at hy; omega)
    have ve : v = 1 <<< a := Nat.eq_of_testBit_eq fun y => by
      rw [bv y, Nat.one_shiftLeft, Nat.testBit_two_pow]
      simp
      exact eq_comm
    subst ve
    have im : run P Γ lf (n + 4) x.f_law_image [hT hs, nT ((actsOf ps).getD (l - 1) 0), nT (1 <<< a)] s = .ok (.val (nT (imgF hs ((actsOf ps).getD (l - 1) 0) a))) s := limage_ev (n := n + 1) W U K ho _ ha s
    have i1 : ixT P s (tbT S) (nT l) = some (nT (S.getD l 0)) := atI_tb (by omega)
    have w1 : run P Γ lf (n + 4) x.f_law_within [nT (imgF hs ((actsOf ps).getD (l - 1) 0) a), nT (S.getD l 0)] s = _ := lwithin_ev (n := n + 1) W U V _ _
    have q3 : inT P s (.int (l : Int)) (.tup [.str "ends", .str "stops"]) = some false := by
      rfl
    have q1 := eqO_int_str s (l : Int) (w := "ends") (by simp)
    have q2 := eqO_int_str s (l : Int) (w := "stops") (by simp)
    show if (!wthn (imgF hs ((actsOf ps).getD (l - 1) 0) a) (S.getD l 0)) = true then _ else _ = Out.nx (lcE ps hs ahead behind S gw (some (nT pl), some (nT own), some (nT a), some (nT l))) s
    generalize (actsOf ps).getD (l - 1) 0 = c at *
    generalize S.getD l 0 = v at *
    generalize imgF hs c a = m at *
    generalize (1 <<< a : Nat) = b at *
    simp only [nT, List.map] at im a1 g1 g2 i1 w1 ev
    cases hw : wthn m v with
    | true =>
      rw [hw] at w1
      simp (implicitDefEqProofs := false) [lcIn, cc_law_closed, lcE, opd, g1, g2, a1, ev, im, i1, w1, nT, q1, q2, q3, fits]
    | false =>
      rw [hw] at w1
      simp (implicitDefEqProofs := false) [lcIn, cc_law_closed, lcE, opd, g1, g2, a1, ev, im, i1, w1, nT, q1, q2, q3, fits]
/-- a place -/
theorem lc_row {ps : List Pg} {hs : List Hy} (ho : ∀ h ∈ hs, h.okB = true) (ahead behind : Nat) {gw : Nat → Nat → Go} (hk : LabOk gw ((actsOf ps).length + 1)) {S : List Nat} (hS : S.length = (actsOf ps).length + 1) {pl : Nat} (hpl : pl ≤ (actsOf ps).length) (own : Nat) (j8 j9 : Option T) :
    if ((mem8 own).any fun a => viol gw (actsOf ps) hs behind S pl a) = true then evSs P (run P Γ lf (n + 4)) lf [.for_ [8] (.nm 9) (.seq (.call x.f_law_members [.var 8])) (lcIn x)] (lcE ps hs ahead behind S gw (some (nT pl), some (nT own), j8, j9)) s = .rt (.val (.bl false)) s
    else ∃ k8 k9, evSs P (run P Γ lf (n + 4)) lf [.for_ [8] (.nm 9) (.seq (.call x.f_law_members [.var 8])) (lcIn x)] (lcE ps hs ahead behind S gw (some (nT pl), some (nT own), j8, j9)) s = .nx (lcE ps hs ahead behind S gw (some (nT pl), some (nT own), k8, k9)) s := by
  have m1 : run P Γ lf (n + 4) x.f_law_members [nT own] s = .ok (.own (.lst ((mem8 own).map nT))) s := lmembers_ev (n := n + 2) W U _
  have m8 : ∀ a ∈ mem8 own, a < 8 := fun a ha => (mem8_iff.mp ha).1
  generalize mem8 own = ms at *
  have lo := forGo_any (b := fun t env s => match Tg.put env (.nm 9) t with
      | some env' => evSs P (run P Γ lf (n + 4)) lf (lcIn x) env' s
      | none => .bad) (g := nT) (E := fun (j : Option T × Option T) => lcE ps hs ahead behind S gw (some (nT pl), some (nT own), j.1, j.2)) (p := fun a => viol gw (actsOf ps) hs behind S pl a) (w := .val (.bl false)) (s := s) (l := ms) (j := (j8, j9)) (fun a ha j => by
    have := lc_atom (P := P) (lf := lf) (n := n) (s := s) W U V K ho ahead behind hk hS hpl (m8 a ha) own j.1 j.2
    cases hv : viol gw (actsOf ps) hs behind S pl a with
    | true =>
      rw [hv, if_pos rfl] at this
      rw [if_pos rfl]
      exact this
    | false =>
      rw [hv, if_neg Bool.false_ne_true] at this
      rw [if_neg Bool.false_ne_true]
      exact ⟨(some (nT a), some (gw pl a).t), this⟩)
  have st : ∀ o, forGo (fun t env s => match Tg.put env (.nm 9) t with
      | some env' => evSs P (run P Γ lf (n + 4)) lf (lcIn x) env' s
      | none => .bad) (ms.map nT) (lcE ps hs ahead behind S gw (some (nT pl), some (nT own), j8, j9)) s = o → evSs P (run P Γ lf (n + 4)) lf [.for_ [8] (.nm 9) (.seq (.call x.f_law_members [.var 8])) (lcIn x)] (lcE ps hs ahead behind S gw (some (nT pl), some (nT own), j8, j9)) s = o.seq fun env s => .nx env s := fun o ho => by
    rw [xss_cons, xs_for]
    have fz : frzE (lcE ps hs ahead behind S gw (some (nT pl), some (nT own), j8, j9)) [8] = lcE ps hs ahead behind S gw (some (nT pl), some (nT own), j8, j9) := rfl
    rw [fz]
    have ev : evI P (run P Γ lf (n + 4)) (lcE ps hs ahead behind S gw (some (nT pl), some (nT own), j8, j9)) (.seq (.call x.f_law_members [.var 8])) s = .ok (ms.map nT) s := by
      simp (implicitDefEqProofs := false) [lcE, opd, m1]
    rw [ev]
    exact congrArg (fun o => Out.seq o _) ho
  cases hv : (ms.any fun a => viol gw (actsOf ps) hs behind S pl a) with
  | true =>
    rw [if_pos hv] at lo
    rw [if_pos rfl]
    exact st _ lo
  | false =>
    rw [if_neg (by rw [hv]; exact Bool.false_ne_true)] at lo
    rw [if_neg Bool.false_ne_true]
    obtain ⟨j', lo⟩ := lo
    exact ⟨j'.1, j'.2, st _ lo⟩
theorem lclosed_ev (hlf : 1100000 < lf) {ps : List Pg} (hg : hgts ps ≤ 25) (hz : sizes ps ≤ 200) (hok : oks ps = true) {hs : List Hy} (ho : ∀ h ∈ hs, h.okB = true) (ahead behind : Nat) {gw0 : Nat → Nat → Go} (G0 : GoW ps gw0) {S : List Nat} (hS : S.length = (actsOf ps).length + 1) (s : Sto) :
    ∃ e, run P Γ lf (n + 31) x.f_law_closed [tupP ps, hT hs, nT ahead, nT behind, tbT S] s = .ok (.val (.bl (wthn ahead (S.getD 0 0) && closedB gw0 (actsOf ps) hs behind S))) (s ++ e) := by
  obtain ⟨gw, G, wk⟩ := walks_ev (P := P) (lf := lf) (n := n) W hlf hg hz hok
  have wk := wk s
  refine ⟨[.lst ((actsOf ps).map nT), .dk (restD ps)], ?_⟩
  have hk := lab_ok G
  have al := acts_le ps
  rw [closed_congr (gw := gw0) (gw2 := gw) fun l a hl ha => goW_uniq G0 G (by omega) ha]
  rw [run_at K.closed (by rw [lclosed_eq]; rfl), lclosed_eq]
  generalize s ++ [.lst ((actsOf ps).map nT), .dk (restD ps)] = s' at *
  show (evSs P (run P Γ lf (n + 30)) lf [.unp [0] [5, 6] (.call x.f_law_walks [.var 0]), .ifs [2] (.or (.cmp .ne (.blt .len (.pk 4)) (.blt .len (.pk 5))) (.not (.call x.f_law_within [.var 2, .ix (.pk 4) (.con (.int 0))]))) [.ret [] (.con (.bl false))] [], .for_ [4] (.tp [7, 8]) (.enum (.var 4)) [.for_ [8] (.nm 9) (.seq (.call x.f_law_members [.var 8])) (lcIn x)], .ret [] (.con (.bl true))] [.val (tupP ps), .val (hT hs), .val (nT ahead), .val (nT behind), .val (tbT S), .no, .no, .no, .no, .no, .no] s).res = _
  have s1 : evS P (run P Γ lf (n + 30)) lf (.unp [0] [5, 6] (.call x.f_law_walks [.var 0])) [.val (tupP ps), .val (hT hs), .val (nT ahead), .val (nT behind), .val (tbT S), .no, .no, .no, .no, .no, .no] s = .nx (lcE ps hs ahead behind S gw (none, none, none, none)) s' := by
    simp (implicitDefEqProofs := false) [wk, lcE]
  rw [xss_cons, s1, seq_nx]
  have b1 : bltT s' .len (tbT S) = some (.val (.int ((S.length : Nat) : Int))) := by
    unfold tbT
    rw [b_lenT, List.length_map]
  have b2 : bltT s' .len (goL ps gw) = some (.val (.int ((S.length : Nat) : Int))) := by
    unfold goL
    rw [b_lenL, List.length_map, List.length_range, hS]
  have i0 : ixT P s' (tbT S) (.int 0) = some (nT (S.getD 0 0)) := atI_tb (a := 0) (by omega)
  have w1 : run P Γ lf (n + 30) x.f_law_within [nT ahead, nT (S.getD 0 0)] s' = .ok (.val (.bl (wthn ahead (S.getD 0 0)))) s' := lwithin_ev (n := n + 27) W U V _ _
  generalize S.getD 0 0 = v at *
  have s2 : evS P (run P Γ lf (n + 30)) lf (.ifs [2] (.or (.cmp .ne (.blt .len (.pk 4)) (.blt .len (.pk 5))) (.not (.call x.f_law_within [.var 2, .ix (.pk 4) (.con (.int 0))]))) [.ret [] (.con (.bl false))] []) (lcE ps hs ahead behind S gw (none, none, none, none)) s' = if wthn ahead v = true then .nx (lcE ps hs ahead behind S gw (none, none, none, none)) s' else .rt (.val (.bl false)) s' := by
    generalize ((S.length : Nat) : Int) = k at *
    cases hw : wthn ahead v with
    | true => rw [hw] at w1; simp (implicitDefEqProofs := false) [lcE, opd, b1, b2, i0, w1]
    | false => rw [hw] at w1; simp (implicitDefEqProofs := false) [lcE, opd, b1, b2, i0, w1]
  rw [xss_cons, s2]
  cases hw : wthn ahead v with
  | false => rfl
  | true =>
  rw [if_pos rfl, seq_nx, Bool.true_and, xss_cons, xs_for]
  have fz : frzE (lcE ps hs ahead behind S gw (none, none, none, none)) [4] = lcE ps hs ahead behind S gw (none, none, none, none) := rfl
  rw [fz]
  have ev : evI P (run P Γ lf (n + 30)) (lcE ps hs ahead behind S gw (none, none, none, none)) (.enum (.var 4)) s' = .ok (S.zipIdx.map fun q => T.tup [nT q.2, nT q.1]) s' := by
    rw [← enum_nat]
    simp (implicitDefEqProofs := false) [lcE, opd, tbT]
    try omega
  rw [ev]
  have lo := forGo_any (b := fun t env s => match Tg.put env (.tp [7, 8]) t with
      | some env' => evSs P (run P Γ lf (n + 30)) lf [.for_ [8] (.nm 9) (.seq (.call x.f_law_members [.var 8])) (lcIn x)] env' s
      | none => .bad) (g := fun (q : Nat × Nat) => T.tup [nT q.2, nT q.1]) (E := fun j => lcE ps hs ahead behind S gw j) (p := fun q => (mem8 q.1).any fun a => viol gw (actsOf ps) hs behind S q.2 a) (w := .val (.bl false)) (s := s') (l := S.zipIdx) (j := (none, none, none, none)) (fun q hq j => by
    obtain ⟨own, pl⟩ := q
    rw [List.mk_mem_zipIdx_iff_getElem?] at hq
    have hl := (List.getElem?_eq_some_iff.mp hq).1
    have := lc_row (P := P) (lf := lf) (n := n + 26) (s := s') W U V K ho ahead behind hk hS (pl := pl) (by omega) own j.2.2.1 j.2.2.2
    show if ((mem8 own).any fun a => viol gw (actsOf ps) hs behind S pl a) = true then _ else _
    cases hv : ((mem8 own).any fun a => viol gw (actsOf ps) hs behind S pl a) with
    | true =>
      rw [if_pos hv] at this
      rw [if_pos rfl]
      exact this
    | false =>
      rw [if_neg (by rw [hv]; exact Bool.false_ne_true)] at this
      rw [if_neg Bool.false_ne_true]
      obtain ⟨k8, k9, this⟩ := this
      exact ⟨(some (nT pl), some (nT own), k8, k9), this⟩)
  have st : ∀ o, forGo (fun t env s => match Tg.put env (.tp [7, 8]) t with
      | some env' => evSs P (run P Γ lf (n + 30)) lf [.for_ [8] (.nm 9) (.seq (.call x.f_law_members [.var 8])) (lcIn x)] env' s
      | none => .bad) (S.zipIdx.map fun q => T.tup [nT q.2, nT q.1]) (lcE ps hs ahead behind S gw (none, none, none, none)) s' = o → ((o.seq fun env s => evSs P (run P Γ lf (n + 30)) lf [.ret [] (.con (.bl true))] env s).res = .ok (.val (.bl (closedB gw (actsOf ps) hs behind S))) s') →
      (((R.ok (S.zipIdx.map fun q => T.tup [nT q.2, nT q.1]) s').out (lcE ps hs ahead behind S gw (none, none, none, none)) fun ts s1 => forGo (fun t env s => match Tg.put env (.tp [7, 8]) t with
      | some env' => evSs P (run P Γ lf (n + 30)) lf [.for_ [8] (.nm 9) (.seq (.call x.f_law_members [.var 8])) (lcIn x)] env' s
      | none => .bad) ts (lcE ps hs ahead behind S gw (none, none, none, none)) s1).seq fun env s => evSs P (run P Γ lf (n + 30)) lf [.ret [] (.con (.bl true))] env s).res = .ok (.val (.bl (closedB gw (actsOf ps) hs behind S))) s' := fun o ho h => by
    subst ho
    exact h
  unfold closedB at st ⊢
  cases hv : (S.zipIdx.any fun q => (mem8 q.1).any fun a => viol gw (actsOf ps) hs behind S q.2 a) with
  | true =>
    rw [if_pos hv] at lo
    rw [hv] at st
    exact st _ lo rfl
  | false =>
    rw [if_neg (by rw [hv]; exact Bool.false_ne_true)] at lo
    obtain ⟨j', lo⟩ := lo
    rw [hv] at st
    exact st _ lo (by simp (implicitDefEqProofs := false))
end
end Tw

set_option Elab.async false
set_option linter.all false
set_option maxRecDepth 100000
set_option maxHeartbeats 4000000
/-! TwZb: odd sets, written programs' goings. -/
namespace Tw
open PySem L2 TW
theorem cut_butlast (l : List T) (h : l ≠ []) : cutT l none (some (-1)) = l.dropLast := by
  have hl : 0 < l.length := by cases l with | nil => exact absurd rfl h | cons a l => simp
  have e : HT.sIx l.length l.length (some (-1)) = l.length - 1 := by
    unfold HT.sIx
    simp
    omega
  unfold cutT
  rw [e, HT.sIx_none, List.drop_zero, Nat.sub_zero, List.dropLast_eq_take]
section
variable {P : Pm} {Γ : List TW.Fn} {lf n : Nat} {x : Ix} {s r : Sto} (A : LibA Γ x) (C : LibC Γ x) (L : LibR Γ x) (H : LibS Γ x)
include A C L H
theorem fits_odd (hlf : 1100000 < lf) {ps : List Pg} (h : PlainOk ps) (ahead : Nat) {ts : List T} (ht : ts.length = (actsOf ps).length + 1) (hk : ∀ t ∈ ts, tKn t = true) (ha : ts.all (wholeB 0 255) = false) (s : Sto) : run P Γ lf (n + 57) x.f_fits_sets [tupP ps, nT ahead, .tup ts] s = .ok (.val (.bl false)) s := by
  obtain ⟨gw, G, ge⟩ := goings_ev (P := P) (lf := lf) (n := n) A C L (by omega) h.ne h.hgt (by have := h.size; omega) h.ok s
  have gl : bltT s .len (gT ps gw) = some (.val (.int (((actsOf ps).length + 1 : Nat) : Int))) := by
    unfold gT
    rw [b_lenT, List.length_map, List.length_range]
  have e1 := is_tuple_ev (P := P) (lf := lf) (n := n + 55) (s := s) A.is_tuple_of ts (((actsOf ps).length + 1 : Nat) : Int) (((actsOf ps).length + 1 : Nat) : Int)
  have e2 : (decide ((((actsOf ps).length + 1 : Nat) : Int) ≤ (ts.length : Int)) && decide ((ts.length : Int) ≤ (((actsOf ps).length + 1 : Nat) : Int))) = true := by
    simp
    omega
  rw [e2] at e1
  have al := acts_le ps
  have zl := h.size
  have tl : ts.length ≤ 1000 := by omega
  have wo := fun t (h : t ∈ ts) => whole_any (P := P) (lf := lf) (n := n + 55) (s := s) A.is_whole t (hk t h) 0 255
  rw [run_at H.fits_sets rfl]
  generalize (((actsOf ps).length + 1 : Nat) : Int) = k at *
  have mt : ts = ts.map id := by simp
  simp (implicitDefEqProofs := false) [cc_fits_sets, startE_def, opd, ge, gl, e1]
  rw [mt, lcGo_map (h := fun t => T.bl (wholeB 0 255 t)) (fun t ht => by
    have := wo t ht
    simp (implicitDefEqProofs := false) [this]) (by simp; omega)]
  simp (implicitDefEqProofs := false) [b_all, ha]
end
theorem goF_mono {a : Nat} {g : Go} (k : Nat) : ∀ (f : Nat) (cur : List Lp) (seen : List (Lp × List Lp)), goF a f cur seen = some g → goF a (f + k) cur seen = some g
  | 0, _, _, h => by simp [goF] at h
  | f + 1, cur, seen, h => by
    rw [show f + 1 + k = (f + k) + 1 by omega]
    unfold goF at h ⊢
    cases e : goStep a cur seen with
    | inl g' => rw [e] at h; exact h
    | inr q => rw [e] at h; exact goF_mono k f _ _ h
/-- a written program's goings -/
def gwF (ps : List Pg) (l a : Nat) : Go := match goF a 50 (restAt ps l) [] with
  | some g => g
  | none => .stops
def gwB (ps : List Pg) : Bool := (List.range ((actsOf ps).length + 1)).all fun l => (List.range 8).all fun a => (goF a 50 (restAt ps l) []).isSome
theorem gwF_ok {ps : List Pg} (h1 : hgts ps ≤ 25) (h2 : sizes ps ≤ 200) (hb : gwB ps = true) : GoW ps (gwF ps) := ⟨fun l a hl ha => by
  unfold gwB at hb
  rw [List.all_eq_true] at hb
  have := hb l (List.mem_range.mpr (by omega))
  rw [List.all_eq_true] at this
  have := this a (List.mem_range.mpr ha)
  obtain ⟨g, hg⟩ := Option.isSome_iff_exists.mp this
  obtain ⟨K, hK⟩ : ∃ K : Nat, 1100000 < 50 + K := ⟨1100000, by omega⟩
  obtain ⟨g', e1, e2⟩ := go_ex h1 h2 hl a hK
  have e3 := goF_mono K 50 _ _ hg
  rw [e1] at e3
  cases e3
  have : gwF ps l a = g := by unfold gwF; rw [hg]
  rw [this]
  exact e2⟩
end Tw

set_option Elab.async false
set_option linter.all false
set_option maxRecDepth 100000
set_option maxHeartbeats 0
/-! the defs of the law, where they stand, the head. -/
namespace Ck59
open PySem PySem.Spec PyProof.Rows L2 TW Tw
def top (i : Nat) : Stmt := PySem.Challenge.pw_twinproof_k59_whole_sets_at_places.main.body.getD i (.Pass ⟨0, 0, 0, 0⟩)
def d0 : Def := { name := "is_whole", ps := ["value", "low", "high"], N := ["value", "low", "high"], params := defArgs (top 6), body := defBody (top 6), scope := defScope (top 6) }
def d1 : Def := { name := "is_tuple_of", ps := ["value", "low", "high"], N := ["value", "low", "high"], params := defArgs (top 7), body := defBody (top 7), scope := defScope (top 7) }
def d2 : Def := { name := "has", ps := ["own", "atom"], N := ["own", "atom"], params := defArgs (top 13), body := defBody (top 13), scope := defScope (top 13) }
def d3 : Def := { name := "members", ps := ["own"], N := ["own", "atom"], params := defArgs (top 14), body := defBody (top 14), scope := defScope (top 14) }
def d4 : Def := { name := "need_whole", ps := ["value", "low", "high"], N := ["value", "low", "high"], params := defArgs (top 15), body := defBody (top 15), scope := defScope (top 15) }
def d5 : Def := { name := "need_set", ps := ["value"], N := ["value"], params := defArgs (top 16), body := defBody (top 16), scope := defScope (top 16) }
def d6 : Def := { name := "fits_hypothesis", ps := ["value"], N := ["value", "own"], params := defArgs (top 19), body := defBody (top 19), scope := defScope (top 19) }
def d7 : Def := { name := "fits_hypotheses", ps := ["value"], N := ["value", "own"], params := defArgs (top 20), body := defBody (top 20), scope := defScope (top 20) }
def d8 : Def := { name := "does_forbid", ps := ["own", "action", "before", "behind"], N := ["own", "action", "before", "behind"], params := defArgs (top 21), body := defBody (top 21), scope := defScope (top 21) }
def d9 : Def := { name := "leads", ps := ["hypotheses", "action", "before", "behind"], N := ["hypotheses", "action", "before", "behind", "own"], params := defArgs (top 22), body := defBody (top 22), scope := defScope (top 22) }
def d10 : Def := { name := "image", ps := ["hypotheses", "action", "own"], N := ["hypotheses", "action", "own", "found", "behind", "before"], params := defArgs (top 23), body := defBody (top 23), scope := defScope (top 23) }
def d11 : Def := { name := "need_hypotheses", ps := ["value"], N := ["value"], params := defArgs (top 24), body := defBody (top 24), scope := defScope (top 24) }
def d12 : Def := { name := "fits_name", ps := ["value"], N := ["value"], params := defArgs (top 30), body := defBody (top 30), scope := defScope (top 30) }
def d13 : Def := { name := "is_plain_step", ps := ["value"], N := ["value"], params := defArgs (top 31), body := defBody (top 31), scope := defScope (top 31) }
def d14 : Def := { name := "blocks_of", ps := ["step"], N := ["step"], params := defArgs (top 32), body := defBody (top 32), scope := defScope (top 32) }
def d15 : Def := { name := "left_of", ps := ["value", "high", "many"], N := ["value", "high", "many", "step", "blocks", "block"], params := defArgs (top 33), body := defBody (top 33), scope := defScope (top 33) }
def d16 : Def := { name := "steps_in", ps := ["block"], N := ["block", "found", "step", "inner"], params := defArgs (top 34), body := defBody (top 34), scope := defScope (top 34) }
def d17 : Def := { name := "calls_in", ps := ["block"], N := ["block", "step"], params := defArgs (top 35), body := defBody (top 35), scope := defScope (top 35) }
def d18 : Def := { name := "actions_in", glob := "actions_in_programs", ps := ["block"], N := ["block", "step"], params := defArgs (top 36), body := defBody (top 36), scope := defScope (top 36) }
def d19 : Def := { name := "fits_plain", ps := ["value"], N := ["value"], params := defArgs (top 38), body := defBody (top 38), scope := defScope (top 38) }
def d20 : Def := { name := "need_plain", ps := ["value"], N := ["value"], params := defArgs (top 39), body := defBody (top 39), scope := defScope (top 39) }
def d21 : Def := { name := "is_within", ps := ["own", "other"], N := ["own", "other"], params := defArgs (top 41), body := defBody (top 41), scope := defScope (top 41) }
def d22 : Def := { name := "need_both", ps := ["program", "hypotheses"], N := ["program", "hypotheses"], params := defArgs (top 42), body := defBody (top 42), scope := defScope (top 42) }
def d23 : Def := { name := "need_all", ps := ["program", "hypotheses", "ahead", "behind"], N := ["program", "hypotheses", "ahead", "behind"], params := defArgs (top 43), body := defBody (top 43), scope := defScope (top 43) }
def d24 : Def := { name := "laid", ps := ["block", "number", "behind"], N := ["block", "number", "behind", "rows", "at", "step", "here", "after", "one"], params := defArgs (top 49), body := defBody (top 49), scope := defScope (top 49) }
def d25 : Def := { name := "rows_of", ps := ["program"], N := ["program"], params := defArgs (top 50), body := defBody (top 50), scope := defScope (top 50) }
def d26 : Def := { name := "next_point", ps := ["row", "atom"], N := ["row", "atom", "word", "own", "inside", "other", "after"], params := defArgs (top 51), body := defBody (top 51), scope := defScope (top 51) }
def d27 : Def := { name := "gone", ps := ["rows", "point", "atom"], N := ["rows", "point", "atom", "seen", "begun", "node", "word", "own"], params := defArgs (top 52), body := defBody (top 52), scope := defScope (top 52) }
def d28 : Def := { name := "points_of", ps := ["rows"], N := ["rows", "row"], params := defArgs (top 53), body := defBody (top 53), scope := defScope (top 53) }
def d29 : Def := { name := "go_from", ps := ["rows", "point", "atom"], N := ["rows", "point", "atom", "to", "begun", "row"], params := defArgs (top 54), body := defBody (top 54), scope := defScope (top 54) }
def d30 : Def := { name := "goes_in", ps := ["program"], N := ["program", "rows", "atom", "point"], params := defArgs (top 55), body := defBody (top 55), scope := defScope (top 55) }
def d31 : Def := { name := "goings_in", ps := ["program"], N := ["program", "to", "begun", "own"], params := defArgs (top 56), body := defBody (top 56), scope := defScope (top 56) }
def d32 : Def := { name := "actions_in", glob := "actions_in_places", ps := ["program"], N := ["program", "step"], params := defArgs (top 57), body := defBody (top 57), scope := defScope (top 57) }
def d33 : Def := { name := "pushed", ps := ["sets", "place", "own"], N := ["sets", "place", "own"], params := defArgs (top 60), body := defBody (top 60), scope := defScope (top 60) }
def d34 : Def := { name := "least_sets", ps := ["program", "hypotheses", "ahead"], N := ["program", "hypotheses", "ahead", "goings", "actions", "sets", "more", "place", "atom", "going"], params := defArgs (top 61), body := defBody (top 61), scope := defScope (top 61) }
def d35 : Def := { name := "are_closed", ps := ["program", "hypotheses", "behind", "sets"], N := ["program", "hypotheses", "behind", "sets", "goings", "actions", "place", "own", "atom", "going"], params := defArgs (top 62), body := defBody (top 62), scope := defScope (top 62) }
def d36 : Def := { name := "fits_sets", ps := ["program", "ahead", "value"], N := ["program", "ahead", "value", "many", "own"], params := defArgs (top 63), body := defBody (top 63), scope := defScope (top 63) }
def d37 : Def := { name := "place_sets", ps := ["program", "hypotheses", "ahead", "behind"], N := ["program", "hypotheses", "ahead", "behind", "sets"], params := defArgs (top 64), body := defBody (top 64), scope := defScope (top 64) }
def d38 : Def := { name := "takes_places", ps := ["program", "hypotheses", "ahead", "behind", "value"], N := ["program", "hypotheses", "ahead", "behind", "value"], params := defArgs (top 65), body := defBody (top 65), scope := defScope (top 65) }
def d39 : Def := { name := "_law_cup", ps := ["script"], N := ["script", "cell"], params := defArgs (top 67), body := defBody (top 67), scope := defScope (top 67) }
def d40 : Def := { name := "_law_roll", ps := ["cup", "many"], N := ["cup", "many", "found", "deep"], params := defArgs (top 68), body := defBody (top 68), scope := defScope (top 68) }
def d41 : Def := { name := "_law_some", ps := ["cup", "things"], N := ["cup", "things"], params := defArgs (top 69), body := defBody (top 69), scope := defScope (top 69) }
def d42 : Def := { name := "_law_has", ps := ["own", "atom"], N := ["own", "atom"], params := defArgs (top 70), body := defBody (top 70), scope := defScope (top 70) }
def d43 : Def := { name := "_law_blocks", ps := ["step"], N := ["step"], params := defArgs (top 71), body := defBody (top 71), scope := defScope (top 71) }
def d44 : Def := { name := "_law_steps", ps := ["block"], N := ["block", "found", "step", "inner"], params := defArgs (top 72), body := defBody (top 72), scope := defScope (top 72) }
def d45 : Def := { name := "_law_leads", ps := ["hypotheses", "action", "before", "behind"], N := ["hypotheses", "action", "before", "behind", "own", "bit"], params := defArgs (top 73), body := defBody (top 73), scope := defScope (top 73) }
def d46 : Def := { name := "_law_set", ps := ["cup"], N := ["cup"], params := defArgs (top 74), body := defBody (top 74), scope := defScope (top 74) }
def d47 : Def := { name := "_law_step", ps := ["cup", "deep"], N := ["cup", "deep", "way"], params := defArgs (top 75), body := defBody (top 75), scope := defScope (top 75) }
def d48 : Def := { name := "_law_block", ps := ["cup", "deep"], N := ["cup", "deep", "turn"], params := defArgs (top 76), body := defBody (top 76), scope := defScope (top 76) }
def d49 : Def := { name := "_law_hypotheses", ps := ["cup", "most"], N := ["cup", "most", "found", "turn"], params := defArgs (top 77), body := defBody (top 77), scope := defScope (top 77) }
def d50 : Def := { name := "_law_drawn", ps := ["cup", "most"], N := ["cup", "most", "found", "step"], params := defArgs (top 78), body := defBody (top 78), scope := defScope (top 78) }
def d51 : Def := { name := "_law_labelled", ps := ["block", "many"], N := ["block", "many", "found", "step", "inner"], params := defArgs (top 79), body := defBody (top 79), scope := defScope (top 79) }
def d52 : Def := { name := "_law_rests", ps := ["block", "rest", "found"], N := ["block", "rest", "found", "at", "step", "tail"], params := defArgs (top 80), body := defBody (top 80), scope := defScope (top 80) }
def d53 : Def := { name := "_law_going", ps := ["rest", "atom"], N := ["rest", "atom", "seen", "step"], params := defArgs (top 81), body := defBody (top 81), scope := defScope (top 81) }
def d54 : Def := { name := "_law_walks", ps := ["program"], N := ["program", "many", "own", "rests", "atom", "place"], params := defArgs (top 82), body := defBody (top 82), scope := defScope (top 82), rfs := [1] }
def d55 : Def := { name := "_law_members", ps := ["own"], N := ["own", "atom"], params := defArgs (top 83), body := defBody (top 83), scope := defScope (top 83) }
def d56 : Def := { name := "_law_set_of", ps := ["atoms"], N := ["atoms", "atom"], params := defArgs (top 84), body := defBody (top 84), scope := defScope (top 84) }
def d57 : Def := { name := "_law_ends", ps := ["program", "hypotheses", "start"], N := ["program", "hypotheses", "start", "goings", "actions", "seen", "line", "found", "own", "going", "some", "atom"], params := defArgs (top 85), body := defBody (top 85), scope := defScope (top 85), dtg := [(325, 25)] }
def d58 : Def := { name := "_law_table", ps := ["program", "hypotheses"], N := ["program", "hypotheses", "atom"], params := defArgs (top 86), body := defBody (top 86), scope := defScope (top 86) }
def d59 : Def := { name := "_law_within", ps := ["own", "other"], N := ["own", "other", "atom"], params := defArgs (top 87), body := defBody (top 87), scope := defScope (top 87) }
def d60 : Def := { name := "_law_union", ps := ["table", "own"], N := ["table", "own", "found", "atom"], params := defArgs (top 88), body := defBody (top 88), scope := defScope (top 88) }
def d61 : Def := { name := "_law_image", ps := ["hypotheses", "action", "own"], N := ["hypotheses", "action", "own", "found", "one", "atom"], params := defArgs (top 89), body := defBody (top 89), scope := defScope (top 89) }
def d62 : Def := { name := "_law_closed", ps := ["program", "hypotheses", "ahead", "behind", "sets"], N := ["program", "hypotheses", "ahead", "behind", "sets", "goings", "actions", "place", "own", "atom", "going"], params := defArgs (top 90), body := defBody (top 90), scope := defScope (top 90) }
def d63 : Def := { name := "law", ps := ["script"], N := ["script", "cup", "program", "hypotheses", "ahead", "table", "behind", "told", "leads_v", "many", "step", "sets", "at", "other", "odds", "turn", "odd", "wrong", "loop", "keep", "rows", "row"], params := defArgs (top 91), body := defBody (top 91), scope := defScope (top 91), rfs := [1] }
def ds0 : List Def := [d0, d1, d2, d3, d4, d5, d6, d7, d8, d9, d10, d11, d12, d13, d14, d15, d16, d17, d18, d19, d20, d21, d22, d23, d24]
def ds1 : List Def := [d25, d26, d27, d28, d29, d30, d31, d32, d33, d34, d35, d36, d37, d38, d39, d40, d41, d42, d43, d44, d45, d46, d47, d48, d49]
def ds2 : List Def := [d50, d51, d52, d53, d54, d55, d56, d57, d58, d59, d60, d61, d62, d63]
def ds : List Def := ds0 ++ ds1 ++ ds2
def cn0 : List (Str × T) := [("TESTS", .int 3), ("ATOMS", .int 8), ("ALL", .int 255), ("ACTIONS", .int 5), ("MOST", .int 5), ("PLAIN_NODES", .int 200), ("PLAIN_HEIGHT", .int 40), ("PLAIN_ACTIONS", .int 24), ("NAMES", .str "ABCDEFGH"), ("END", .int (-1)), ("BACK", .int (-2)), ("ENDS", .int (-2)), ("STOPS", .int (-1))]
def cn : List (Str × T) := cn0
def bl : List Str := ["abs", "all", "any", "bool", "enumerate", "int", "isinstance", "len", "list", "range", "set", "sorted", "str", "sum", "tuple"]
def rf0 : List (List Bool) := [[], [], [], [], [], [], [], [], [], [], [], [], [], [], [], [], [], [], [], [], [], [], [], [], []]
def rf1 : List (List Bool) := [[], [], [], [], [], [], [], [], [], [], [], [], [], [], [], [true], [true], [], [], [], [], [true], [true], [true], [true]]
def rf2 : List (List Bool) := [[true], [false, true], [false, false, true], [], [], [], [], [], [], [], [], [], [], []]
def rfa : List (List Bool) := rf0 ++ rf1 ++ rf2
def ky : List (List Key) := []
def Pm0 : Pm := ⟨fun k => !ky.contains k⟩
def C0 : CC := { N := [], fns := ds.map Def.glob, cons := cn, bl := bl, rfa := rfa }
def Γ : List Fn := ds.map (codeOf C0)
def ix : Ix := { f_is_whole := 0, f_is_tuple_of := 1, f_has := 2, f_members := 3, f_need_whole := 4, f_need_set := 5, f_fits_hypothesis := 6, f_fits_hypotheses := 7, f_does_forbid := 8, f_leads := 9, f_image := 10, f_need_hypotheses := 11, f_fits_name := 12, f_is_plain_step := 13, f_blocks_of := 14, f_left_of := 15, f_steps_in := 16, f_calls_in := 17, f_actions_in := 18, f_fits_plain := 19, f_need_plain := 20, f_is_within := 21, f_need_both := 22, f_need_all := 23, f_laid := 24, f_rows_of := 25, f_next_point := 26, f_gone := 27, f_points_of := 28, f_go_from := 29, f_goes_in := 30, f_goings_in := 31, f_actions_in_places := 32, f_pushed := 33, f_least_sets := 34, f_are_closed := 35, f_fits_sets := 36, f_place_sets := 37, f_takes_places := 38, f_law_cup := 39, f_law_roll := 40, f_law_some := 41, f_law_has := 42, f_law_blocks := 43, f_law_steps := 44, f_law_leads := 45, f_law_set := 46, f_law_step := 47, f_law_block := 48, f_law_hypotheses := 49, f_law_drawn := 50, f_law_labelled := 51, f_law_rests := 52, f_law_going := 53, f_law_walks := 54, f_law_members := 55, f_law_set_of := 56, f_law_ends := 57, f_law_table := 58, f_law_within := 59, f_law_union := 60, f_law_image := 61, f_law_closed := 62 }
theorem g_is_whole : Γ[ix.f_is_whole]? = some (cc_is_whole ix) := by kernel_rfl
theorem g_is_tuple_of : Γ[ix.f_is_tuple_of]? = some (cc_is_tuple_of ix) := by kernel_rfl
theorem g_has : Γ[ix.f_has]? = some (cc_has ix) := by kernel_rfl
theorem g_members : Γ[ix.f_members]? = some (cc_members ix) := by kernel_rfl
theorem g_need_whole : Γ[ix.f_need_whole]? = some (cc_need_whole ix) := by kernel_rfl
theorem g_need_set : Γ[ix.f_need_set]? = some (cc_need_set ix) := by kernel_rfl
theorem g_fits_hypothesis : Γ[ix.f_fits_hypothesis]? = some (cc_fits_hypothesis ix) := by kernel_rfl
theorem g_fits_hypotheses : Γ[ix.f_fits_hypotheses]? = some (cc_fits_hypotheses ix) := by kernel_rfl
theorem g_does_forbid : Γ[ix.f_does_forbid]? = some (cc_does_forbid ix) := by kernel_rfl
theorem g_leads : Γ[ix.f_leads]? = some (cc_leads ix) := by kernel_rfl
theorem g_image : Γ[ix.f_image]? = some (cc_image ix) := by kernel_rfl
theorem g_need_hypotheses : Γ[ix.f_need_hypotheses]? = some (cc_need_hypotheses ix) := by kernel_rfl
theorem g_fits_name : Γ[ix.f_fits_name]? = some (cc_fits_name ix) := by kernel_rfl
theorem g_is_plain_step : Γ[ix.f_is_plain_step]? = some (cc_is_plain_step ix) := by kernel_rfl
theorem g_blocks_of : Γ[ix.f_blocks_of]? = some (cc_blocks_of ix) := by kernel_rfl
theorem g_left_of : Γ[ix.f_left_of]? = some (cc_left_of ix) := by kernel_rfl
theorem g_steps_in : Γ[ix.f_steps_in]? = some (cc_steps_in ix) := by kernel_rfl
theorem g_calls_in : Γ[ix.f_calls_in]? = some (cc_calls_in ix) := by kernel_rfl
theorem g_actions_in : Γ[ix.f_actions_in]? = some (cc_actions_in ix) := by kernel_rfl
theorem g_fits_plain : Γ[ix.f_fits_plain]? = some (cc_fits_plain ix) := by kernel_rfl
theorem g_need_plain : Γ[ix.f_need_plain]? = some (cc_need_plain ix) := by kernel_rfl
theorem g_is_within : Γ[ix.f_is_within]? = some (cc_is_within ix) := by kernel_rfl
theorem g_need_both : Γ[ix.f_need_both]? = some (cc_need_both ix) := by kernel_rfl
theorem g_need_all : Γ[ix.f_need_all]? = some (cc_need_all ix) := by kernel_rfl
theorem g_laid : Γ[ix.f_laid]? = some (cc_laid ix) := by kernel_rfl
theorem g_rows_of : Γ[ix.f_rows_of]? = some (cc_rows_of ix) := by kernel_rfl
theorem g_next_point : Γ[ix.f_next_point]? = some (cc_next_point ix) := by kernel_rfl
theorem g_gone : Γ[ix.f_gone]? = some (cc_gone ix) := by kernel_rfl
theorem g_points_of : Γ[ix.f_points_of]? = some (cc_points_of ix) := by kernel_rfl
theorem g_go_from : Γ[ix.f_go_from]? = some (cc_go_from ix) := by kernel_rfl
theorem g_goes_in : Γ[ix.f_goes_in]? = some (cc_goes_in ix) := by kernel_rfl
theorem g_goings_in : Γ[ix.f_goings_in]? = some (cc_goings_in ix) := by kernel_rfl
theorem g_actions_in_places : Γ[ix.f_actions_in_places]? = some (cc_actions_in_places ix) := by kernel_rfl
theorem g_pushed : Γ[ix.f_pushed]? = some (cc_pushed ix) := by kernel_rfl
theorem g_least_sets : Γ[ix.f_least_sets]? = some (cc_least_sets ix) := by kernel_rfl
theorem g_are_closed : Γ[ix.f_are_closed]? = some (cc_are_closed ix) := by kernel_rfl
theorem g_fits_sets : Γ[ix.f_fits_sets]? = some (cc_fits_sets ix) := by kernel_rfl
theorem g_place_sets : Γ[ix.f_place_sets]? = some (cc_place_sets ix) := by kernel_rfl
theorem g_takes_places : Γ[ix.f_takes_places]? = some (cc_takes_places ix) := by kernel_rfl
theorem g_law_cup : Γ[ix.f_law_cup]? = some (cc_law_cup ix) := by kernel_rfl
theorem g_law_roll : Γ[ix.f_law_roll]? = some (cc_law_roll ix) := by kernel_rfl
theorem g_law_some : Γ[ix.f_law_some]? = some (cc_law_some ix) := by kernel_rfl
theorem g_law_has : Γ[ix.f_law_has]? = some (cc_law_has ix) := by kernel_rfl
theorem g_law_blocks : Γ[ix.f_law_blocks]? = some (cc_law_blocks ix) := by kernel_rfl
theorem g_law_steps : Γ[ix.f_law_steps]? = some (cc_law_steps ix) := by kernel_rfl
theorem g_law_leads : Γ[ix.f_law_leads]? = some (cc_law_leads ix) := by kernel_rfl
theorem g_law_set : Γ[ix.f_law_set]? = some (cc_law_set ix) := by kernel_rfl
theorem g_law_step : Γ[ix.f_law_step]? = some (cc_law_step ix) := by kernel_rfl
theorem g_law_block : Γ[ix.f_law_block]? = some (cc_law_block ix) := by kernel_rfl
theorem g_law_hypotheses : Γ[ix.f_law_hypotheses]? = some (cc_law_hypotheses ix) := by kernel_rfl
theorem g_law_drawn : Γ[ix.f_law_drawn]? = some (cc_law_drawn ix) := by kernel_rfl
theorem g_law_labelled : Γ[ix.f_law_labelled]? = some (cc_law_labelled ix) := by kernel_rfl
theorem g_law_rests : Γ[ix.f_law_rests]? = some (cc_law_rests ix) := by kernel_rfl
theorem g_law_going : Γ[ix.f_law_going]? = some (cc_law_going ix) := by kernel_rfl
theorem g_law_walks : Γ[ix.f_law_walks]? = some (cc_law_walks ix) := by kernel_rfl
theorem g_law_members : Γ[ix.f_law_members]? = some (cc_law_members ix) := by kernel_rfl
theorem g_law_set_of : Γ[ix.f_law_set_of]? = some (cc_law_set_of ix) := by kernel_rfl
theorem g_law_ends : Γ[ix.f_law_ends]? = some (cc_law_ends ix) := by kernel_rfl
theorem g_law_table : Γ[ix.f_law_table]? = some (cc_law_table ix) := by kernel_rfl
theorem g_law_within : Γ[ix.f_law_within]? = some (cc_law_within ix) := by kernel_rfl
theorem g_law_union : Γ[ix.f_law_union]? = some (cc_law_union ix) := by kernel_rfl
theorem g_law_image : Γ[ix.f_law_image]? = some (cc_law_image ix) := by kernel_rfl
theorem g_law_closed : Γ[ix.f_law_closed]? = some (cc_law_closed ix) := by kernel_rfl
def k_law : TW.Fn := ⟨1, 22, [.asg [0] 1 (.mkr (.call ix.f_law_cup [.var 0])), .par [1, 1, 1] [2, 3, 4] [.call ix.f_law_drawn [.mkr (.var 1), .con (.int 10)], .call ix.f_law_hypotheses [.mkr (.var 1), .con (.int 3)], .call ix.f_law_set [.mkr (.var 1)]], .asg [2, 3] 5 (.call ix.f_law_table [.var 2, .var 3]), .for_ [1, 5, 4] (.nm 6) (.seq (.tup [.call ix.f_law_set [.mkr (.var 1)], .call ix.f_law_union [.var 5, .var 4]])) [.asg [2, 3, 4, 6] 7 (.call ix.f_place_sets [.var 2, .var 3, .var 4, .var 6]), .asg [5, 4, 6] 8 (.call ix.f_law_within [.call ix.f_law_union [.var 5, .var 4], .var 6]), .ifs [8, 2, 3, 4, 6, 7] (.or (.cmp .ne (.cmp .notN (.pk 7) (.con (.non))) (.pk 8)) (.and (.var 8) (.not (.call ix.f_law_closed [.var 2, .var 3, .var 4, .var 6, .var 7])))) [.ret [] (.con (.bl false))] [], .asg [10, 2] 9 (.blt .len (.lc [10] (.var 10) (.nm 10) (.seq (.call ix.f_law_steps [.var 2])) (some (.cmp .eq (.ix (.pk 10) (.con (.int 0))) (.con (.str "do")))))), .asg [7, 4] 11 (.ifx (.cmp .notN (.pk 7) (.con (.non))) (.var 7) (.bin .add (.tup [.var 4]) (.bin .mul (.tup [.con (.int 255)]) (.pk 9)))), .par [1, 1] [12, 13] [.call ix.f_law_roll [.mkr (.var 1), .bin .add (.pk 9) (.con (.int 1))], .call ix.f_law_set [.mkr (.var 1)]], .asg [11, 12, 13, 12] 14 (.lst [.var 11, .bin .add (.bin .add (.sl (.pk 11) none (some (.var 12))) (.tup [.var 13])) (.sl (.pk 11) (some (.bin .add (.pk 12) (.con (.int 1)))) none), .bin .add (.bin .add (.sl (.pk 11) none (some (.var 12))) (.tup [.con (.int 255)])) (.sl (.pk 11) (some (.bin .add (.pk 12) (.con (.int 1)))) none), .rev (.pk 11)]), .asg [] 14 (.bin .add (.pk 14) (.lst [.bin .mul (.tup [.con (.int 255)]) (.bin .add (.pk 9) (.con (.int 1))), .bin .mul (.tup [.con (.int 0)]) (.bin .add (.pk 9) (.con (.int 1)))])), .for_ [] (.nm 15) (.rng1 (.con (.int 2))) [.asg [1, 14] 16 (.call ix.f_law_some [.mkr (.var 1), .var 14]), .ifs [2, 3, 4, 6, 16, 2, 3, 4, 6, 16] (.cmp .ne (.call ix.f_takes_places [.var 2, .var 3, .var 4, .var 6, .var 16]) (.call ix.f_law_closed [.var 2, .var 3, .var 4, .var 6, .var 16])) [.ret [] (.con (.bl false))] []], .asg [] 17 (.lst [.con (.non), .blt .listOf (.pk 11), .bin .add (.pk 11) (.tup [.con (.int 0)]), .sl (.pk 11) none (some (.neg (.con (.int 1)))), .bin .add (.tup [.con (.bl true)]) (.bin .mul (.tup [.con (.int 255)]) (.pk 9)), .bin .add (.tup [.con (.int 256)]) (.sl (.pk 11) (some (.con (.int 1))) none), .bin .add (.sl (.pk 11) none (some (.neg (.con (.int 1))))) (.tup [.neg (.con (.int 1))])]), .asg [] 17 (.bin .add (.pk 17) (.lst [.bin .add (.sl (.pk 11) none (some (.neg (.con (.int 1))))) (.tup [.con (.non)]), .bin .add (.sl (.pk 11) none (some (.neg (.con (.int 1))))) (.tup [.tup [.con (.int 255)]]), .bin .add (.sl (.pk 11) none (some (.neg (.con (.int 1))))) (.tup [.con (.str "a")]), .con (.str "255")])), .ifs [2, 3, 1, 17] (.cmp .notN (.call ix.f_takes_places [.var 2, .var 3, .con (.int 0), .con (.int 255), .call ix.f_law_some [.mkr (.var 1), .var 17]]) (.con (.bl false))) [.ret [] (.con (.bl false))] []], .unp [] [18, 19] (.tup [.tup [.tup [.con (.str "while"), .con (.int 170), .tup [.tup [.con (.str "do"), .con (.int 0)]]], .tup [.con (.str "assert"), .con (.int 204)]], .tup [.tup [.con (.str "keep"), .con (.int 0), .con (.int 1)], .tup [.con (.str "keep"), .con (.int 0), .con (.int 2)]]]), .asg [] 20 (.lst [.tup [.tup [.con (.int 8), .con (.int 12)], .con (.bl true)], .tup [.tup [.con (.int 8), .con (.int 8)], .con (.bl false)], .tup [.tup [.con (.int 12), .con (.int 12)], .con (.bl true)], .tup [.tup [.con (.int 4), .con (.int 12)], .con (.bl false)], .tup [.tup [.con (.int 8), .con (.int 255)], .con (.bl false)], .tup [.tup [.con (.int 8), .con (.int 12), .con (.int 0)], .con (.bl false)]]), .ifs [21, 18, 19] (.cmp .ne (.lc [21] (.var 21) (.nm 21) (.seq (.pk 20)) (some (.cmp .ne (.call ix.f_takes_places [.var 18, .var 19, .con (.int 8), .con (.int 4), .ix (.pk 21) (.con (.int 0))]) (.ix (.pk 21) (.con (.int 1)))))) (.lst [])) [.ret [] (.con (.bl false))] [], .ifs [] (.cmp .notN (.call ix.f_takes_places [.tup [.tup [.con (.str "do"), .con (.int 4)]], .tup [.tup [.con (.str "keep"), .con (.int 4), .con (.int 0)]], .con (.int 2), .con (.int 170), .tup [.con (.int 2), .con (.int 170)]]) (.con (.bl true))) [.ret [] (.con (.bl false))] [], .ret [18, 18, 19, 18, 19] (.and (.cmp .isN (.call ix.f_place_sets [.var 18, .tup [], .con (.int 2), .con (.int 4)]) (.con (.non))) (.call ix.f_law_closed [.var 18, .var 19, .con (.int 8), .con (.int 4), .call ix.f_place_sets [.var 18, .var 19, .con (.int 8), .con (.int 4)]]))]⟩
theorem g_law : Γ[63]? = some k_law := by kernel_rfl
abbrev lawI : Nat := 63
theorem lR : LibR Γ ix := { laid := g_laid, rows_of := g_rows_of, next_point := g_next_point, gone := g_gone, points_of := g_points_of, go_from := g_go_from, goes_in := g_goes_in, goings_in := g_goings_in, actions_in := g_actions_in_places }
theorem lS : LibS Γ ix := { pushed := g_pushed, least_sets := g_least_sets, are_closed := g_are_closed, fits_sets := g_fits_sets, place_sets := g_place_sets, takes_places := g_takes_places }
theorem lT : LibT Γ ix := { image := g_law_image, closed := g_law_closed }
theorem lG : LibG Γ ix := { need_whole := g_need_whole, need_set := g_need_set, is_within := g_is_within, need_all := g_need_all }
theorem lA : LibA Γ ix := { is_whole := g_is_whole, is_tuple_of := g_is_tuple_of, has := g_has, members := g_members, does_forbid := g_does_forbid, leads := g_leads, image := g_image }
theorem lC : LibC Γ ix := { is_plain_step := g_is_plain_step, blocks_of := g_blocks_of, left_of := g_left_of, steps_in := g_steps_in, calls_in := g_calls_in, actions_in := g_actions_in }
theorem lD : LibD Γ ix := { fits_plain := g_fits_plain, need_plain := g_need_plain, fits_hypothesis := g_fits_hypothesis, fits_hypotheses := g_fits_hypotheses, need_hypotheses := g_need_hypotheses, need_both := g_need_both }
theorem lL : LibL Γ ix := { cup := g_law_cup, roll := g_law_roll, some_ := g_law_some, set := g_law_set, step := g_law_step, block := g_law_block }
theorem lM : LibM Γ ix := { hyps := g_law_hypotheses, blocks := g_law_blocks, steps := g_law_steps, drawn := g_law_drawn }
theorem lU : LibU Γ ix := { members := g_law_members }
theorem lV : LibV Γ ix := { within := g_law_within, union := g_law_union }
theorem lW : LibW Γ ix := { has := g_law_has, leads := g_law_leads, labelled := g_law_labelled, rests := g_law_rests, going := g_law_going, walks := g_law_walks, set_of := g_law_set_of, ends := g_law_ends, table := g_law_table }
theorem fc {p : Def → Prop} {d : Def} {l : List Def} (h : p d) (h2 : ∀ e ∈ l, p e) : ∀ e ∈ d :: l, p e := List.forall_mem_cons.mpr ⟨h, h2⟩
theorem fn {p : Def → Prop} : ∀ e ∈ ([] : List Def), p e := fun _ h => by cases h
abbrev Sc (d : Def) : Prop := FnScope d.N d.ps d.scope
abbrev Bd (d : Def) : Prop := ∀ {K : PySem.W.Frag} {f : Addr} {fd : FuncData}, FunD K d.name d.name d.params d.body d.scope [] [] f fd → Binds K fd d.ps []
theorem sc0 : Sc d0 := ⟨by kernel_rfl, by kernel_rfl, by kernel_rfl, by decide +kernel, by kernel_rfl, by decide +kernel, by decide +kernel⟩
theorem bd0 : Bd d0 := fun F => F.bindsN fun _ _ _ _ _ _ us hl => match us, hl with | [_, _, _], _ => by kernel_rfl
theorem sc1 : Sc d1 := ⟨by kernel_rfl, by kernel_rfl, by kernel_rfl, by decide +kernel, by kernel_rfl, by decide +kernel, by decide +kernel⟩
theorem bd1 : Bd d1 := fun F => F.bindsN fun _ _ _ _ _ _ us hl => match us, hl with | [_, _, _], _ => by kernel_rfl
theorem sc2 : Sc d2 := ⟨by kernel_rfl, by kernel_rfl, by kernel_rfl, by decide +kernel, by kernel_rfl, by decide +kernel, by decide +kernel⟩
theorem bd2 : Bd d2 := fun F => F.bindsN fun _ _ _ _ _ _ us hl => match us, hl with | [_, _], _ => by kernel_rfl
theorem sc3 : Sc d3 := ⟨by kernel_rfl, by kernel_rfl, by kernel_rfl, by decide +kernel, by kernel_rfl, by decide +kernel, by decide +kernel⟩
theorem bd3 : Bd d3 := fun F => F.bindsN fun _ _ _ _ _ _ us hl => match us, hl with | [_], _ => by kernel_rfl
theorem sc4 : Sc d4 := ⟨by kernel_rfl, by kernel_rfl, by kernel_rfl, by decide +kernel, by kernel_rfl, by decide +kernel, by decide +kernel⟩
theorem bd4 : Bd d4 := fun F => F.bindsN fun _ _ _ _ _ _ us hl => match us, hl with | [_, _, _], _ => by kernel_rfl
theorem sc5 : Sc d5 := ⟨by kernel_rfl, by kernel_rfl, by kernel_rfl, by decide +kernel, by kernel_rfl, by decide +kernel, by decide +kernel⟩
theorem bd5 : Bd d5 := fun F => F.bindsN fun _ _ _ _ _ _ us hl => match us, hl with | [_], _ => by kernel_rfl
theorem sc6 : Sc d6 := ⟨by kernel_rfl, by kernel_rfl, by kernel_rfl, by decide +kernel, by kernel_rfl, by decide +kernel, by decide +kernel⟩
theorem bd6 : Bd d6 := fun F => F.bindsN fun _ _ _ _ _ _ us hl => match us, hl with | [_], _ => by kernel_rfl
theorem sc7 : Sc d7 := ⟨by kernel_rfl, by kernel_rfl, by kernel_rfl, by decide +kernel, by kernel_rfl, by decide +kernel, by decide +kernel⟩
theorem bd7 : Bd d7 := fun F => F.bindsN fun _ _ _ _ _ _ us hl => match us, hl with | [_], _ => by kernel_rfl
theorem sc8 : Sc d8 := ⟨by kernel_rfl, by kernel_rfl, by kernel_rfl, by decide +kernel, by kernel_rfl, by decide +kernel, by decide +kernel⟩
theorem bd8 : Bd d8 := fun F => F.bindsN fun _ _ _ _ _ _ us hl => match us, hl with | [_, _, _, _], _ => by kernel_rfl
theorem sc9 : Sc d9 := ⟨by kernel_rfl, by kernel_rfl, by kernel_rfl, by decide +kernel, by kernel_rfl, by decide +kernel, by decide +kernel⟩
theorem bd9 : Bd d9 := fun F => F.bindsN fun _ _ _ _ _ _ us hl => match us, hl with | [_, _, _, _], _ => by kernel_rfl
theorem sc10 : Sc d10 := ⟨by kernel_rfl, by kernel_rfl, by kernel_rfl, by decide +kernel, by kernel_rfl, by decide +kernel, by decide +kernel⟩
theorem bd10 : Bd d10 := fun F => F.bindsN fun _ _ _ _ _ _ us hl => match us, hl with | [_, _, _], _ => by kernel_rfl
theorem sc11 : Sc d11 := ⟨by kernel_rfl, by kernel_rfl, by kernel_rfl, by decide +kernel, by kernel_rfl, by decide +kernel, by decide +kernel⟩
theorem bd11 : Bd d11 := fun F => F.bindsN fun _ _ _ _ _ _ us hl => match us, hl with | [_], _ => by kernel_rfl
theorem sc12 : Sc d12 := ⟨by kernel_rfl, by kernel_rfl, by kernel_rfl, by decide +kernel, by kernel_rfl, by decide +kernel, by decide +kernel⟩
theorem bd12 : Bd d12 := fun F => F.bindsN fun _ _ _ _ _ _ us hl => match us, hl with | [_], _ => by kernel_rfl
theorem sc13 : Sc d13 := ⟨by kernel_rfl, by kernel_rfl, by kernel_rfl, by decide +kernel, by kernel_rfl, by decide +kernel, by decide +kernel⟩
theorem bd13 : Bd d13 := fun F => F.bindsN fun _ _ _ _ _ _ us hl => match us, hl with | [_], _ => by kernel_rfl
theorem sc14 : Sc d14 := ⟨by kernel_rfl, by kernel_rfl, by kernel_rfl, by decide +kernel, by kernel_rfl, by decide +kernel, by decide +kernel⟩
theorem bd14 : Bd d14 := fun F => F.bindsN fun _ _ _ _ _ _ us hl => match us, hl with | [_], _ => by kernel_rfl
theorem sc15 : Sc d15 := ⟨by kernel_rfl, by kernel_rfl, by kernel_rfl, by decide +kernel, by kernel_rfl, by decide +kernel, by decide +kernel⟩
theorem bd15 : Bd d15 := fun F => F.bindsN fun _ _ _ _ _ _ us hl => match us, hl with | [_, _, _], _ => by kernel_rfl
theorem sc16 : Sc d16 := ⟨by kernel_rfl, by kernel_rfl, by kernel_rfl, by decide +kernel, by kernel_rfl, by decide +kernel, by decide +kernel⟩
theorem bd16 : Bd d16 := fun F => F.bindsN fun _ _ _ _ _ _ us hl => match us, hl with | [_], _ => by kernel_rfl
theorem sc17 : Sc d17 := ⟨by kernel_rfl, by kernel_rfl, by kernel_rfl, by decide +kernel, by kernel_rfl, by decide +kernel, by decide +kernel⟩
theorem bd17 : Bd d17 := fun F => F.bindsN fun _ _ _ _ _ _ us hl => match us, hl with | [_], _ => by kernel_rfl
theorem sc18 : Sc d18 := ⟨by kernel_rfl, by kernel_rfl, by kernel_rfl, by decide +kernel, by kernel_rfl, by decide +kernel, by decide +kernel⟩
theorem bd18 : Bd d18 := fun F => F.bindsN fun _ _ _ _ _ _ us hl => match us, hl with | [_], _ => by kernel_rfl
theorem sc19 : Sc d19 := ⟨by kernel_rfl, by kernel_rfl, by kernel_rfl, by decide +kernel, by kernel_rfl, by decide +kernel, by decide +kernel⟩
theorem bd19 : Bd d19 := fun F => F.bindsN fun _ _ _ _ _ _ us hl => match us, hl with | [_], _ => by kernel_rfl
theorem sc20 : Sc d20 := ⟨by kernel_rfl, by kernel_rfl, by kernel_rfl, by decide +kernel, by kernel_rfl, by decide +kernel, by decide +kernel⟩
theorem bd20 : Bd d20 := fun F => F.bindsN fun _ _ _ _ _ _ us hl => match us, hl with | [_], _ => by kernel_rfl
theorem sc21 : Sc d21 := ⟨by kernel_rfl, by kernel_rfl, by kernel_rfl, by decide +kernel, by kernel_rfl, by decide +kernel, by decide +kernel⟩
theorem bd21 : Bd d21 := fun F => F.bindsN fun _ _ _ _ _ _ us hl => match us, hl with | [_, _], _ => by kernel_rfl
theorem sc22 : Sc d22 := ⟨by kernel_rfl, by kernel_rfl, by kernel_rfl, by decide +kernel, by kernel_rfl, by decide +kernel, by decide +kernel⟩
theorem bd22 : Bd d22 := fun F => F.bindsN fun _ _ _ _ _ _ us hl => match us, hl with | [_, _], _ => by kernel_rfl
theorem sc23 : Sc d23 := ⟨by kernel_rfl, by kernel_rfl, by kernel_rfl, by decide +kernel, by kernel_rfl, by decide +kernel, by decide +kernel⟩
theorem bd23 : Bd d23 := fun F => F.bindsN fun _ _ _ _ _ _ us hl => match us, hl with | [_, _, _, _], _ => by kernel_rfl
theorem sc24 : Sc d24 := ⟨by kernel_rfl, by kernel_rfl, by kernel_rfl, by decide +kernel, by kernel_rfl, by decide +kernel, by decide +kernel⟩
theorem bd24 : Bd d24 := fun F => F.bindsN fun _ _ _ _ _ _ us hl => match us, hl with | [_, _, _], _ => by kernel_rfl
theorem sc25 : Sc d25 := ⟨by kernel_rfl, by kernel_rfl, by kernel_rfl, by decide +kernel, by kernel_rfl, by decide +kernel, by decide +kernel⟩
theorem bd25 : Bd d25 := fun F => F.bindsN fun _ _ _ _ _ _ us hl => match us, hl with | [_], _ => by kernel_rfl
theorem sc26 : Sc d26 := ⟨by kernel_rfl, by kernel_rfl, by kernel_rfl, by decide +kernel, by kernel_rfl, by decide +kernel, by decide +kernel⟩
theorem bd26 : Bd d26 := fun F => F.bindsN fun _ _ _ _ _ _ us hl => match us, hl with | [_, _], _ => by kernel_rfl
theorem sc27 : Sc d27 := ⟨by kernel_rfl, by kernel_rfl, by kernel_rfl, by decide +kernel, by kernel_rfl, by decide +kernel, by decide +kernel⟩
theorem bd27 : Bd d27 := fun F => F.bindsN fun _ _ _ _ _ _ us hl => match us, hl with | [_, _, _], _ => by kernel_rfl
theorem sc28 : Sc d28 := ⟨by kernel_rfl, by kernel_rfl, by kernel_rfl, by decide +kernel, by kernel_rfl, by decide +kernel, by decide +kernel⟩
theorem bd28 : Bd d28 := fun F => F.bindsN fun _ _ _ _ _ _ us hl => match us, hl with | [_], _ => by kernel_rfl
theorem sc29 : Sc d29 := ⟨by kernel_rfl, by kernel_rfl, by kernel_rfl, by decide +kernel, by kernel_rfl, by decide +kernel, by decide +kernel⟩
theorem bd29 : Bd d29 := fun F => F.bindsN fun _ _ _ _ _ _ us hl => match us, hl with | [_, _, _], _ => by kernel_rfl
theorem sc30 : Sc d30 := ⟨by kernel_rfl, by kernel_rfl, by kernel_rfl, by decide +kernel, by kernel_rfl, by decide +kernel, by decide +kernel⟩
theorem bd30 : Bd d30 := fun F => F.bindsN fun _ _ _ _ _ _ us hl => match us, hl with | [_], _ => by kernel_rfl
theorem sc31 : Sc d31 := ⟨by kernel_rfl, by kernel_rfl, by kernel_rfl, by decide +kernel, by kernel_rfl, by decide +kernel, by decide +kernel⟩
theorem bd31 : Bd d31 := fun F => F.bindsN fun _ _ _ _ _ _ us hl => match us, hl with | [_], _ => by kernel_rfl
theorem sc32 : Sc d32 := ⟨by kernel_rfl, by kernel_rfl, by kernel_rfl, by decide +kernel, by kernel_rfl, by decide +kernel, by decide +kernel⟩
theorem bd32 : Bd d32 := fun F => F.bindsN fun _ _ _ _ _ _ us hl => match us, hl with | [_], _ => by kernel_rfl
theorem sc33 : Sc d33 := ⟨by kernel_rfl, by kernel_rfl, by kernel_rfl, by decide +kernel, by kernel_rfl, by decide +kernel, by decide +kernel⟩
theorem bd33 : Bd d33 := fun F => F.bindsN fun _ _ _ _ _ _ us hl => match us, hl with | [_, _, _], _ => by kernel_rfl
theorem sc34 : Sc d34 := ⟨by kernel_rfl, by kernel_rfl, by kernel_rfl, by decide +kernel, by kernel_rfl, by decide +kernel, by decide +kernel⟩
theorem bd34 : Bd d34 := fun F => F.bindsN fun _ _ _ _ _ _ us hl => match us, hl with | [_, _, _], _ => by kernel_rfl
theorem sc35 : Sc d35 := ⟨by kernel_rfl, by kernel_rfl, by kernel_rfl, by decide +kernel, by kernel_rfl, by decide +kernel, by decide +kernel⟩
theorem bd35 : Bd d35 := fun F => F.bindsN fun _ _ _ _ _ _ us hl => match us, hl with | [_, _, _, _], _ => by kernel_rfl
theorem sc36 : Sc d36 := ⟨by kernel_rfl, by kernel_rfl, by kernel_rfl, by decide +kernel, by kernel_rfl, by decide +kernel, by decide +kernel⟩
theorem bd36 : Bd d36 := fun F => F.bindsN fun _ _ _ _ _ _ us hl => match us, hl with | [_, _, _], _ => by kernel_rfl
theorem sc37 : Sc d37 := ⟨by kernel_rfl, by kernel_rfl, by kernel_rfl, by decide +kernel, by kernel_rfl, by decide +kernel, by decide +kernel⟩
theorem bd37 : Bd d37 := fun F => F.bindsN fun _ _ _ _ _ _ us hl => match us, hl with | [_, _, _, _], _ => by kernel_rfl
theorem sc38 : Sc d38 := ⟨by kernel_rfl, by kernel_rfl, by kernel_rfl, by decide +kernel, by kernel_rfl, by decide +kernel, by decide +kernel⟩
theorem bd38 : Bd d38 := fun F => F.bindsN fun _ _ _ _ _ _ us hl => match us, hl with | [_, _, _, _, _], _ => by kernel_rfl
theorem sc39 : Sc d39 := ⟨by kernel_rfl, by kernel_rfl, by kernel_rfl, by decide +kernel, by kernel_rfl, by decide +kernel, by decide +kernel⟩
theorem bd39 : Bd d39 := fun F => F.bindsN fun _ _ _ _ _ _ us hl => match us, hl with | [_], _ => by kernel_rfl
theorem sc40 : Sc d40 := ⟨by kernel_rfl, by kernel_rfl, by kernel_rfl, by decide +kernel, by kernel_rfl, by decide +kernel, by decide +kernel⟩
theorem bd40 : Bd d40 := fun F => F.bindsN fun _ _ _ _ _ _ us hl => match us, hl with | [_, _], _ => by kernel_rfl
theorem sc41 : Sc d41 := ⟨by kernel_rfl, by kernel_rfl, by kernel_rfl, by decide +kernel, by kernel_rfl, by decide +kernel, by decide +kernel⟩
theorem bd41 : Bd d41 := fun F => F.bindsN fun _ _ _ _ _ _ us hl => match us, hl with | [_, _], _ => by kernel_rfl
theorem sc42 : Sc d42 := ⟨by kernel_rfl, by kernel_rfl, by kernel_rfl, by decide +kernel, by kernel_rfl, by decide +kernel, by decide +kernel⟩
theorem bd42 : Bd d42 := fun F => F.bindsN fun _ _ _ _ _ _ us hl => match us, hl with | [_, _], _ => by kernel_rfl
theorem sc43 : Sc d43 := ⟨by kernel_rfl, by kernel_rfl, by kernel_rfl, by decide +kernel, by kernel_rfl, by decide +kernel, by decide +kernel⟩
theorem bd43 : Bd d43 := fun F => F.bindsN fun _ _ _ _ _ _ us hl => match us, hl with | [_], _ => by kernel_rfl
theorem sc44 : Sc d44 := ⟨by kernel_rfl, by kernel_rfl, by kernel_rfl, by decide +kernel, by kernel_rfl, by decide +kernel, by decide +kernel⟩
theorem bd44 : Bd d44 := fun F => F.bindsN fun _ _ _ _ _ _ us hl => match us, hl with | [_], _ => by kernel_rfl
theorem sc45 : Sc d45 := ⟨by kernel_rfl, by kernel_rfl, by kernel_rfl, by decide +kernel, by kernel_rfl, by decide +kernel, by decide +kernel⟩
theorem bd45 : Bd d45 := fun F => F.bindsN fun _ _ _ _ _ _ us hl => match us, hl with | [_, _, _, _], _ => by kernel_rfl
theorem sc46 : Sc d46 := ⟨by kernel_rfl, by kernel_rfl, by kernel_rfl, by decide +kernel, by kernel_rfl, by decide +kernel, by decide +kernel⟩
theorem bd46 : Bd d46 := fun F => F.bindsN fun _ _ _ _ _ _ us hl => match us, hl with | [_], _ => by kernel_rfl
theorem sc47 : Sc d47 := ⟨by kernel_rfl, by kernel_rfl, by kernel_rfl, by decide +kernel, by kernel_rfl, by decide +kernel, by decide +kernel⟩
theorem bd47 : Bd d47 := fun F => F.bindsN fun _ _ _ _ _ _ us hl => match us, hl with | [_, _], _ => by kernel_rfl
theorem sc48 : Sc d48 := ⟨by kernel_rfl, by kernel_rfl, by kernel_rfl, by decide +kernel, by kernel_rfl, by decide +kernel, by decide +kernel⟩
theorem bd48 : Bd d48 := fun F => F.bindsN fun _ _ _ _ _ _ us hl => match us, hl with | [_, _], _ => by kernel_rfl
theorem sc49 : Sc d49 := ⟨by kernel_rfl, by kernel_rfl, by kernel_rfl, by decide +kernel, by kernel_rfl, by decide +kernel, by decide +kernel⟩
theorem bd49 : Bd d49 := fun F => F.bindsN fun _ _ _ _ _ _ us hl => match us, hl with | [_, _], _ => by kernel_rfl
theorem sc50 : Sc d50 := ⟨by kernel_rfl, by kernel_rfl, by kernel_rfl, by decide +kernel, by kernel_rfl, by decide +kernel, by decide +kernel⟩
theorem bd50 : Bd d50 := fun F => F.bindsN fun _ _ _ _ _ _ us hl => match us, hl with | [_, _], _ => by kernel_rfl
theorem sc51 : Sc d51 := ⟨by kernel_rfl, by kernel_rfl, by kernel_rfl, by decide +kernel, by kernel_rfl, by decide +kernel, by decide +kernel⟩
theorem bd51 : Bd d51 := fun F => F.bindsN fun _ _ _ _ _ _ us hl => match us, hl with | [_, _], _ => by kernel_rfl
theorem sc52 : Sc d52 := ⟨by kernel_rfl, by kernel_rfl, by kernel_rfl, by decide +kernel, by kernel_rfl, by decide +kernel, by decide +kernel⟩
theorem bd52 : Bd d52 := fun F => F.bindsN fun _ _ _ _ _ _ us hl => match us, hl with | [_, _, _], _ => by kernel_rfl
theorem sc53 : Sc d53 := ⟨by kernel_rfl, by kernel_rfl, by kernel_rfl, by decide +kernel, by kernel_rfl, by decide +kernel, by decide +kernel⟩
theorem bd53 : Bd d53 := fun F => F.bindsN fun _ _ _ _ _ _ us hl => match us, hl with | [_, _], _ => by kernel_rfl
theorem sc54 : Sc d54 := ⟨by kernel_rfl, by kernel_rfl, by kernel_rfl, by decide +kernel, by kernel_rfl, by decide +kernel, by decide +kernel⟩
theorem bd54 : Bd d54 := fun F => F.bindsN fun _ _ _ _ _ _ us hl => match us, hl with | [_], _ => by kernel_rfl
theorem sc55 : Sc d55 := ⟨by kernel_rfl, by kernel_rfl, by kernel_rfl, by decide +kernel, by kernel_rfl, by decide +kernel, by decide +kernel⟩
theorem bd55 : Bd d55 := fun F => F.bindsN fun _ _ _ _ _ _ us hl => match us, hl with | [_], _ => by kernel_rfl
theorem sc56 : Sc d56 := ⟨by kernel_rfl, by kernel_rfl, by kernel_rfl, by decide +kernel, by kernel_rfl, by decide +kernel, by decide +kernel⟩
theorem bd56 : Bd d56 := fun F => F.bindsN fun _ _ _ _ _ _ us hl => match us, hl with | [_], _ => by kernel_rfl
theorem sc57 : Sc d57 := ⟨by kernel_rfl, by kernel_rfl, by kernel_rfl, by decide +kernel, by kernel_rfl, by decide +kernel, by decide +kernel⟩
theorem bd57 : Bd d57 := fun F => F.bindsN fun _ _ _ _ _ _ us hl => match us, hl with | [_, _, _], _ => by kernel_rfl
theorem sc58 : Sc d58 := ⟨by kernel_rfl, by kernel_rfl, by kernel_rfl, by decide +kernel, by kernel_rfl, by decide +kernel, by decide +kernel⟩
theorem bd58 : Bd d58 := fun F => F.bindsN fun _ _ _ _ _ _ us hl => match us, hl with | [_, _], _ => by kernel_rfl
theorem sc59 : Sc d59 := ⟨by kernel_rfl, by kernel_rfl, by kernel_rfl, by decide +kernel, by kernel_rfl, by decide +kernel, by decide +kernel⟩
theorem bd59 : Bd d59 := fun F => F.bindsN fun _ _ _ _ _ _ us hl => match us, hl with | [_, _], _ => by kernel_rfl
theorem sc60 : Sc d60 := ⟨by kernel_rfl, by kernel_rfl, by kernel_rfl, by decide +kernel, by kernel_rfl, by decide +kernel, by decide +kernel⟩
theorem bd60 : Bd d60 := fun F => F.bindsN fun _ _ _ _ _ _ us hl => match us, hl with | [_, _], _ => by kernel_rfl
theorem sc61 : Sc d61 := ⟨by kernel_rfl, by kernel_rfl, by kernel_rfl, by decide +kernel, by kernel_rfl, by decide +kernel, by decide +kernel⟩
theorem bd61 : Bd d61 := fun F => F.bindsN fun _ _ _ _ _ _ us hl => match us, hl with | [_, _, _], _ => by kernel_rfl
theorem sc62 : Sc d62 := ⟨by kernel_rfl, by kernel_rfl, by kernel_rfl, by decide +kernel, by kernel_rfl, by decide +kernel, by decide +kernel⟩
theorem bd62 : Bd d62 := fun F => F.bindsN fun _ _ _ _ _ _ us hl => match us, hl with | [_, _, _, _, _], _ => by kernel_rfl
theorem sc63 : Sc d63 := ⟨by kernel_rfl, by kernel_rfl, by kernel_rfl, by decide +kernel, by kernel_rfl, by decide +kernel, by decide +kernel⟩
theorem bd63 : Bd d63 := fun F => F.bindsN fun _ _ _ _ _ _ us hl => match us, hl with | [_], _ => by kernel_rfl
theorem scs0 : ∀ d ∈ ds0, Sc d := fc (p := Sc) sc0 (fc (p := Sc) sc1 (fc (p := Sc) sc2 (fc (p := Sc) sc3 (fc (p := Sc) sc4 (fc (p := Sc) sc5 (fc (p := Sc) sc6 (fc (p := Sc) sc7 (fc (p := Sc) sc8 (fc (p := Sc) sc9 (fc (p := Sc) sc10 (fc (p := Sc) sc11 (fc (p := Sc) sc12 (fc (p := Sc) sc13 (fc (p := Sc) sc14 (fc (p := Sc) sc15 (fc (p := Sc) sc16 (fc (p := Sc) sc17 (fc (p := Sc) sc18 (fc (p := Sc) sc19 (fc (p := Sc) sc20 (fc (p := Sc) sc21 (fc (p := Sc) sc22 (fc (p := Sc) sc23 (fc (p := Sc) sc24 (fn)))))))))))))))))))))))))
theorem bds0 : ∀ d ∈ ds0, Bd d := fc (p := Bd) bd0 (fc (p := Bd) bd1 (fc (p := Bd) bd2 (fc (p := Bd) bd3 (fc (p := Bd) bd4 (fc (p := Bd) bd5 (fc (p := Bd) bd6 (fc (p := Bd) bd7 (fc (p := Bd) bd8 (fc (p := Bd) bd9 (fc (p := Bd) bd10 (fc (p := Bd) bd11 (fc (p := Bd) bd12 (fc (p := Bd) bd13 (fc (p := Bd) bd14 (fc (p := Bd) bd15 (fc (p := Bd) bd16 (fc (p := Bd) bd17 (fc (p := Bd) bd18 (fc (p := Bd) bd19 (fc (p := Bd) bd20 (fc (p := Bd) bd21 (fc (p := Bd) bd22 (fc (p := Bd) bd23 (fc (p := Bd) bd24 (fn)))))))))))))))))))))))))
theorem scs1 : ∀ d ∈ ds1, Sc d := fc (p := Sc) sc25 (fc (p := Sc) sc26 (fc (p := Sc) sc27 (fc (p := Sc) sc28 (fc (p := Sc) sc29 (fc (p := Sc) sc30 (fc (p := Sc) sc31 (fc (p := Sc) sc32 (fc (p := Sc) sc33 (fc (p := Sc) sc34 (fc (p := Sc) sc35 (fc (p := Sc) sc36 (fc (p := Sc) sc37 (fc (p := Sc) sc38 (fc (p := Sc) sc39 (fc (p := Sc) sc40 (fc (p := Sc) sc41 (fc (p := Sc) sc42 (fc (p := Sc) sc43 (fc (p := Sc) sc44 (fc (p := Sc) sc45 (fc (p := Sc) sc46 (fc (p := Sc) sc47 (fc (p := Sc) sc48 (fc (p := Sc) sc49 (fn)))))))))))))))))))))))))
theorem bds1 : ∀ d ∈ ds1, Bd d := fc (p := Bd) bd25 (fc (p := Bd) bd26 (fc (p := Bd) bd27 (fc (p := Bd) bd28 (fc (p := Bd) bd29 (fc (p := Bd) bd30 (fc (p := Bd) bd31 (fc (p := Bd) bd32 (fc (p := Bd) bd33 (fc (p := Bd) bd34 (fc (p := Bd) bd35 (fc (p := Bd) bd36 (fc (p := Bd) bd37 (fc (p := Bd) bd38 (fc (p := Bd) bd39 (fc (p := Bd) bd40 (fc (p := Bd) bd41 (fc (p := Bd) bd42 (fc (p := Bd) bd43 (fc (p := Bd) bd44 (fc (p := Bd) bd45 (fc (p := Bd) bd46 (fc (p := Bd) bd47 (fc (p := Bd) bd48 (fc (p := Bd) bd49 (fn)))))))))))))))))))))))))
theorem scs2 : ∀ d ∈ ds2, Sc d := fc (p := Sc) sc50 (fc (p := Sc) sc51 (fc (p := Sc) sc52 (fc (p := Sc) sc53 (fc (p := Sc) sc54 (fc (p := Sc) sc55 (fc (p := Sc) sc56 (fc (p := Sc) sc57 (fc (p := Sc) sc58 (fc (p := Sc) sc59 (fc (p := Sc) sc60 (fc (p := Sc) sc61 (fc (p := Sc) sc62 (fc (p := Sc) sc63 (fn))))))))))))))
theorem bds2 : ∀ d ∈ ds2, Bd d := fc (p := Bd) bd50 (fc (p := Bd) bd51 (fc (p := Bd) bd52 (fc (p := Bd) bd53 (fc (p := Bd) bd54 (fc (p := Bd) bd55 (fc (p := Bd) bd56 (fc (p := Bd) bd57 (fc (p := Bd) bd58 (fc (p := Bd) bd59 (fc (p := Bd) bd60 (fc (p := Bd) bd61 (fc (p := Bd) bd62 (fc (p := Bd) bd63 (fn))))))))))))))
theorem scA : ∀ d ∈ ds, Sc d := by
  intro d hd
  simp only [ds, List.mem_append] at hd
  rcases hd with (hd | hd) | hd
  · exact scs0 d hd
  · exact scs1 d hd
  · exact scs2 d hd
theorem bdA : ∀ d ∈ ds, Bd d := by
  intro d hd
  simp only [ds, List.mem_append] at hd
  rcases hd with (hd | hd) | hd
  · exact bds0 d hd
  · exact bds1 d hd
  · exact bds2 d hd
def tell : Tell := ⟨ds, bl, cn, Pm0⟩
abbrev rowR : PySem.W.OpenRow := PySem.W.OpenLaw.row PySem.Challenge.rw_twinproof_k59_whole_sets_at_places
abbrev hk : PySem.W.Hook := hookT 4 tell
def ob (s : PySem.W.SharedT) : He.AlD := obsTG 4 tell (HandSHeadRun.getT s)
theorem ob_eq (s : PySem.W.SharedT) : ob s = hk.obs s.abs := obsTG_eq (HandSHeadRun.getT_eq s)
def loose0 : List Str := ["TwinError", "InvalidNumber", "InvalidProgram", "InvalidHypotheses", "is_whole", "is_tuple_of", "TESTS", "ATOMS", "ALL", "ACTIONS", "has", "members", "need_whole", "need_set", "MOST", "fits_hypothesis", "fits_hypotheses", "does_forbid", "leads", "image", "need_hypotheses", "PLAIN_NODES", "PLAIN_HEIGHT", "PLAIN_ACTIONS", "NAMES", "fits_name", "is_plain_step", "blocks_of", "left_of", "steps_in"]
def loose1 : List Str := ["calls_in", "actions_in", "actions_in_programs", "fits_plain", "need_plain", "is_within", "need_both", "need_all", "END", "BACK", "ENDS", "STOPS", "laid", "rows_of", "next_point", "gone", "points_of", "go_from", "goes_in", "goings_in", "actions_in_places", "pushed", "least_sets", "are_closed", "fits_sets", "place_sets", "takes_places", "_law_cup", "_law_roll", "_law_some"]
def loose2 : List Str := ["_law_has", "_law_blocks", "_law_steps", "_law_leads", "_law_set", "_law_step", "_law_block", "_law_hypotheses", "_law_drawn", "_law_labelled", "_law_rests", "_law_going", "_law_walks", "_law_members", "_law_set_of", "_law_ends", "_law_table", "_law_within", "_law_union", "_law_image", "_law_closed"]
def loose : List Str := loose0 ++ loose1 ++ loose2
theorem headRun (w : World) : HandSHeadRun.RunEq rowR (PySem.W.view rowR.prog [91]) hk ob 3000 loose w := by
  intro os
  kernel_rfl
theorem facts (N : Nat) (hrun : ∀ ns : List Int, ns.length ≤ 63 → ∃ lf s, TW.run Pm0 Γ lf N 63 [.scr ns] [] = .ok (.val (.bl true)) s) {P : Program} {w : World} {K : PySem.W.Frag} {h : Heap} {mg : Str → Option Value} {f : Addr} (X : K.In h) (G : h.Ns mainGlobals mg) (hfa : mg ("law" : Str) = some (.ref f)) (c : Says tell K) :
    ∃ fd : FuncData, (∀ (s : Shared) (v : Value), BindsTo s fd ⟨[v], []⟩ [("script", v)]) ∧ ∀ base : Heap, K.In base → base.Ns mainGlobals mg → FnOk P w K mg base CX0 N f fd ["script"] (TW.spLaw K) := by
  have kn : ∀ {XX : XR}, Known K mg Pm0 XX C0 ds := fun {XX} => Says.known (t := tell) (C := C0) (XX := XX) X G c rfl rfl rfl rfl scA fun d hd {f fd} F => bdA d hd F
  have hL : ds[63]? = some d63 := rfl
  obtain ⟨f1, fd, h1, h2, h3⟩ := law_ok (Pg := P) (w := w) (base := h) (kn (XX := fun _ _ _ _ _ _ => False)) (L := 63) (n := N) (x := "script") hL rfl hrun
  have h1 : mg ("law" : Str) = some (.ref f1) := h1
  rw [hfa] at h1
  cases h1
  have b := FunD.bindsA (ps := ["script"]) h2 fun _ _ _ _ _ _ us hl => match us, hl with | [_], _ => by kernel_rfl
  refine ⟨fd, fun s v => b s [v] rfl, fun base _ _ => ?_⟩
  obtain ⟨f2, fd2, g1, g2, g3⟩ := law_ok (Pg := P) (w := w) (base := base) (kn (XX := fun _ _ _ _ _ _ => False)) (L := 63) (n := N) (x := "script") hL rfl hrun
  have g1 : mg ("law" : Str) = some (.ref f2) := g1
  rw [hfa] at g1
  cases g1
  have efd : fd2 = fd := by
    obtain ⟨oc, od, dV, kV, doc, pm, an, cdv, ct, osl, rfl, lk, _⟩ := h2.ex
    obtain ⟨oc', od', dV', kV', doc', pm', an', cdv', ct', osl', rfl, lk', _⟩ := g2.ex
    rw [lk] at lk'
    cases lk'
    rfl
  rw [← efd]
  exact g3
open PySem PySem.W PySem.Calls PyProof.Rows in
theorem holds_of (N : Nat) (hN : L2.Room N callerA) (hrun : ∀ ns : List Int, ns.length ≤ 63 → ∃ lf s, TW.run Pm0 Γ lf N 63 [.scr ns] [] = .ok (.val (.bl true)) s) : PySem.Challenge.rw_twinproof_k59_whole_sets_at_places.Holds := by
  w_on; o_law
  refine HandSHeadRun.head_any (r := OpenLaw.row PySem.Challenge.rw_twinproof_k59_whole_sets_at_places) (q := view (OpenLaw.row PySem.Challenge.rw_twinproof_k59_whole_sets_at_places).prog [91]) (H := hk) (ob := ob) (M := 3000) (loose := loose) (d := HandSHeadRun.topDef (OpenLaw.row PySem.Challenge.rw_twinproof_k59_whole_sets_at_places).prog 91) (kwd := []) ob_eq
    (by kernel_rfl) (fun s => by kernel_rfl) headRun (by kernel_rfl) (by kernel_rfl) (by kernel_rfl) (by rfl) (by first | assumption | decide +kernel) (by decide +kernel) ⟨rfl, rfl, rfl, rfl, rfl, by decide +kernel⟩ ?hw ?hc
  case hw => w_witness2
  case hc =>
    refine L2.walk_ofE (l := PySem.Challenge.rw_twinproof_k59_whole_sets_at_places) (n := 63) (k := N) (x := "script") (CX := L2.CX0) rfl (by decide) (by kernel_rfl) hN ?F (fun _ _ _ _ z => z)
    intro w mg fa h Y G hmg0
    obtain ⟨K, KX, c⟩ := Y
    have hmg : mg ("law" : PySem.Str) = some (.ref fa) := by
      have e : (HandSHeadRun.topDef (OpenLaw.row PySem.Challenge.rw_twinproof_k59_whole_sets_at_places).prog 91).name = ("law" : PySem.Str) := by kernel_rfl
      rw [← e]
      exact hmg0
    obtain ⟨fd, hb, hF⟩ := facts N hrun (P := (PySem.Challenge.rw_twinproof_k59_whole_sets_at_places).prog) (w := w) KX G hmg c
    exact ⟨K, fd, TW.spLaw K, KX, hb, fun H a ns hl _ hS => ⟨a, ns, rfl, hl, hS, fun _ => rfl⟩, hF⟩
end Ck59

set_option Elab.async false
set_option linter.all false
set_option maxRecDepth 100000
set_option maxHeartbeats 4000000
/-! the law of k59 -/
namespace Ck59
open PySem L2 TW Tw
def bd (i : Nat) : TW.S := k_law.body.getD i .pass
theorem split : k_law = ⟨1, 22, [bd 0, bd 1, bd 2, bd 3, bd 4, bd 5, bd 6, bd 7, bd 8]⟩ := by kernel_rfl
def turn : List TW.S := match bd 3 with
  | .for_ _ _ _ b => b
  | _ => []
def lb (i : Nat) : TW.S := turn.getD i .pass
theorem stm3 : bd 3 = .for_ [1, 5, 4] (.nm 6) (.seq (.tup [.call ix.f_law_set [.mkr (.var 1)], .call ix.f_law_union [.var 5, .var 4]])) turn := by kernel_rfl
theorem tsplit : turn = [lb 0, lb 1, lb 2, lb 3, lb 4, lb 5, lb 6, lb 7, lb 8, lb 9, lb 10, lb 11] := by kernel_rfl
section
variable {lf n : Nat} {s : Sto} {ns : List Int}
theorem hP (a b : Int) : Pm0.kOk [.inl a, .inl b] = true := pairs_ok (ky := ky) (by decide +kernel) a b
def fr (ns : List Int) (ps : List Pg) (hs : List Hy) (a : Nat) (j6 j7 j8 j9 j11 j12 j13 j14 j15 j16 j17 : Slot) : TW.Env := [.val (.scr ns), .val (.ref 0), .val (tupP ps), .val (hT hs), .val (nT a), .val (tbT (tabB hs ps same)), j6, j7, j8, j9, .no, j11, j12, j13, j14, j15, j16, j17, .no, .no, .no, .no]
/-- what sets may be told -/
structure Okv (ps : List Pg) (S : List Nat) : Prop where
  len : S.length = (actsOf ps).length + 1
  lt : ∀ i, S.getD i 0 < 256
variable {ps : List Pg} {hs : List Hy} {a b : Nat} {j6 j7 j8 j9 j11 j12 j13 j14 j15 j16 j17 : Slot}
/-- the sets that are told -/
theorem t0 (hlf : 1100000 < lf) (hp : PlainOk ps) (hl : hs.length ≤ 5) (ho : ∀ h ∈ hs, h.okB = true) (ha : a < 256) (hb : b < 256) (s : Sto) :
    ∃ S v e, Okv ps S ∧ (v = T.non ∨ v = tbT S) ∧ ∃ d, evSs Pm0 (TW.run Pm0 Γ lf (n + 62)) lf [lb 0, lb 1, lb 2] (fr ns ps hs a (.val (nT b)) j7 j8 j9 j11 j12 j13 j14 j15 j16 j17) s = .nx (fr ns ps hs a (.val (nT b)) (.val v) (.val (.bl d)) j9 j11 j12 j13 j14 j15 j16 j17) (s ++ e) := by
  obtain ⟨gw, G, _⟩ := walks_ev (P := Pm0) (lf := lf) (n := 0) lW hlf hp.hgt hp.size hp.ok
  obtain ⟨S, q1, q2, q3, q4, e1⟩ := place_ev (P := Pm0) (lf := lf) (n := n + 1) lA lC lD lR lG lS hlf hp hl ho ha hb G s
  have ht := tabB_tab hs ps same tab_same
  have u1 : ∀ s, TW.run Pm0 Γ lf (n + 62) ix.f_law_union [tbT (tabB hs ps same), nT a] s = .ok (.val (nT (unite (tabB hs ps same) a))) s := fun s => lunion_ev (n := n + 59) lW lU lV ht a
  have w1 : ∀ s, TW.run Pm0 Γ lf (n + 62) ix.f_law_within [nT (unite (tabB hs ps same) a), nT b] s = .ok (.val (.bl (wthn (unite (tabB hs ps same) a) b))) s := fun s => lwithin_ev (n := n + 59) lW lU lV _ _
  obtain ⟨e, e2⟩ := lclosed_ev (P := Pm0) (lf := lf) (n := n + 31) lW lU lV lT hlf hp.hgt hp.size hp.ok ho a b G q1 s
  rw [q3, q4, Bool.true_and] at e2
  have e2 : TW.run Pm0 Γ lf (n + 62) ix.f_law_closed [tupP ps, hT hs, nT a, nT b, tbT S] s = _ := e2
  have e1 : TW.run Pm0 Γ lf (n + 62) ix.f_place_sets [tupP ps, hT hs, nT a, nT b] s = _ := e1
  have b0 : lb 0 = .asg [2, 3, 4, 6] 7 (.call ix.f_place_sets [.var 2, .var 3, .var 4, .var 6]) := rfl
  have b1 : lb 1 = .asg [5, 4, 6] 8 (.call ix.f_law_within [.call ix.f_law_union [.var 5, .var 4], .var 6]) := rfl
  have b2 : lb 2 = .ifs [8, 2, 3, 4, 6, 7] (.or (.cmp .ne (.cmp .notN (.pk 7) (.con (.non))) (.pk 8)) (.and (.var 8) (.not (.call ix.f_law_closed [.var 2, .var 3, .var 4, .var 6, .var 7])))) [.ret [] (.con (.bl false))] [] := rfl
  unfold fr
  generalize tbT (tabB hs ps same) = tb at *
  generalize unite (tabB hs ps same) a = u at *
  cases hd : wthn u b with
  | false =>
    rw [hd, if_neg Bool.false_ne_true] at e1
    have w1 := fun s => w1 s
    rw [hd] at w1
    refine ⟨S, .non, [], ⟨q1, q2⟩, .inl rfl, false, ?_⟩
    rw [b0, b1, b2]
    have k0 : opCmp Pm0 s .notN .non .non = some false := rfl
    simp (implicitDefEqProofs := false) [e1, u1, w1, opd, k0]
  | true =>
    rw [hd, if_pos rfl] at e1
    rw [hd] at w1 e2
    refine ⟨S, tbT S, e, ⟨q1, q2⟩, .inr rfl, true, ?_⟩
    rw [b0, b1, b2]
    have k0 : opCmp Pm0 s .notN (tbT S) .non = some true := rfl
    simp (implicitDefEqProofs := false) [e1, u1, w1, opd, k0, e2]
/-- how many actions; the sets that are kept -/
theorem t3 (hp : PlainOk ps) (ha : a < 256) {S : List Nat} (hS : Okv ps S) {v : T} (hv : v = T.non ∨ v = tbT S) (s : Sto) :
    ∃ S', Okv ps S' ∧ evSs Pm0 (TW.run Pm0 Γ lf (n + 62)) lf [lb 3, lb 4] (fr ns ps hs a j6 (.val v) j8 j9 j11 j12 j13 j14 j15 j16 j17) s = .nx (fr ns ps hs a j6 (.val v) j8 (.val (nT (actsOf ps).length)) (.val (tbT S')) j12 j13 j14 j15 j16 j17) s := by
  have st : TW.run Pm0 Γ lf (n + 62) ix.f_law_steps [tupP ps] s = .ok (.own (.lst ((flats ps).map Pg.t))) s := lsteps_ev lM 25 (n + 35) ps hp.hgt (by have := hp.size; omega) hp.ok s
  have fl := flats_len ps
  have zl := hp.size
  have al := acts_le ps
  have am : (actsOf ps).length = ((flats ps).filter Pg.isAct).length := by rw [actsOf_flat, List.length_map]
  have b3 : lb 3 = .asg [10, 2] 9 (.blt .len (.lc [10] (.var 10) (.nm 10) (.seq (.call ix.f_law_steps [.var 2])) (some (.cmp .eq (.ix (.pk 10) (.con (.int 0))) (.con (.str "do")))))) := rfl
  have b4 : lb 4 = .asg [7, 4] 11 (.ifx (.cmp .notN (.pk 7) (.con (.non))) (.var 7) (.bin .add (.tup [.var 4]) (.bin .mul (.tup [.con (.int 255)]) (.pk 9)))) := rfl
  have x3 : evS Pm0 (TW.run Pm0 Γ lf (n + 62)) lf (lb 3) (fr ns ps hs a j6 (.val v) j8 j9 j11 j12 j13 j14 j15 j16 j17) s = .nx (fr ns ps hs a j6 (.val v) j8 (.val (nT (actsOf ps).length)) j11 j12 j13 j14 j15 j16 j17) s := by
    rw [b3, am]
    unfold fr
    generalize tbT (tabB hs ps same) = tb at *
    simp (implicitDefEqProofs := false) [st, opd]
    rw [lcGo_filter (p := Pg.isAct) (h := Pg.t) (fun p _ => by cases p <;> simp (implicitDefEqProofs := false) [Pg.t, eqO_kw, Pg.isAct, opd]) (by simp; omega)]
    simp (implicitDefEqProofs := false) [nT]
  rcases hv with rfl | rfl
  · refine ⟨a :: List.replicate (actsOf ps).length 255, ⟨by simp, fun i => ?_⟩, ?_⟩
    · cases i with
      | zero => exact ha
      | succ i =>
        rw [List.getD_eq_getElem?_getD, List.getElem?_cons_succ, List.getElem?_replicate]
        split <;> decide
    · rw [xss_cons, x3, seq_nx, b4]
      have ml : opBin s .mul (.tup [.int 255]) (nT (actsOf ps).length) = some (.val (tbT (List.replicate (actsOf ps).length 255))) := mul_rep s 255 (by omega)
      have ad : opBin s .add (.tup [nT a]) (tbT (List.replicate (actsOf ps).length 255)) = some (.val (tbT (a :: List.replicate (actsOf ps).length 255))) := by
        unfold tbT
        rw [opBin_addT]
        simp [fits]
        omega
      have k0 : opCmp Pm0 s .notN .non .non = some false := rfl
      unfold fr
      generalize tbT (a :: List.replicate (actsOf ps).length 255) = R at *
      generalize tbT (List.replicate (actsOf ps).length 255) = R2 at *
      simp (implicitDefEqProofs := false) [opd, k0, fits, ml, ad]
  · refine ⟨S, hS, ?_⟩
    rw [xss_cons, x3, seq_nx, b4]
    have k0 : opCmp Pm0 s .notN (tbT S) .non = some true := rfl
    unfold fr
    simp (implicitDefEqProofs := false) [opd, k0]
/-- where, and which other set -/
theorem t5 (hp : PlainOk ps) (c : Cup) : ∃ at_ o c', at_ ≤ (actsOf ps).length ∧ o < 256 ∧ ∀ (j6 j7 j8 j11 j12 j13 j14 j15 j16 j17 : Slot) (r : Sto), evS Pm0 (TW.run Pm0 Γ lf (n + 62)) lf (lb 5) (fr ns ps hs a j6 j7 j8 (.val (nT (actsOf ps).length)) j11 j12 j13 j14 j15 j16 j17) (cupO c :: r) = .nx (fr ns ps hs a j6 j7 j8 (.val (nT (actsOf ps).length)) j11 (.val (nT at_)) (.val (nT o)) j14 j15 j16 j17) (cupO c' :: r) := by
  have zl := hp.size
  have al := acts_le ps
  have rl := roll_lt c (m := ((actsOf ps).length : Int) + 1) (by omega)
  have e1 := fun r => roll_ev (P := Pm0) (lf := lf) (n := n + 61) (r := r) lL.roll c (((actsOf ps).length : Int) + 1) (by omega) (by omega)
  have sl := set_lt (rollI c (((actsOf ps).length : Int) + 1)).2
  have e2 := fun r => set_ev (P := Pm0) (lf := lf) (n := n + 59) (r := r) lL (rollI c (((actsOf ps).length : Int) + 1)).2
  refine ⟨(rollI c (((actsOf ps).length : Int) + 1)).1.toNat, (setF (rollI c (((actsOf ps).length : Int) + 1)).2).1.toNat, (setF (rollI c (((actsOf ps).length : Int) + 1)).2).2, by omega, by omega, fun j6 j7 j8 j11 j12 j13 j14 j15 j16 j17 r => ?_⟩
  have e1 := e1 r
  have e2 := e2 r
  rw [← nT_toNat rl.1] at e1
  rw [← nT_toNat sl.1] at e2
  generalize (setF (rollI c (((actsOf ps).length : Int) + 1)).2).1.toNat = o at *
  generalize (setF (rollI c (((actsOf ps).length : Int) + 1)).2).2 = c2 at *
  generalize (rollI c (((actsOf ps).length : Int) + 1)).1.toNat = q at *
  generalize (rollI c (((actsOf ps).length : Int) + 1)).2 = c1 at *
  have b5 : lb 5 = .par [1, 1] [12, 13] [.call ix.f_law_roll [.mkr (.var 1), .bin .add (.pk 9) (.con (.int 1))], .call ix.f_law_set [.mkr (.var 1)]] := rfl
  rw [b5]
  unfold fr
  have ad : ∀ st, opBin st .add (nT (actsOf ps).length) (.int 1) = some (.val (.int (((actsOf ps).length : Int) + 1))) := fun st => rfl
  generalize nT (actsOf ps).length = mm at *
  generalize (((actsOf ps).length : Int) + 1) = k at *
  generalize tbT (tabB hs ps same) = tb at *
  simp (implicitDefEqProofs := false) [opd, ad, e1, e2]
/-! ### the odd sets -/
def oddL (S : List Nat) (m q o : Nat) : List (List Nat) := [S, S.set q o, S.set q 255, S.reverse, List.replicate (m + 1) 255, List.replicate (m + 1) 0]
theorem set_lt256 {S : List Nat} (h : ∀ i, S.getD i 0 < 256) (q : Nat) {o : Nat} (ho : o < 256) (i : Nat) : (S.set q o).getD i 0 < 256 := by
  rw [List.getD_eq_getElem?_getD, List.getElem?_set]
  have := h i
  rw [List.getD_eq_getElem?_getD] at this
  split
  · split
    · exact ho
    · decide
  · exact this
theorem rep_lt256 (k : Nat) {o : Nat} (ho : o < 256) (i : Nat) : (List.replicate k o).getD i 0 < 256 := by
  rw [List.getD_eq_getElem?_getD, List.getElem?_replicate]
  split
  · exact ho
  · decide
theorem rev_lt256 {S : List Nat} (h : ∀ i, S.getD i 0 < 256) (i : Nat) : S.reverse.getD i 0 < 256 := by
  rw [List.getD_eq_getElem?_getD]
  cases hg : S.reverse[i]? with
  | none => decide
  | some z =>
    have hm := List.mem_reverse.mp (List.mem_of_getElem? hg)
    obtain ⟨k, hk, rfl⟩ := List.mem_iff_getElem.mp hm
    have := h k
    rw [List.getD_eq_getElem?_getD, List.getElem?_eq_getElem hk] at this
    exact this
theorem odd_ok {S : List Nat} (hS : Okv ps S) (q : Nat) {o : Nat} (ho : o < 256) : ∀ z ∈ oddL S (actsOf ps).length q o, Okv ps z := by
  intro z hz
  simp [oddL] at hz
  rcases hz with rfl | rfl | rfl | rfl | rfl | rfl
  · exact hS
  · exact ⟨by rw [List.length_set]; exact hS.len, set_lt256 hS.lt q ho⟩
  · exact ⟨by rw [List.length_set]; exact hS.len, set_lt256 hS.lt q (by decide)⟩
  · exact ⟨by rw [List.length_reverse]; exact hS.len, rev_lt256 hS.lt⟩
  · exact ⟨by simp, rep_lt256 _ (by decide)⟩
  · exact ⟨by simp, rep_lt256 _ (by decide)⟩
theorem t6 (hp : PlainOk ps) {S : List Nat} (hS : Okv ps S) {q : Nat} (hq : q ≤ (actsOf ps).length) (o : Nat) (s : Sto) : evSs Pm0 (TW.run Pm0 Γ lf (n + 62)) lf [lb 6, lb 7] (fr ns ps hs a j6 j7 j8 (.val (nT (actsOf ps).length)) (.val (tbT S)) (.val (nT q)) (.val (nT o)) j14 j15 j16 j17) s =
    .nx (fr ns ps hs a j6 j7 j8 (.val (nT (actsOf ps).length)) (.val (tbT S)) (.val (nT q)) (.val (nT o)) (.own (.lst ((oddL S (actsOf ps).length q o).map tbT))) j15 j16 j17) s := by
  have zl := hp.size
  have al := acts_le ps
  have sl := hS.len
  have b6 : lb 6 = .asg [11, 12, 13, 12] 14 (.lst [.var 11, .bin .add (.bin .add (.sl (.pk 11) none (some (.var 12))) (.tup [.var 13])) (.sl (.pk 11) (some (.bin .add (.pk 12) (.con (.int 1)))) none), .bin .add (.bin .add (.sl (.pk 11) none (some (.var 12))) (.tup [.con (.int 255)])) (.sl (.pk 11) (some (.bin .add (.pk 12) (.con (.int 1)))) none), .rev (.pk 11)]) := rfl
  have b7 : lb 7 = .asg [] 14 (.bin .add (.pk 14) (.lst [.bin .mul (.tup [.con (.int 255)]) (.bin .add (.pk 9) (.con (.int 1))), .bin .mul (.tup [.con (.int 0)]) (.bin .add (.pk 9) (.con (.int 1)))])) := rfl
  have c1 : ∀ st, slT st (tbT S) none (some (q : Int)) = some (.val (tbT (S.take q))) := fun st => by
    unfold tbT
    rw [TW.sl_tup, cut_to, List.map_take]
  have c2 : ∀ st, slT st (tbT S) (some ((q : Int) + 1)) none = some (.val (tbT (S.drop (q + 1)))) := fun st => by
    unfold tbT
    rw [TW.sl_tup, show ((q : Int) + 1) = ((q + 1 : Nat) : Int) by omega, cut_from _ _ (by simp; omega), List.map_drop]
  have ql : (S.take q).length ≤ 1000 := by rw [List.length_take]; omega
  have dl : (S.drop (q + 1)).length ≤ 1000 := by rw [List.length_drop]; omega
  have ad1 : ∀ st v, opBin st .add (tbT (S.take q)) (.tup [nT v]) = some (.val (tbT (S.take q ++ [v]))) := fun st v => by
    unfold tbT
    rw [opBin_addT]
    simp [fits]
    omega
  have ad2 : ∀ st v, opBin st .add (tbT (S.take q ++ [v])) (tbT (S.drop (q + 1))) = some (.val (tbT (S.set q v))) := fun st v => by
    have e := set_cut (S.map nT) q (nT v) (by rw [List.length_map]; omega)
    rw [map_set_n] at e
    unfold tbT
    rw [opBin_addT, if_pos (by simp [fits]; omega), ← e]
    simp
  have rv : ∀ st, revT st (tbT S) = some (.val (tbT S.reverse)) := fun st => by
    unfold tbT
    rw [rev_tup, List.map_reverse]
  have x6 : evS Pm0 (TW.run Pm0 Γ lf (n + 62)) lf (lb 6) (fr ns ps hs a j6 j7 j8 (.val (nT (actsOf ps).length)) (.val (tbT S)) (.val (nT q)) (.val (nT o)) j14 j15 j16 j17) s = .nx (fr ns ps hs a j6 j7 j8 (.val (nT (actsOf ps).length)) (.val (tbT S)) (.val (nT q)) (.val (nT o)) (.own (.lst [tbT S, tbT (S.set q o), tbT (S.set q 255), tbT S.reverse])) j15 j16 j17) s := by
    rw [b6]
    unfold fr
    have ad1a := fun st => ad1 st o
    have ad1b : ∀ st, opBin st .add (tbT (S.take q)) (.tup [.int 255]) = some (.val (tbT (S.take q ++ [255]))) := fun st => ad1 st 255
    have ad2a := fun st => ad2 st o
    have ad2b := fun st => ad2 st 255
    have pq : ∀ st, opBin st .add (nT q) (.int 1) = some (.val (.int ((q : Int) + 1))) := fun st => rfl
    have nq : int? (nT q) = some (q : Int) := rfl
    generalize tbT (S.set q o) = z1 at *
    generalize tbT (S.set q 255) = z2 at *
    generalize tbT S.reverse = z3 at *
    generalize tbT (S.take q ++ [o]) = z4 at *
    generalize tbT (S.take q ++ [255]) = z5 at *
    generalize tbT (S.take q) = z6 at *
    generalize tbT (S.drop (q + 1)) = z7 at *
    generalize tbT S = z8 at *
    generalize tbT (tabB hs ps same) = tb at *
    generalize nT o = oo at *
    generalize nT q = qq at *
    generalize nT (actsOf ps).length = mm at *
    simp (implicitDefEqProofs := false) [opd, fits, pq, nq, c1, c2, ad1a, ad1b, ad2a, ad2b, rv]
  rw [xss_cons, x6, seq_nx, b7]
  have pk : ∀ st, opBin st .add (nT (actsOf ps).length) (.int 1) = some (.val (.int (((actsOf ps).length + 1 : Nat) : Int))) := fun st => rfl
  have m1 : ∀ st, opBin st .mul (.tup [.int 255]) (.int (((actsOf ps).length + 1 : Nat) : Int)) = some (.val (tbT (List.replicate ((actsOf ps).length + 1) 255))) := fun st => mul_rep st 255 (by omega)
  have m2 : ∀ st, opBin st .mul (.tup [.int 0]) (.int (((actsOf ps).length + 1 : Nat) : Int)) = some (.val (tbT (List.replicate ((actsOf ps).length + 1) 0))) := fun st => mul_rep st 0 (by omega)
  show _ = Out.nx (fr ns ps hs a j6 j7 j8 (.val (nT (actsOf ps).length)) (.val (tbT S)) (.val (nT q)) (.val (nT o)) (.own (.lst [tbT S, tbT (S.set q o), tbT (S.set q 255), tbT S.reverse, tbT (List.replicate ((actsOf ps).length + 1) 255), tbT (List.replicate ((actsOf ps).length + 1) 0)])) j15 j16 j17) s
  unfold fr
  generalize tbT (List.replicate ((actsOf ps).length + 1) 255) = y1 at *
  generalize tbT (List.replicate ((actsOf ps).length + 1) 0) = y2 at *
  generalize (((actsOf ps).length + 1 : Nat) : Int) = k at *
  generalize tbT (S.set q o) = z1 at *
  generalize tbT (S.set q 255) = z2 at *
  generalize tbT S.reverse = z3 at *
  generalize tbT S = z8 at *
  generalize tbT (tabB hs ps same) = tb at *
  generalize nT (actsOf ps).length = mm at *
  simp (implicitDefEqProofs := false) [opd, fits, pk, m1, m2]
def oddB : List TW.S := match lb 8 with
  | .for_ _ _ _ b => b
  | _ => []
theorem stm8 : lb 8 = .for_ [] (.nm 15) (.rng1 (.con (.int 2))) oddB := by kernel_rfl
theorem t8b (hlf : 1100000 < lf) (hp : PlainOk ps) (hl : hs.length ≤ 5) (ho : ∀ h ∈ hs, h.okB = true) (ha : a < 256) (hb : b < 256) {gw : Nat → Nat → Go} (G : GoW ps gw) {L : List (List Nat)} (h0 : 0 < L.length) (h1 : L.length < 1000) (hL : ∀ z ∈ L, Okv ps z) (hj : j14 = .own (.lst (L.map tbT)) ∨ j14 = .val (.lst (L.map tbT))) (c : Cup) (e : Sto) :
    ∃ c' e' k16, evSs Pm0 (TW.run Pm0 Γ lf (n + 62)) lf oddB (fr ns ps hs a (.val (nT b)) j7 j8 j9 j11 j12 j13 j14 j15 j16 j17) (cupO c :: e) = .nx (fr ns ps hs a (.val (nT b)) j7 j8 j9 j11 j12 j13 (.val (.lst (L.map tbT))) j15 k16 j17) (cupO c' :: e') := by
  obtain ⟨t, q1, q2⟩ := some_ev (P := Pm0) (lf := lf) (n := n + 60) lL c (L.map tbT) (by simpa using h0) (by simpa using h1)
  have q2 : TW.run Pm0 Γ lf (n + 62) ix.f_law_some [.ref 0, .lst (L.map tbT)] (cupO c :: e) = .ok (.val t) (cupO (rollI c (L.map tbT).length).2 :: e) := q2 e
  obtain ⟨z, hz, rfl⟩ := List.mem_map.mp (List.mem_of_getElem? q1)
  generalize (rollI c (L.map tbT).length).2 = c2 at q2
  have k1 : TW.run Pm0 Γ lf (n + 62) ix.f_takes_places [tupP ps, hT hs, nT a, nT b, tbT z] (cupO c2 :: e) = _ := takes_good (P := Pm0) (lf := lf) (n := n + 1) lA lC lD lR lG lS hlf hp hl ho ha hb G (hL z hz).len (hL z hz).lt (cupO c2 :: e)
  obtain ⟨e1, k2⟩ := lclosed_ev (P := Pm0) (lf := lf) (n := n + 31) lW lU lV lT hlf hp.hgt hp.size hp.ok ho a b G (hL z hz).len (cupO c2 :: e)
  have k2 : TW.run Pm0 Γ lf (n + 62) ix.f_law_closed [tupP ps, hT hs, nT a, nT b, tbT z] (cupO c2 :: e) = _ := k2
  have eb : oddB = [.asg [1, 14] 16 (.call ix.f_law_some [.mkr (.var 1), .var 14]), .ifs [2, 3, 4, 6, 16, 2, 3, 4, 6, 16] (.cmp .ne (.call ix.f_takes_places [.var 2, .var 3, .var 4, .var 6, .var 16]) (.call ix.f_law_closed [.var 2, .var 3, .var 4, .var 6, .var 16])) [.ret [] (.con (.bl false))] []] := rfl
  refine ⟨c2, e ++ e1, .val (tbT z), ?_⟩
  rw [eb]
  unfold fr
  generalize (wthn a (z.getD 0 0) && closedB gw (actsOf ps) hs b z) = k at *
  generalize tbT (tabB hs ps same) = tb at *
  generalize L.map tbT = M at *
  rw [List.cons_append] at k2
  rcases hj with rfl | rfl
  · simp (implicitDefEqProofs := false) [opd, q2, k1, k2]
  · simp (implicitDefEqProofs := false) [opd, q2, k1, k2]
theorem t8 (hlf : 1100000 < lf) (hp : PlainOk ps) (hl : hs.length ≤ 5) (ho : ∀ h ∈ hs, h.okB = true) (ha : a < 256) (hb : b < 256) {L : List (List Nat)} (h0 : 0 < L.length) (h1 : L.length < 1000) (hL : ∀ z ∈ L, Okv ps z) (c : Cup) (e : Sto) :
    ∃ c' e' k14 k15 k16, evS Pm0 (TW.run Pm0 Γ lf (n + 62)) lf (lb 8) (fr ns ps hs a (.val (nT b)) j7 j8 j9 j11 j12 j13 (.own (.lst (L.map tbT))) j15 j16 j17) (cupO c :: e) = .nx (fr ns ps hs a (.val (nT b)) j7 j8 j9 j11 j12 j13 k14 k15 k16 j17) (cupO c' :: e') := by
  obtain ⟨gw, G, _⟩ := walks_ev (P := Pm0) (lf := lf) (n := 0) lW hlf hp.hgt hp.size hp.ok
  obtain ⟨c1, e1, k1, g1⟩ := t8b (lf := lf) (n := n) (ns := ns) (j7 := j7) (j8 := j8) (j9 := j9) (j11 := j11) (j12 := j12) (j13 := j13) (j14 := .own (.lst (L.map tbT))) (j15 := .val (nT 0)) (j16 := j16) (j17 := j17) hlf hp hl ho ha hb G h0 h1 hL (.inl rfl) c e
  obtain ⟨c2, e2, k2, g2⟩ := t8b (lf := lf) (n := n) (ns := ns) (j7 := j7) (j8 := j8) (j9 := j9) (j11 := j11) (j12 := j12) (j13 := j13) (j14 := .val (.lst (L.map tbT))) (j15 := .val (nT 1)) (j16 := k1) (j17 := j17) hlf hp hl ho ha hb G h0 h1 hL (.inr rfl) c1 e1
  refine ⟨c2, e2, .val (.lst (L.map tbT)), .val (nT 1), k2, ?_⟩
  rw [stm8, xs_for]
  have f : frzE (fr ns ps hs a (.val (nT b)) j7 j8 j9 j11 j12 j13 (.own (.lst (L.map tbT))) j15 j16 j17) [] = fr ns ps hs a (.val (nT b)) j7 j8 j9 j11 j12 j13 (.own (.lst (L.map tbT))) j15 j16 j17 := rfl
  rw [f]
  have i : evI Pm0 (TW.run Pm0 Γ lf (n + 62)) (fr ns ps hs a (.val (nT b)) j7 j8 j9 j11 j12 j13 (.own (.lst (L.map tbT))) j15 j16 j17) (.rng1 (.con (.int 2))) (cupO c :: e) = .ok [nT 0, nT 1] (cupO c :: e) := rfl
  rw [i, R_out_ok]
  have p : ∀ (k14 k15 k16 : Slot) (v : T), (Tg.nm 15).put (fr ns ps hs a (.val (nT b)) j7 j8 j9 j11 j12 j13 k14 k15 k16 j17) v = some (fr ns ps hs a (.val (nT b)) j7 j8 j9 j11 j12 j13 k14 (.val v) k16 j17) := fun _ _ _ _ => rfl
  rw [forGo]
  simp only [p, g1]
  rw [forGo]
  simp only [p, g2]
  rw [forGo]
/-! ### what are no sets -/
def wrongL (M : List T) (m : Nat) : List T := [.non, .lst M, .tup (M ++ [.int 0]), .tup M.dropLast, .tup (.bl true :: List.replicate m (nT 255)), .tup (.int 256 :: M.tail), .tup (M.dropLast ++ [.int (-1)]), .tup (M.dropLast ++ [.non]), .tup (M.dropLast ++ [.tup [.int 255]]), .tup (M.dropLast ++ [.str "a"]), .str "255"]
theorem t9 (hp : PlainOk ps) {S : List Nat} (hS : Okv ps S) (s : Sto) : evSs Pm0 (TW.run Pm0 Γ lf (n + 62)) lf [lb 9, lb 10] (fr ns ps hs a j6 j7 j8 (.val (nT (actsOf ps).length)) (.val (tbT S)) j12 j13 j14 j15 j16 j17) s =
    .nx (fr ns ps hs a j6 j7 j8 (.val (nT (actsOf ps).length)) (.val (tbT S)) j12 j13 j14 j15 j16 (.own (.lst (wrongL (S.map nT) (actsOf ps).length)))) s := by
  have zl := hp.size
  have al := acts_le ps
  have sl := hS.len
  have b9 : lb 9 = .asg [] 17 (.lst [.con (.non), .blt .listOf (.pk 11), .bin .add (.pk 11) (.tup [.con (.int 0)]), .sl (.pk 11) none (some (.neg (.con (.int 1)))), .bin .add (.tup [.con (.bl true)]) (.bin .mul (.tup [.con (.int 255)]) (.pk 9)), .bin .add (.tup [.con (.int 256)]) (.sl (.pk 11) (some (.con (.int 1))) none), .bin .add (.sl (.pk 11) none (some (.neg (.con (.int 1))))) (.tup [.neg (.con (.int 1))])]) := rfl
  have b10 : lb 10 = .asg [] 17 (.bin .add (.pk 17) (.lst [.bin .add (.sl (.pk 11) none (some (.neg (.con (.int 1))))) (.tup [.con (.non)]), .bin .add (.sl (.pk 11) none (some (.neg (.con (.int 1))))) (.tup [.tup [.con (.int 255)]]), .bin .add (.sl (.pk 11) none (some (.neg (.con (.int 1))))) (.tup [.con (.str "a")]), .con (.str "255")])) := rfl
  have Ml : (S.map nT).length ≤ 1000 := by rw [List.length_map]; omega
  have Mn : S.map nT ≠ [] := by
    intro h
    have := congrArg List.length h
    rw [List.length_map, List.length_nil] at this
    omega
  have c1 : cutT (S.map nT) none (some (-1)) = (S.map nT).dropLast := cut_butlast _ Mn
  have c2 : cutT (S.map nT) (some 1) none = (S.map nT).tail := by
    have := cut_from (S.map nT) 1 (by rw [List.length_map]; omega)
    rw [List.drop_one] at this
    exact this
  have m1 : ∀ st, opBin st .mul (.tup [.int 255]) (nT (actsOf ps).length) = some (.val (.tup (List.replicate (actsOf ps).length (nT 255)))) := fun st => by
    have := mul_rep st 255 (k := (actsOf ps).length) (by omega)
    unfold tbT at this
    rw [List.map_replicate] at this
    exact this
  unfold tbT wrongL fr
  have d1 : ((S.map nT).dropLast).length ≤ 1000 := by rw [List.length_dropLast]; omega
  have d2 : ((S.map nT).tail).length ≤ 1000 := by rw [List.length_tail]; omega
  have d3 : (List.replicate (actsOf ps).length (nT 255)).length ≤ 1000 := by rw [List.length_replicate]; omega
  generalize List.replicate (actsOf ps).length (nT 255) = R at *
  generalize S.map nT = M at *
  generalize M.dropLast = D at *
  generalize M.tail = E at *
  generalize nT (actsOf ps).length = mm at *
  have f1 : M.length + 1 ≤ 16777216 := by omega
  have f2 : D.length + 1 ≤ 16777216 := by omega
  have f3 : 1 + E.length ≤ 16777216 := by omega
  have f4 : 1 + R.length ≤ 16777216 := by omega
  have f5 : M.length ≤ 16777216 := by omega
  simp (implicitDefEqProofs := false) [b9, b10, opd, fits, c1, c2, m1, f1, f2, f3, f4, f5]
theorem no_sets (hlf : 1100000 < lf) (hp : PlainOk ps) {S : List Nat} (hS : Okv ps S) {t : T} (ht : t ∈ wrongL (S.map nT) (actsOf ps).length) (s : Sto) : TW.run Pm0 Γ lf (n + 57) ix.f_fits_sets [tupP ps, nT 0, t] s = .ok (.val (.bl false)) s := by
  have sl := hS.len
  have mk : ∀ t ∈ S.map nT, tKn t = true := fun t ht => by
    obtain ⟨q, _, rfl⟩ := List.mem_map.mp ht
    rfl
  have dk : ∀ (v : T), tKn v = true → ∀ t ∈ (S.map nT).dropLast ++ [v], tKn t = true := fun v hv t ht => by
    rcases List.mem_append.mp ht with h | h
    · exact mk t ((List.dropLast_sublist _).subset h)
    · rw [List.mem_singleton] at h
      subst h
      exact hv
  have dn : ∀ (v : T), wholeB 0 255 v = false → ((S.map nT).dropLast ++ [v]).all (wholeB 0 255) = false := fun v hv => by
    rw [List.all_append, List.all_cons, hv]
    simp
  have dl : ∀ v : T, ((S.map nT).dropLast ++ [v]).length = (actsOf ps).length + 1 := fun v => by
    rw [List.length_append, List.length_dropLast, List.length_map, List.length_singleton]
    omega
  have odd : ∀ v : T, tKn v = true → wholeB 0 255 v = false → TW.run Pm0 Γ lf (n + 57) ix.f_fits_sets [tupP ps, nT 0, .tup ((S.map nT).dropLast ++ [v])] s = .ok (.val (.bl false)) s := fun v h1 h2 => fits_odd lA lC lR lS hlf hp 0 (dl v) (dk v h1) (dn v h2) s
  simp only [wrongL, List.mem_cons, List.not_mem_nil, or_false] at ht
  rcases ht with rfl | rfl | rfl | rfl | rfl | rfl | rfl | rfl | rfl | rfl | rfl
  · exact fits_not lA lC lR lG lS hlf hp 0 rfl s
  · exact fits_not lA lC lR lG lS hlf hp 0 rfl s
  · exact fits_short lA lC lR lG lS hlf hp 0 (by rw [List.length_append, List.length_map, List.length_singleton]; omega) s
  · exact fits_short lA lC lR lG lS hlf hp 0 (by rw [List.length_dropLast, List.length_map]; omega) s
  · refine fits_odd lA lC lR lS hlf hp 0 (by rw [List.length_cons, List.length_replicate]) (fun t ht => ?_) rfl s
    rcases List.mem_cons.mp ht with rfl | h
    · rfl
    · rw [(List.mem_replicate.mp h).2]
      rfl
  · refine fits_odd lA lC lR lS hlf hp 0 (by rw [List.length_cons, List.length_tail, List.length_map]; omega) (fun t ht => ?_) rfl s
    rcases List.mem_cons.mp ht with rfl | h
    · rfl
    · exact mk t (List.mem_of_mem_tail h)
  · exact odd _ rfl rfl
  · exact odd _ rfl rfl
  · exact odd _ rfl rfl
  · exact odd _ rfl rfl
  · exact fits_not lA lC lR lG lS hlf hp 0 rfl s
theorem t11 (hlf : 1100000 < lf) (hp : PlainOk ps) (hl : hs.length ≤ 5) (ho : ∀ h ∈ hs, h.okB = true) {S : List Nat} (hS : Okv ps S) (c : Cup) (e : Sto) :
    ∃ c' k17, evS Pm0 (TW.run Pm0 Γ lf (n + 62)) lf (lb 11) (fr ns ps hs a j6 j7 j8 j9 j11 j12 j13 j14 j15 j16 (.own (.lst (wrongL (S.map nT) (actsOf ps).length)))) (cupO c :: e) = .nx (fr ns ps hs a j6 j7 j8 j9 j11 j12 j13 j14 j15 j16 k17) (cupO c' :: e) := by
  obtain ⟨t, q1, q2⟩ := some_ev (P := Pm0) (lf := lf) (n := n + 60) lL c (wrongL (S.map nT) (actsOf ps).length) (by simp [wrongL]) (by simp [wrongL])
  have q2 : TW.run Pm0 Γ lf (n + 62) ix.f_law_some [.ref 0, .lst (wrongL (S.map nT) (actsOf ps).length)] (cupO c :: e) = .ok (.val t) (cupO (rollI c (wrongL (S.map nT) (actsOf ps).length).length).2 :: e) := q2 e
  have hm := List.mem_of_getElem? q1
  generalize (rollI c (wrongL (S.map nT) (actsOf ps).length).length).2 = c2 at q2
  have k0 : TW.run Pm0 Γ lf (n + 61) ix.f_fits_sets [tupP ps, nT 0, t] (cupO c2 :: e) = .ok (.val (.bl false)) (cupO c2 :: e) := no_sets (n := n + 4) hlf hp hS hm _
  have k1 : TW.run Pm0 Γ lf (n + 62) ix.f_takes_places [tupP ps, hT hs, .int 0, .int 255, t] (cupO c2 :: e) = .ok (.val (.bl false)) (cupO c2 :: e) := takes_bad (P := Pm0) (lf := lf) (n := n + 1) lA lC lD lR lG lS hlf hp hl ho (ahead := 0) (behind := 255) (by decide) (by decide) _ k0
  have eb : lb 11 = .ifs [2, 3, 1, 17] (.cmp .notN (.call ix.f_takes_places [.var 2, .var 3, .con (.int 0), .con (.int 255), .call ix.f_law_some [.mkr (.var 1), .var 17]]) (.con (.bl false))) [.ret [] (.con (.bl false))] [] := rfl
  refine ⟨c2, .val (.lst (wrongL (S.map nT) (actsOf ps).length)), ?_⟩
  rw [eb]
  unfold fr
  generalize tbT (tabB hs ps same) = tb at *
  generalize wrongL (S.map nT) (actsOf ps).length = M at *
  simp (implicitDefEqProofs := false) [opd, q2, k1]
/-- one set behind -/
theorem turn_ev (hlf : 1100000 < lf) (hp : PlainOk ps) (hl : hs.length ≤ 5) (ho : ∀ h ∈ hs, h.okB = true) (ha : a < 256) (hb : b < 256) (c : Cup) (e : Sto) :
    ∃ c' e' k7 k8 k9 k11 k12 k13 k14 k15 k16 k17, evSs Pm0 (TW.run Pm0 Γ lf (n + 62)) lf turn (fr ns ps hs a (.val (nT b)) j7 j8 j9 j11 j12 j13 j14 j15 j16 j17) (cupO c :: e) = .nx (fr ns ps hs a (.val (nT b)) k7 k8 k9 k11 k12 k13 k14 k15 k16 k17) (cupO c' :: e') := by
  obtain ⟨S, v, e1, hS, hv, d, g0⟩ := t0 (lf := lf) (n := n) (ns := ns) (j7 := j7) (j8 := j8) (j9 := j9) (j11 := j11) (j12 := j12) (j13 := j13) (j14 := j14) (j15 := j15) (j16 := j16) (j17 := j17) hlf hp hl ho ha hb (cupO c :: e)
  obtain ⟨S2, hS2, g3⟩ := t3 (lf := lf) (n := n) (ns := ns) (hs := hs) (j6 := .val (nT b)) (j8 := .val (.bl d)) (j9 := j9) (j11 := j11) (j12 := j12) (j13 := j13) (j14 := j14) (j15 := j15) (j16 := j16) (j17 := j17) hp ha hS hv (cupO c :: (e ++ e1))
  obtain ⟨q, o, c2, hq, ho2, g5⟩ := t5 (lf := lf) (n := n) (ns := ns) (hs := hs) (a := a) hp c
  have g5 := g5 (.val (nT b)) (.val v) (.val (.bl d)) (.val (tbT S2)) j12 j13 j14 j15 j16 j17 (e ++ e1)
  have g6 := t6 (lf := lf) (n := n) (ns := ns) (hs := hs) (a := a) (j6 := .val (nT b)) (j7 := .val v) (j8 := .val (.bl d)) (j14 := j14) (j15 := j15) (j16 := j16) (j17 := j17) hp hS2 hq o (cupO c2 :: (e ++ e1))
  obtain ⟨c3, e3, k14, k15, k16, g8⟩ := t8 (lf := lf) (n := n) (ns := ns) (j7 := .val v) (j8 := .val (.bl d)) (j9 := .val (nT (actsOf ps).length)) (j11 := .val (tbT S2)) (j12 := .val (nT q)) (j13 := .val (nT o)) (j15 := j15) (j16 := j16) (j17 := j17) hlf hp hl ho ha hb (L := oddL S2 (actsOf ps).length q o) (by simp [oddL]) (by simp [oddL]) (odd_ok hS2 q ho2) c2 (e ++ e1)
  have g9 := t9 (lf := lf) (n := n) (ns := ns) (hs := hs) (a := a) (j6 := .val (nT b)) (j7 := .val v) (j8 := .val (.bl d)) (j12 := .val (nT q)) (j13 := .val (nT o)) (j14 := k14) (j15 := k15) (j16 := k16) (j17 := j17) hp hS2 (cupO c3 :: e3)
  obtain ⟨c4, k17, g11⟩ := t11 (lf := lf) (n := n) (ns := ns) (a := a) (j6 := .val (nT b)) (j7 := .val v) (j8 := .val (.bl d)) (j9 := .val (nT (actsOf ps).length)) (j11 := .val (tbT S2)) (j12 := .val (nT q)) (j13 := .val (nT o)) (j14 := k14) (j15 := k15) (j16 := k16) hlf hp hl ho hS2 c3 e3
  refine ⟨c4, e3, .val v, .val (.bl d), .val (nT (actsOf ps).length), .val (tbT S2), .val (nT q), .val (nT o), k14, k15, k16, k17, ?_⟩
  rw [tsplit, show [lb 0, lb 1, lb 2, lb 3, lb 4, lb 5, lb 6, lb 7, lb 8, lb 9, lb 10, lb 11] = [lb 0, lb 1, lb 2] ++ ([lb 3, lb 4] ++ (lb 5 :: ([lb 6, lb 7] ++ (lb 8 :: ([lb 9, lb 10] ++ [lb 11]))))) from rfl]
  rw [List.cons_append] at g0
  rw [evSs_app, g0, seq_nx, evSs_app, g3, seq_nx, xss_cons, g5, seq_nx, evSs_app, g6, seq_nx, xss_cons, g8, seq_nx, evSs_app, g9, seq_nx, xss_cons, g11, seq_nx, xss_nil]
/-! ### the rows -/
def pLoop : List Pg := [.whl 170 [.act 0], .asr 204]
def hKeep : List Hy := [.keep 0 1, .keep 0 2]
theorem loop_ok : PlainOk pLoop ∧ hKeep.length ≤ 5 ∧ ∀ h ∈ hKeep, h.okB = true := plain_of (by decide +kernel)
theorem four_ok : PlainOk [.act 4] ∧ [Hy.keep 4 0].length ≤ 5 ∧ ∀ h ∈ [Hy.keep 4 0], h.okB = true := plain_of (by decide +kernel)
theorem loop_none : PlainOk pLoop ∧ ([] : List Hy).length ≤ 5 ∧ ∀ h ∈ ([] : List Hy), h.okB = true := plain_of (by decide +kernel)
theorem g_loop : GoW pLoop (gwF pLoop) := gwF_ok loop_ok.1.hgt loop_ok.1.size (by decide +kernel)
theorem g_four : GoW [.act 4] (gwF [.act 4]) := gwF_ok four_ok.1.hgt four_ok.1.size (by decide +kernel)
theorem lt2 {x y : Nat} (hx : x < 256) (hy : y < 256) : ∀ i, ([x, y] : List Nat).getD i 0 < 256
  | 0 => hx
  | 1 => hy
  | i + 2 => by
    show ([] : List Nat).getD i 0 < 256
    simp
theorem tk_loop (hlf : 1100000 < lf) {x y : Nat} (hx : x < 256) (hy : y < 256) {k : Bool} (e : (wthn 8 x && closedB (gwF pLoop) (actsOf pLoop) hKeep 4 [x, y]) = k) (s : Sto) : TW.run Pm0 Γ lf (n + 62) ix.f_takes_places [tupP pLoop, hT hKeep, .int 8, .int 4, .tup [nT x, nT y]] s = .ok (.val (.bl k)) s := by
  rw [← e]
  exact takes_good (P := Pm0) (lf := lf) (n := n + 1) lA lC lD lR lG lS hlf loop_ok.1 loop_ok.2.1 loop_ok.2.2 (ahead := 8) (behind := 4) (by decide) (by decide) g_loop (S := [x, y]) rfl (lt2 hx hy) s
def fr2 (ns : List Int) (j2 j3 j4 j5 j6 j7 j8 j9 j11 j12 j13 j14 j15 j16 j17 j18 j19 j20 : Slot) : TW.Env := [.val (.scr ns), .val (.ref 0), j2, j3, j4, j5, j6, j7, j8, j9, .no, j11, j12, j13, j14, j15, j16, j17, j18, j19, j20, .no]
variable {j2 j3 j4 j5 j18 j19 j20 : Slot}
def rowT (x y : Int) (k : Bool) : T := .tup [.tup [.int x, .int y], .bl k]
def rowsT : List T := [rowT 8 12 true, rowT 8 8 false, rowT 12 12 true, rowT 4 12 false, rowT 8 255 false, .tup [.tup [.int 8, .int 12, .int 0], .bl false]]
theorem x4 {G : Nat → List T → Sto → R Ow} : evS Pm0 G lf (bd 4) (fr2 ns j2 j3 j4 j5 j6 j7 j8 j9 j11 j12 j13 j14 j15 j16 j17 j18 j19 j20) s = .nx (fr2 ns j2 j3 j4 j5 j6 j7 j8 j9 j11 j12 j13 j14 j15 j16 j17 (.val (tupP pLoop)) (.val (hT hKeep)) j20) s := by kernel_rfl
theorem x5 {G : Nat → List T → Sto → R Ow} : evS Pm0 G lf (bd 5) (fr2 ns j2 j3 j4 j5 j6 j7 j8 j9 j11 j12 j13 j14 j15 j16 j17 j18 j19 j20) s = .nx (fr2 ns j2 j3 j4 j5 j6 j7 j8 j9 j11 j12 j13 j14 j15 j16 j17 j18 j19 (.own (.lst rowsT))) s := by kernel_rfl
theorem x6 (hlf : 1100000 < lf) : evS Pm0 (TW.run Pm0 Γ lf (n + 62)) lf (bd 6) (fr2 ns j2 j3 j4 j5 j6 j7 j8 j9 j11 j12 j13 j14 j15 j16 j17 (.val (tupP pLoop)) (.val (hT hKeep)) (.own (.lst rowsT))) s = .nx (fr2 ns j2 j3 j4 j5 j6 j7 j8 j9 j11 j12 j13 j14 j15 j16 j17 (.val (tupP pLoop)) (.val (hT hKeep)) (.own (.lst rowsT))) s := by
  have c1 : ∀ s, TW.run Pm0 Γ lf (n + 62) ix.f_takes_places [tupP pLoop, hT hKeep, .int 8, .int 4, .tup [.int 8, .int 12]] s = .ok (.val (.bl true)) s := fun s => tk_loop (x := 8) (y := 12) hlf (by decide) (by decide) (by decide +kernel) s
  have c2 : ∀ s, TW.run Pm0 Γ lf (n + 62) ix.f_takes_places [tupP pLoop, hT hKeep, .int 8, .int 4, .tup [.int 8, .int 8]] s = .ok (.val (.bl false)) s := fun s => tk_loop (x := 8) (y := 8) hlf (by decide) (by decide) (by decide +kernel) s
  have c3 : ∀ s, TW.run Pm0 Γ lf (n + 62) ix.f_takes_places [tupP pLoop, hT hKeep, .int 8, .int 4, .tup [.int 12, .int 12]] s = .ok (.val (.bl true)) s := fun s => tk_loop (x := 12) (y := 12) hlf (by decide) (by decide) (by decide +kernel) s
  have c4 : ∀ s, TW.run Pm0 Γ lf (n + 62) ix.f_takes_places [tupP pLoop, hT hKeep, .int 8, .int 4, .tup [.int 4, .int 12]] s = .ok (.val (.bl false)) s := fun s => tk_loop (x := 4) (y := 12) hlf (by decide) (by decide) (by decide +kernel) s
  have c5 : ∀ s, TW.run Pm0 Γ lf (n + 62) ix.f_takes_places [tupP pLoop, hT hKeep, .int 8, .int 4, .tup [.int 8, .int 255]] s = .ok (.val (.bl false)) s := fun s => tk_loop (x := 8) (y := 255) hlf (by decide) (by decide) (by decide +kernel) s
  have c6 : ∀ s, TW.run Pm0 Γ lf (n + 62) ix.f_takes_places [tupP pLoop, hT hKeep, .int 8, .int 4, .tup [.int 8, .int 12, .int 0]] s = .ok (.val (.bl false)) s := fun s => takes_bad (P := Pm0) (lf := lf) (n := n + 1) lA lC lD lR lG lS hlf loop_ok.1 loop_ok.2.1 loop_ok.2.2 (ahead := 8) (behind := 4) (by decide) (by decide) s (fits_short (n := n + 4) lA lC lR lG lS hlf loop_ok.1 8 (by decide) s)
  have b6 : bd 6 = .ifs [21, 18, 19] (.cmp .ne (.lc [21] (.var 21) (.nm 21) (.seq (.pk 20)) (some (.cmp .ne (.call ix.f_takes_places [.var 18, .var 19, .con (.int 8), .con (.int 4), .ix (.pk 21) (.con (.int 0))]) (.ix (.pk 21) (.con (.int 1)))))) (.lst [])) [.ret [] (.con (.bl false))] [] := rfl
  have hr : rowsT = rowsT.map id := by simp
  have q0 : eqO s (.lst []) (.lst []) = some true := rfl
  rw [b6]
  generalize tupP pLoop = p at *
  generalize hT hKeep = h at *
  simp (implicitDefEqProofs := false) [fr2, opd]
  rw [hr, lcGo_filter (p := fun _ => false) (h := id) (fun t ht => by
    simp only [rowsT, rowT, List.mem_cons, List.not_mem_nil, or_false] at ht
    rcases ht with rfl | rfl | rfl | rfl | rfl | rfl
    · simp (implicitDefEqProofs := false) [opd, c1]
    · simp (implicitDefEqProofs := false) [opd, c2]
    · simp (implicitDefEqProofs := false) [opd, c3]
    · simp (implicitDefEqProofs := false) [opd, c4]
    · simp (implicitDefEqProofs := false) [opd, c5]
    · simp (implicitDefEqProofs := false) [opd, c6]) (by simp [rowsT])]
  have hf : List.filter (fun (_ : T) => false) rowsT = [] := rfl
  simp (implicitDefEqProofs := false) [fits, q0, hf]
theorem x7 (hlf : 1100000 < lf) : evS Pm0 (TW.run Pm0 Γ lf (n + 62)) lf (bd 7) (fr2 ns j2 j3 j4 j5 j6 j7 j8 j9 j11 j12 j13 j14 j15 j16 j17 j18 j19 j20) s = .nx (fr2 ns j2 j3 j4 j5 j6 j7 j8 j9 j11 j12 j13 j14 j15 j16 j17 j18 j19 j20) s := by
  have c1 : TW.run Pm0 Γ lf (n + 62) ix.f_takes_places [.tup [.tup [.str "do", .int 4]], .tup [.tup [.str "keep", .int 4, .int 0]], .int 2, .int 170, .tup [.int 2, .int 170]] s = .ok (.val (.bl true)) s := by
    have e := takes_good (P := Pm0) (lf := lf) (n := n + 1) lA lC lD lR lG lS hlf four_ok.1 four_ok.2.1 four_ok.2.2 (ahead := 2) (behind := 170) (by decide) (by decide) g_four (S := [2, 170]) rfl (lt2 (by decide) (by decide)) s
    have k : (wthn 2 (([2, 170] : List Nat).getD 0 0) && closedB (gwF [.act 4]) (actsOf [.act 4]) [Hy.keep 4 0] 170 [2, 170]) = true := by decide +kernel
    rw [k] at e
    exact e
  have b7 : bd 7 = .ifs [] (.cmp .notN (.call ix.f_takes_places [.tup [.tup [.con (.str "do"), .con (.int 4)]], .tup [.tup [.con (.str "keep"), .con (.int 4), .con (.int 0)]], .con (.int 2), .con (.int 170), .tup [.con (.int 2), .con (.int 170)]]) (.con (.bl true))) [.ret [] (.con (.bl false))] [] := rfl
  rw [b7]
  simp (implicitDefEqProofs := false) [fr2, opd, fits, c1]
theorem x8 (hlf : 1100000 < lf) : ∃ e, evS Pm0 (TW.run Pm0 Γ lf (n + 62)) lf (bd 8) (fr2 ns j2 j3 j4 j5 j6 j7 j8 j9 j11 j12 j13 j14 j15 j16 j17 (.val (tupP pLoop)) (.val (hT hKeep)) j20) s = .rt (.val (.bl true)) (s ++ e) := by
  obtain ⟨_, _, _, _, _, e1⟩ := place_ev (P := Pm0) (lf := lf) (n := n + 1) lA lC lD lR lG lS hlf loop_none.1 loop_none.2.1 loop_none.2.2 (ahead := 2) (behind := 4) (by decide) (by decide) g_loop s
  have k1 : wthn (unite (tabB [] pLoop same) 2) 4 = false := by decide +kernel
  rw [k1, if_neg Bool.false_ne_true] at e1
  have e1 : TW.run Pm0 Γ lf (n + 62) ix.f_place_sets [tupP pLoop, .tup [], .int 2, .int 4] s = .ok (.val .non) s := e1
  obtain ⟨S, q1, q2, q3, q4, e2⟩ := place_ev (P := Pm0) (lf := lf) (n := n + 1) lA lC lD lR lG lS hlf loop_ok.1 loop_ok.2.1 loop_ok.2.2 (ahead := 8) (behind := 4) (by decide) (by decide) g_loop s
  have k2 : wthn (unite (tabB hKeep pLoop same) 8) 4 = true := by decide +kernel
  rw [k2] at q4
  rw [k2, if_pos rfl] at e2
  have e2 : TW.run Pm0 Γ lf (n + 62) ix.f_place_sets [tupP pLoop, hT hKeep, .int 8, .int 4] s = .ok (.val (tbT S)) s := e2
  obtain ⟨e, e3⟩ := lclosed_ev (P := Pm0) (lf := lf) (n := n + 31) lW lU lV lT hlf loop_ok.1.hgt loop_ok.1.size loop_ok.1.ok loop_ok.2.2 8 4 g_loop q1 s
  rw [q3, q4] at e3
  have e3 : TW.run Pm0 Γ lf (n + 62) ix.f_law_closed [tupP pLoop, hT hKeep, .int 8, .int 4, tbT S] s = .ok (.val (.bl true)) (s ++ e) := e3
  refine ⟨e, ?_⟩
  have b8 : bd 8 = .ret [18, 18, 19, 18, 19] (.and (.cmp .isN (.call ix.f_place_sets [.var 18, .tup [], .con (.int 2), .con (.int 4)]) (.con (.non))) (.call ix.f_law_closed [.var 18, .var 19, .con (.int 8), .con (.int 4), .call ix.f_place_sets [.var 18, .var 19, .con (.int 8), .con (.int 4)]])) := rfl
  have k0 : opCmp Pm0 s .isN .non .non = some true := rfl
  rw [b8]
  generalize tupP pLoop = p at *
  generalize hT hKeep = h at *
  simp (implicitDefEqProofs := false) [fr2, opd, fits, e1, k0, e2, e3]
theorem law_run (hlf : 1100000 < lf) (hl : ns.length ≤ 63) : ∃ s, TW.run Pm0 Γ lf (n + 63) lawI [.scr ns] [] = .ok (.val (.bl true)) s := by
  obtain ⟨c, ec⟩ := cup_ev (P := Pm0) (lf := lf) (n := n + 61) (s := []) g_law_cup hl
  have ec : TW.run Pm0 Γ lf (n + 62) ix.f_law_cup [.scr ns] [] = .ok (.own (cupO c)) [] := ec
  rw [run_at g_law (by rw [split]; rfl), split]
  show ∃ s, (evSs Pm0 (TW.run Pm0 Γ lf (n + 62)) lf [bd 0, bd 1, bd 2, bd 3, bd 4, bd 5, bd 6, bd 7, bd 8] [.val (.scr ns), .no, .no, .no, .no, .no, .no, .no, .no, .no, .no, .no, .no, .no, .no, .no, .no, .no, .no, .no, .no, .no] []).res = _
  have s0 : evS Pm0 (TW.run Pm0 Γ lf (n + 62)) lf (bd 0) [.val (.scr ns), .no, .no, .no, .no, .no, .no, .no, .no, .no, .no, .no, .no, .no, .no, .no, .no, .no, .no, .no, .no, .no] [] = .nx (fr2 ns .no .no .no .no .no .no .no .no .no .no .no .no .no .no .no .no .no .no) [cupO c] := by
    have : bd 0 = .asg [0] 1 (.mkr (.call ix.f_law_cup [.var 0])) := rfl
    rw [this]
    simp (implicitDefEqProofs := false) [ec, fr2]
  have pk := drawn_ok c (most := 10) (by decide)
  obtain ⟨hk, hlen⟩ := hyps_ok (drawnF c 10).2 (most := 3) (by decide)
  have e1 : TW.run Pm0 Γ lf (n + 62) ix.f_law_drawn [.ref 0, .int 10] [cupO c] = .ok (.val (tupP (drawnF c 10).1)) [cupO (drawnF c 10).2] := drawn_ev (n := n + 52) lL lM c 10
  have e2 : TW.run Pm0 Γ lf (n + 62) ix.f_law_hypotheses [.ref 0, .int 3] [cupO (drawnF c 10).2] = .ok (.val (hT (hypsF (drawnF c 10).2 3).1)) [cupO (hypsF (drawnF c 10).2 3).2] := hyps_ev (n := n + 57) lL lM (drawnF c 10).2 3 (by decide)
  generalize (drawnF c 10).2 = c1 at *
  generalize (drawnF c 10).1 = ps at *
  generalize (hypsF c1 3).1 = hs at *
  generalize (hypsF c1 3).2 = c2 at *
  have e3 : TW.run Pm0 Γ lf (n + 62) ix.f_law_set [.ref 0] [cupO c2] = .ok (.val (.int (setF c2).1)) [cupO (setF c2).2] := set_ev (n := n + 59) lL c2
  have l1 := set_lt c2
  rw [← nT_toNat l1.1] at e3
  have a1 : (setF c2).1.toNat < 256 := by omega
  generalize (setF c2).1.toNat = a at *
  generalize (setF c2).2 = c3 at *
  have s1 : evS Pm0 (TW.run Pm0 Γ lf (n + 62)) lf (bd 1) (fr2 ns .no .no .no .no .no .no .no .no .no .no .no .no .no .no .no .no .no .no) [cupO c] = .nx (fr2 ns (.val (tupP ps)) (.val (hT hs)) (.val (nT a)) .no .no .no .no .no .no .no .no .no .no .no .no .no .no .no) [cupO c3] := by
    have : bd 1 = .par [1, 1, 1] [2, 3, 4] [.call ix.f_law_drawn [.mkr (.var 1), .con (.int 10)], .call ix.f_law_hypotheses [.mkr (.var 1), .con (.int 3)], .call ix.f_law_set [.mkr (.var 1)]] := rfl
    rw [this]
    simp (implicitDefEqProofs := false) [e1, e2, e3, fr2]
  obtain ⟨e, e4⟩ := ltable_ev (P := Pm0) (lf := lf) (n := n + 30) lW hlf hP pk.hgt pk.size pk.ok hk [cupO c3]
  have e4 : TW.run Pm0 Γ lf (n + 62) ix.f_law_table [tupP ps, hT hs] [cupO c3] = .ok (.val (tbT (tabB hs ps same))) (cupO c3 :: e) := e4
  have s2 : evS Pm0 (TW.run Pm0 Γ lf (n + 62)) lf (bd 2) (fr2 ns (.val (tupP ps)) (.val (hT hs)) (.val (nT a)) .no .no .no .no .no .no .no .no .no .no .no .no .no .no .no) [cupO c3] = .nx (fr ns ps hs a .no .no .no .no .no .no .no .no .no .no .no) (cupO c3 :: e) := by
    have : bd 2 = .asg [2, 3] 5 (.call ix.f_law_table [.var 2, .var 3]) := rfl
    rw [this]
    simp (implicitDefEqProofs := false) [e4, fr2, fr]
  have ht := tabB_tab hs ps same tab_same
  have s3 : ∃ c' e' k6 k7 k8 k9 k11 k12 k13 k14 k15 k16 k17, evS Pm0 (TW.run Pm0 Γ lf (n + 62)) lf (bd 3) (fr ns ps hs a .no .no .no .no .no .no .no .no .no .no .no) (cupO c3 :: e) = .nx (fr ns ps hs a k6 k7 k8 k9 k11 k12 k13 k14 k15 k16 k17) (cupO c' :: e') := by
    have e5 : TW.run Pm0 Γ lf (n + 62) ix.f_law_set [.ref 0] (cupO c3 :: e) = .ok (.val (.int (setF c3).1)) (cupO (setF c3).2 :: e) := set_ev (n := n + 59) lL c3
    have l2 := set_lt c3
    rw [← nT_toNat l2.1] at e5
    have b1 : (setF c3).1.toNat < 256 := by omega
    generalize (setF c3).1.toNat = b at *
    generalize (setF c3).2 = c4 at *
    have u1 : TW.run Pm0 Γ lf (n + 62) ix.f_law_union [tbT (tabB hs ps same), nT a] (cupO c4 :: e) = .ok (.val (nT (unite (tabB hs ps same) a))) (cupO c4 :: e) := lunion_ev (n := n + 59) lW lU lV ht a
    have b2 := unite_256 ht a
    obtain ⟨c5, e5', k7, k8, k9, k11, k12, k13, k14, k15, k16, k17, g1⟩ := turn_ev (lf := lf) (n := n) (ns := ns) (j7 := .no) (j8 := .no) (j9 := .no) (j11 := .no) (j12 := .no) (j13 := .no) (j14 := .no) (j15 := .no) (j16 := .no) (j17 := .no) hlf pk (by omega) hk a1 b1 c4 e
    obtain ⟨c6, e6', m7, m8, m9, m11, m12, m13, m14, m15, m16, m17, g2⟩ := turn_ev (lf := lf) (n := n) (ns := ns) (j7 := k7) (j8 := k8) (j9 := k9) (j11 := k11) (j12 := k12) (j13 := k13) (j14 := k14) (j15 := k15) (j16 := k16) (j17 := k17) hlf pk (by omega) hk a1 b2 c5 e5'
    refine ⟨c6, e6', .val (nT (unite (tabB hs ps same) a)), m7, m8, m9, m11, m12, m13, m14, m15, m16, m17, ?_⟩
    rw [stm3, xs_for]
    have f : frzE (fr ns ps hs a .no .no .no .no .no .no .no .no .no .no .no) [1, 5, 4] = fr ns ps hs a .no .no .no .no .no .no .no .no .no .no .no := rfl
    rw [f]
    have i : evI Pm0 (TW.run Pm0 Γ lf (n + 62)) (fr ns ps hs a .no .no .no .no .no .no .no .no .no .no .no) (.seq (.tup [.call ix.f_law_set [.mkr (.var 1)], .call ix.f_law_union [.var 5, .var 4]])) (cupO c3 :: e) = .ok [nT b, nT (unite (tabB hs ps same) a)] (cupO c4 :: e) := by
      unfold fr
      generalize unite (tabB hs ps same) a = u at *
      generalize tbT (tabB hs ps same) = tb at *
      simp (implicitDefEqProofs := false) [opd, fits, e5, u1]
    rw [i, R_out_ok]
    have p : ∀ (k6 k7 k8 k9 k11 k12 k13 k14 k15 k16 k17 : Slot) (v : T), (Tg.nm 6).put (fr ns ps hs a k6 k7 k8 k9 k11 k12 k13 k14 k15 k16 k17) v = some (fr ns ps hs a (.val v) k7 k8 k9 k11 k12 k13 k14 k15 k16 k17) := fun _ _ _ _ _ _ _ _ _ _ _ _ => rfl
    rw [forGo]
    simp only [p, g1]
    rw [forGo]
    simp only [p, g2]
    rw [forGo]
  obtain ⟨c7, e7, k6, k7, k8, k9, k11, k12, k13, k14, k15, k16, k17, s3⟩ := s3
  have ef : fr ns ps hs a k6 k7 k8 k9 k11 k12 k13 k14 k15 k16 k17 = fr2 ns (.val (tupP ps)) (.val (hT hs)) (.val (nT a)) (.val (tbT (tabB hs ps same))) k6 k7 k8 k9 k11 k12 k13 k14 k15 k16 k17 .no .no .no := rfl
  obtain ⟨e8, s8⟩ := x8 (lf := lf) (n := n) (ns := ns) (s := cupO c7 :: e7) (j2 := .val (tupP ps)) (j3 := .val (hT hs)) (j4 := .val (nT a)) (j5 := .val (tbT (tabB hs ps same))) (j6 := k6) (j7 := k7) (j8 := k8) (j9 := k9) (j11 := k11) (j12 := k12) (j13 := k13) (j14 := k14) (j15 := k15) (j16 := k16) (j17 := k17) (j20 := .own (.lst rowsT)) hlf
  refine ⟨cupO c7 :: e7 ++ e8, ?_⟩
  rw [xss_cons, s0, seq_nx, xss_cons, s1, seq_nx, xss_cons, s2, seq_nx, xss_cons, s3, seq_nx, ef, xss_cons, x4, seq_nx, xss_cons, x5, seq_nx, xss_cons, x6 hlf, seq_nx, xss_cons, x7 hlf, seq_nx, xss_cons, s8, seq_rt]
  rfl
end
theorem final : PySem.Challenge.rw_twinproof_k59_whole_sets_at_places.Holds := by
  obtain ⟨lf, hlf⟩ : ∃ lf : Nat, 1100000 < lf := ⟨_, Nat.lt_succ_self _⟩
  exact holds_of (0 + 63) ⟨rfl, by decide, by decide⟩ fun ns hl => ⟨lf, law_run (n := 0) hlf hl⟩
end Ck59

open PySem PySem.W PyProof.Rows
set_option Elab.async false
set_option maxRecDepth 100000 in
set_option maxHeartbeats 8000000 in
theorem PySem.Challenge.cw_twinproof_k59_whole_sets_at_places_holds : PySem.Challenge.rw_twinproof_k59_whole_sets_at_places.Holds := by
  exact Ck59.final
