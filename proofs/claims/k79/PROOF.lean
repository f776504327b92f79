import PyProof.Rows.All
import Wide.All
import OpenK.AllK
import Wide.FinOn
import HandS.ForMost
import HandS.TupAny
import HandS.IsInst
import HandS.Deep
import HandS.Flow
import HandS.Style
import HandS.Strs
import HandS.SortInts
import HandS.Conv
import HandS.Defaults
import HandS.MakeKwOnly
import HandS.Head0
import HandS.Head1
import HandS.Head2
import HandS.HeadEnd
import HandS.HeadHook1
import HandS.HeadHook2
import KE.GoesEnum
import KE.DataEq
import PySem.Challenge.RW_roundorders_k79_whole_pyramids_of_anythi
set_option Elab.async false
set_option linter.all false
set_option maxRecDepth 100000
set_option maxHeartbeats 4000000
/-! ## A small language M for the pure part of the text, its evaluator ev, by an AI agent -/
namespace Pv
open PySem
/-- a value: data, or a list that may yet change, by its number in the store -/
inductive E where
  | d (x : PyData)
  | ref (l : Nat)
abbrev Ev := List (Option E)
abbrev Sto := List (List PyData)
def val (S : Sto) : E → Option PyData
  | .d x => some x
  | .ref l => (S[l]?).map PyData.list
/-- data alone -/
def dat : E → Option PyData
  | .d x => some x
  | .ref _ => none
def dats : List E → Option (List PyData)
  | [] => some []
  | e :: r => (dat e).bind fun x => (dats r).map (x :: ·)
inductive Ty where
  | int | bool | str | list | tuple | dict
  deriving DecidableEq
inductive Bf where
  | len | list | tuple | int | bool | abs | min2 | max2 | sum | sorted | all | any | min1 | max1 | divmod
  deriving DecidableEq
inductive Tg where
  | nm (i : Nat)
  | tp (is : List Nat)
mutual
inductive M where
  | var (i : Nat)
  | con (c : PyData)
  | glob (x : Str) (c : PyData)
  | tup (es : Ms)
  | lst (es : Ms)
  | lstM (es : Ms)
  | dic0
  | bin (op : Operator) (a b : M)
  | neg (a : M)
  | not (a : M)
  | boo (isAnd : Bool) (es : Ms)
  | ife (c a b : M)
  | cmp (op : CmpOp) (a b : M)
  | chain (op op' : CmpOp) (a b c : M)
  | isin (a : M) (ts : List Ty)
  | blt (f : Bf) (es : Ms)
  | listM (a : M)
  | listRng (a : M)
  | listRngM (a : M)
  | call (f : Nat) (es : Ms)
  | callk (f : Nat) (ks : List Str) (ix : List Nat) (es : Ms)
  | index (o a : M)
  | append (o a : M)
  | popAt (o a : M)
  | pop (o : M)
  | idx (a i : M)
  | sl (a : M) (lo hi : Mo)
  | rev (a : M)
  | two (k : Nat) (a : M)
  | comp (own : List (Str × Nat)) (tg : Tg) (it : Mi) (c : Mo) (e : M)
  | comp2 (own : List (Str × Nat)) (tg : Tg) (it : Mi) (c : Mo) (vs1 : List Nat) (tg1 : Tg) (it1 : Mi) (c1 : Mo) (e : M)
inductive Ms where
  | nil
  | cons (e : M) (es : Ms)
inductive Mo where
  | no
  | yes (e : M)
inductive Mi where
  | val (e : M)
  | rng (e : M)
  | rng2 (a b : M)
  | enum (e : M)
  | zip (a b : M)
end
def getV : Ev → Nat → Option E
  | [], _ => none
  | x :: _, 0 => x
  | _ :: r, i + 1 => getV r i
def setV : Ev → Nat → E → Option Ev
  | [], _, _ => none
  | _ :: r, 0, v => some (some v :: r)
  | x :: r, i + 1, v => (setV r i v).map (x :: ·)
def wipe1 : Ev → Nat → Ev
  | [], _ => []
  | _ :: r, 0 => none :: r
  | x :: r, i + 1 => x :: wipe1 r i
def wipeV (Γ : Ev) : List Nat → Ev
  | [] => Γ
  | v :: vs => wipe1 (wipeV Γ vs) v
/-- run on -/
def bd {α β : Type} (o : Option (α × Sto)) (f : α → Sto → Option β) : Option β := match o with
  | some (a, S) => f a S
  | none => none
@[simp] theorem bd_some {α β : Type} (a : α) (S : Sto) (f : α → Sto → Option β) : bd (some (a, S)) f = f a S := rfl
@[simp] theorem bd_none {α β : Type} (f : α → Sto → Option β) : bd none f = none := rfl
/-! ### operations on data -/
def tyOf : PyData → String
  | .none => "NoneType"
  | .bool _ => "bool"
  | .int _ => "int"
  | .str _ => "str"
  | .list _ => "list"
  | .tuple _ => "tuple"
  | .dict _ => "dict"
def Ty.nm : Ty → String
  | .int => "int"
  | .bool => "bool"
  | .str => "str"
  | .list => "list"
  | .tuple => "tuple"
  | .dict => "dict"
def isTy : PyData → Ty → Bool
  | .bool _, .bool => true
  | .bool _, .int => true
  | .int _, .int => true
  | .str _, .str => true
  | .list _, .list => true
  | .tuple _, .tuple => true
  | .dict _, .dict => true
  | _, _ => false
def tru : PyData → Option Bool
  | .none => some false
  | .bool b => some b
  | .int i => some (i != 0)
  | .list xs => some (!xs.isEmpty)
  | .tuple xs => some (!xs.isEmpty)
  | .str x => if x.length ≤ sizeLine then some ((x.length : Int) != 0) else none
  | .dict _ => none
def truE (S : Sto) (e : E) : Option Bool := (val S e).bind tru
def big : Int := 2 ^ 64
def lineN : Nat := 16777216
def binD : Operator → PyData → PyData → Option PyData
  | .Add, .int i, .int j => some (.int (i + j))
  | .Sub, .int i, .int j => some (.int (i - j))
  | .Mult, .int i, .int j => if -big < i ∧ i < big ∨ -big < j ∧ j < big then some (.int (i * j)) else none
  | .FloorDiv, .int i, .int j => if j ≠ 0 ∧ j.natAbs < 1073741824 then some (.int (i.fdiv j)) else none
  | .Mod, .int i, .int j => if j ≠ 0 then some (.int (i.fmod j)) else none
  | .Pow, .int i, .int j => if 0 ≤ j ∧ j ≤ 1000000 ∧ i.natAbs < 2 ^ 64 then some (.int (i ^ j.toNat)) else none
  | .Add, .tuple xs, .tuple ys => if xs.length + ys.length ≤ lineN then some (.tuple (xs ++ ys)) else none
  | .Add, .list xs, .list ys => if xs.length + ys.length ≤ lineN then some (.list (xs ++ ys)) else none
  | _, _, _ => none
def shp (x : PyData) : Bool := SeqAt.shaped x
def cmpD : CmpOp → PyData → PyData → Option Bool
  | .Eq, x, y => if shp x = true ∧ shp y = true then some (PyData.eqv x y) else none
  | .NotEq, x, y => if shp x = true ∧ shp y = true then some (!PyData.eqv x y) else none
  | .Lt, .int i, .int j => some (decide (i < j))
  | .LtE, .int i, .int j => some (decide (i ≤ j))
  | .Gt, .int i, .int j => some (decide (j < i))
  | .GtE, .int i, .int j => some (decide (j ≤ i))
  | .Is, x, .none => some (match x with | .none => true | _ => false)
  | .IsNot, x, .none => some (match x with | .none => false | _ => true)
  | .In, x, .list ys => if shp x = true ∧ shp (.list ys) = true then some (ys.any fun z => PyData.eqv z x) else none
  | .NotIn, x, .list ys => if shp x = true ∧ shp (.list ys) = true then some (!ys.any fun z => PyData.eqv z x) else none
  | .In, x, .tuple ys => if shp x = true ∧ shp (.tuple ys) = true then some (ys.any fun z => PyData.eqv z x) else none
  | .NotIn, x, .tuple ys => if shp x = true ∧ shp (.tuple ys) = true then some (!ys.any fun z => PyData.eqv z x) else none
  | _, _, _ => none
def intsD : List PyData → Option (List Int)
  | [] => some []
  | .int i :: r => (intsD r).map (i :: ·)
  | _ :: _ => none
def boolsD : List PyData → Option (List Bool)
  | [] => some []
  | .bool i :: r => (boolsD r).map (i :: ·)
  | _ :: _ => none
def maxI : List Int → Int
  | [] => 0
  | [a] => a
  | a :: r => max a (maxI r)
def minI : List Int → Int
  | [] => 0
  | [a] => a
  | a :: r => min a (minI r)
/-- ascending -/
def insI (x : Int) : List Int → List Int
  | [] => [x]
  | y :: r => if x ≤ y then x :: y :: r else y :: insI x r
def sortI : List Int → List Int
  | [] => []
  | x :: r => insI x (sortI r)
def elems : PyData → Option (List PyData)
  | .list xs => some xs
  | .tuple xs => some xs
  | _ => none
def bltD : Bf → List PyData → Option PyData
  | .len, [.list xs] => some (.int xs.length)
  | .len, [.tuple xs] => some (.int xs.length)
  | .len, [.str x] => if x.length ≤ sizeLine then some (.int x.length) else none
  | .list, [.list xs] => some (.list xs)
  | .list, [.tuple xs] => some (.list xs)
  | .tuple, [.list xs] => some (.tuple xs)
  | .tuple, [.tuple xs] => some (.tuple xs)
  | .int, [.int i] => some (.int i)
  | .int, [.bool k] => some (.int (if k then 1 else 0))
  | .bool, [.int i] => some (.bool (i != 0))
  | .bool, [.bool k] => some (.bool k)
  | .abs, [.int i] => some (.int (if i < 0 then -i else i))
  | .max2, [.int i, .int j] => some (.int (if j > i then j else i))
  | .min2, [.int i, .int j] => some (.int (if j < i then j else i))
  | .sum, [.list xs] => (intsD xs).map fun ns => .int ns.sum
  | .max1, [.list xs] => (intsD xs).bind fun ns => if 0 < ns.length then some (.int (maxI ns)) else none
  | .min1, [.list xs] => (intsD xs).bind fun ns => if 0 < ns.length then some (.int (minI ns)) else none
  | .all, [.list xs] => (boolsD xs).map fun bs => .bool (bs.all id)
  | .any, [.list xs] => (boolsD xs).map fun bs => .bool (bs.any id)
  | .sorted, [.list xs] => (intsD xs).map fun ns => .list ((sortI ns).map .int)
  | .sorted, [.tuple xs] => (intsD xs).map fun ns => .list ((sortI ns).map .int)
  | .divmod, [.int i, .int j] => if 0 < j ∧ j < 1073741824 then some (.tuple [.int (i / j), .int (i % j)]) else none
  | _, _ => none
/-- what stands at i, from behind too -/
def atD (xs : List PyData) (i : Int) : Option PyData := L2.atI xs i
def idxD : PyData → PyData → Option PyData
  | .list xs, .int i => atD xs i
  | .tuple xs, .int i => atD xs i
  | _, _ => none
def cutD (xs : List PyData) (lo hi : Option Int) : List PyData := (xs.drop (HT.sIx xs.length 0 lo)).take (HT.sIx xs.length xs.length hi - HT.sIx xs.length 0 lo)
def slD : PyData → Option Int → Option Int → Option PyData
  | .list xs, lo, hi => some (.list (cutD xs lo hi))
  | .tuple xs, lo, hi => some (.tuple (cutD xs lo hi))
  | _, _, _ => none
def revD : PyData → Option PyData
  | .list xs => some (.list xs.reverse)
  | .tuple xs => some (.tuple xs.reverse)
  | _ => none
/-- each second one -/
def evens : List PyData → List PyData
  | [] => []
  | [a] => [a]
  | a :: _ :: r => a :: evens r
def twoD (k : Nat) : PyData → Option PyData
  | .tuple xs => some (.tuple (evens (xs.drop k)))
  | _ => none
def indexD (x : PyData) (d : PyData) : Option PyData := (elems x).bind fun xs =>
  if shp d = true ∧ shp x = true then (xs.findIdx? fun z => PyData.eqv z d).map fun (j : Nat) => PyData.int (j : Int) else none
def vals (S : Sto) : List E → Option (List PyData)
  | [] => some []
  | e :: r => (val S e).bind fun x => (vals S r).map (x :: ·)
/-- the targets of a walk -/
def setsV : Ev → List Nat → List PyData → Option Ev
  | Γ, [], [] => some Γ
  | Γ, i :: is, x :: xs => (setV Γ i (.d x)).bind fun Γ' => setsV Γ' is xs
  | _, _, _ => none
def tgt : Tg → PyData → Ev → Option Ev
  | .nm i, x, Γ => setV Γ i (.d x)
  | .tp is, .tuple xs, Γ => setsV Γ is xs
  | .tp _, _, _ => none
/-- a list that is walked stands as it was -/
abbrev Mon := Option (Nat × List PyData)
def monOk : Mon → Sto → Prop
  | none, _ => True
  | some (l, xs), S => S[l]? = some xs
open Classical in
noncomputable def compL (mon : Mon) (n : Nat) (body : PyData → Sto → Option (Option PyData × Sto)) : List PyData → Sto → Option (List PyData × Sto)
  | [], S => if monOk mon S then some ([], S) else none
  | x :: xs, S => if monOk mon S then bd (body x S) fun r S1 => bd (compL mon n body xs (S1.take n)) fun rs S2 => (match r with
    | some y => some (y :: rs, S2)
    | none => some (rs, S2)) else none
open Classical in
noncomputable def compLL (mon : Mon) (n : Nat) (body : PyData → Sto → Option (List PyData × Sto)) : List PyData → Sto → Option (List PyData × Sto)
  | [], S => if monOk mon S then some ([], S) else none
  | x :: xs, S => if monOk mon S then bd (body x S) fun r S1 => bd (compLL mon n body xs (S1.take n)) fun rs S2 => some (r ++ rs, S2) else none
def oneD {α : Type} (f : PyData → Option α) (S : Sto) (e : E) : Option α := (val S e).bind f
def upS (S : Sto) (l : Nat) (xs : List PyData) : Sto := S.set l xs
/-- keyword arguments in the parameters' order -/
def pick (es : List E) : List Nat → Option (List E)
  | [] => some []
  | i :: r => (es[i]?).bind fun e => (pick es r).map (e :: ·)
abbrev Cal := Nat → List E → Sto → Option (E × Sto)
section
variable (cal : Cal)
mutual
noncomputable def ev : M → Ev → Sto → Option (E × Sto)
  | .var i, Γ, S => (getV Γ i).map fun e => (e, S)
  | .con c, _, S => some (.d c, S)
  | .glob _ c, _, S => some (.d c, S)
  | .tup es, Γ, S => bd (evs es Γ S) fun xs S1 => (dats xs).bind fun ds => if ds.length ≤ lineN then some (.d (.tuple ds), S1) else none
  | .lst es, Γ, S => bd (evs es Γ S) fun xs S1 => (dats xs).bind fun ds => if ds.length ≤ lineN then some (.d (.list ds), S1) else none
  | .lstM es, Γ, S => bd (evs es Γ S) fun xs S1 => (dats xs).bind fun ds => if ds.length ≤ lineN then some (.ref S1.length, S1 ++ [ds]) else none
  | .dic0, _, S => some (.d (.dict []), S)
  | .bin op a b, Γ, S => bd (ev a Γ S) fun x S1 => bd (ev b Γ S1) fun y S2 => (val S2 x).bind fun u => (val S2 y).bind fun v => (binD op u v).map fun r => (.d r, S2)
  | .neg a, Γ, S => bd (ev a Γ S) fun x S1 => (match x with
    | .d (.int i) => some (.d (.int (-i)), S1)
    | _ => none)
  | .not a, Γ, S => bd (ev a Γ S) fun x S1 => (truE S1 x).map fun b => (.d (.bool (!b)), S1)
  | .boo k es, Γ, S => evB k es Γ S
  | .ife c a b, Γ, S => bd (ev c Γ S) fun x S1 => (truE S1 x).bind fun k => if k = true then ev a Γ S1 else ev b Γ S1
  | .cmp op a b, Γ, S => bd (ev a Γ S) fun x S1 => bd (ev b Γ S1) fun y S2 => (val S2 x).bind fun u => (val S2 y).bind fun v => (cmpD op u v).map fun r => (.d (.bool r), S2)
  | .chain op op' a b c, Γ, S => bd (ev a Γ S) fun x S1 => bd (ev b Γ S1) fun y S2 => (val S2 x).bind fun u => (val S2 y).bind fun v => (cmpD op u v).bind fun r =>
      if r = true then bd (ev c Γ S2) fun z S3 => (val S3 y).bind fun v => (val S3 z).bind fun w => (cmpD op' v w).map fun r => (.d (.bool r), S3) else some (.d (.bool false), S2)
  | .isin a ts, Γ, S => bd (ev a Γ S) fun x S1 => (val S1 x).map fun u => (.d (.bool (ts.any fun t => isTy u t)), S1)
  | .blt f es, Γ, S => bd (evs es Γ S) fun xs S1 => (vals S1 xs).bind fun ds => (bltD f ds).map fun r => (.d r, S1)
  | .listM a, Γ, S => bd (ev a Γ S) fun x S1 => (oneD elems S1 x).map fun ds => (.ref S1.length, S1 ++ [ds])
  | .listRng a, Γ, S => bd (ev a Γ S) fun x S1 => (match x with
    | .d (.int n) => if -1000000 ≤ n ∧ n ≤ 1000000 then some (.d (.list ((List.range n.toNat).map fun (k : Nat) => PyData.int (k : Int))), S1) else none
    | _ => none)
  | .listRngM a, Γ, S => bd (ev a Γ S) fun x S1 => (match x with
    | .d (.int n) => if -1000000 ≤ n ∧ n ≤ 1000000 then some (.ref S1.length, S1 ++ [(List.range n.toNat).map fun (k : Nat) => PyData.int (k : Int)]) else none
    | _ => none)
  | .call f es, Γ, S => bd (evs es Γ S) fun xs S1 => cal f xs S1
  | .callk f _ ix es, Γ, S => bd (evs es Γ S) fun xs S1 => (pick xs ix).bind fun ys => cal f ys S1
  | .index o a, Γ, S => bd (ev o Γ S) fun x S1 => bd (ev a Γ S1) fun y S2 => (val S2 x).bind fun u => (val S2 y).bind fun v => (indexD u v).map fun r => (.d r, S2)
  | .append o a, Γ, S => bd (ev o Γ S) fun x S1 => bd (ev a Γ S1) fun y S2 => (dat y).bind fun v => (match x with
    | .ref l => (S2[l]?).bind fun xs => if xs.length < lineN then some (.d .none, upS S2 l (xs ++ [v])) else none
    | _ => none)
  | .popAt o a, Γ, S => bd (ev o Γ S) fun x S1 => bd (ev a Γ S1) fun y S2 => (match x, y with
    | .ref l, .d (.int i) => (S2[l]?).bind fun xs => (L2.ixN xs.length i).bind fun k => (xs[k]?).map fun r => (.d r, upS S2 l (xs.eraseIdx k))
    | _, _ => none)
  | .pop o, Γ, S => bd (ev o Γ S) fun x S1 => (match x with
    | .ref l => (S1[l]?).bind fun xs => (xs[xs.length - 1]?).map fun r => (.d r, upS S1 l xs.dropLast)
    | _ => none)
  | .idx a i, Γ, S => bd (ev a Γ S) fun x S1 => bd (ev i Γ S1) fun y S2 => (val S2 x).bind fun u => (val S2 y).bind fun v => (idxD u v).map fun r => (.d r, S2)
  | .sl a lo hi, Γ, S => bd (ev a Γ S) fun x S1 => bd (evO lo Γ S1) fun l S2 => bd (evO hi Γ S2) fun h S3 => (val S3 x).bind fun u => (slD u l h).map fun r => (.d r, S3)
  | .rev a, Γ, S => bd (ev a Γ S) fun x S1 => (oneD revD S1 x).map fun r => (.d r, S1)
  | .two k a, Γ, S => bd (ev a Γ S) fun x S1 => (oneD (twoD k) S1 x).map fun r => (.d r, S1)
  | .comp own tg it c e, Γ, S => bd (evI it Γ S) fun p S1 => bd (compL p.2 S1.length (fun x S => (tgt tg x (wipeV Γ (own.map (·.2)))).bind fun Γ1 => bd (evC c Γ1 S) fun k S2 =>
      if k = true then bd (ev e Γ1 S2) fun y S3 => (dat y).map fun d => (some d, S3) else some (none, S2)) p.1 S1) fun ds S2 => some (.d (.list ds), S2)
  | .comp2 own tg it c vs1 tg1 it1 c1 e, Γ, S => bd (evI it Γ S) fun p S1 => bd (compLL p.2 S1.length (fun x S => (tgt tg x (wipeV Γ (own.map (·.2)))).bind fun Γ1 => bd (evC c Γ1 S) fun k S2 =>
      if k = true then bd (evI it1 Γ1 S2) fun p1 S3 => compL p1.2 S3.length (fun x S => (tgt tg1 x (wipeV Γ1 vs1)).bind fun Γ2 => bd (evC c1 Γ2 S) fun k S4 =>
        if k = true then bd (ev e Γ2 S4) fun y S5 => (dat y).map fun d => (some d, S5) else some (none, S4)) p1.1 S3 else some ([], S2)) p.1 S1) fun ds S2 => if ds.length ≤ lineN then some (.d (.list ds), S2) else none
noncomputable def evs : Ms → Ev → Sto → Option (List E × Sto)
  | .nil, _, S => some ([], S)
  | .cons e es, Γ, S => bd (ev e Γ S) fun x S1 => bd (evs es Γ S1) fun xs S2 => some (x :: xs, S2)
noncomputable def evB (k : Bool) : Ms → Ev → Sto → Option (E × Sto)
  | .nil, _, _ => none
  | .cons e es, Γ, S => (match es with
    | .nil => ev e Γ S
    | .cons _ _ => bd (ev e Γ S) fun x S1 => (truE S1 x).bind fun b => if b = k then evB k es Γ S1 else some (x, S1))
noncomputable def evO : Mo → Ev → Sto → Option (Option Int × Sto)
  | .no, _, S => some (none, S)
  | .yes e, Γ, S => bd (ev e Γ S) fun x S1 => (match x with
    | .d (.int i) => some (some i, S1)
    | _ => none)
noncomputable def evC : Mo → Ev → Sto → Option (Bool × Sto)
  | .no, _, S => some (true, S)
  | .yes e, Γ, S => bd (ev e Γ S) fun x S1 => (truE S1 x).map fun b => (b, S1)
noncomputable def evI : Mi → Ev → Sto → Option ((List PyData × Mon) × Sto)
  | .val e, Γ, S => bd (ev e Γ S) fun x S1 => (match x with
    | .d x => (elems x).map fun xs => ((xs, none), S1)
    | .ref l => (S1[l]?).map fun xs => ((xs, some (l, xs)), S1))
  | .rng e, Γ, S => bd (ev e Γ S) fun x S1 => (match x with
    | .d (.int n) => if -1000000 ≤ n ∧ n ≤ 1000000 then some (((List.range n.toNat).map fun (k : Nat) => .int (k : Int), none), S1) else none
    | _ => none)
  | .rng2 a b, Γ, S => bd (ev a Γ S) fun x S1 => bd (ev b Γ S1) fun y S2 => (match x, y with
    | .d (.int m), .d (.int n) => if (-1000000 ≤ m ∧ m ≤ 1000000) ∧ -1000000 ≤ n ∧ n ≤ 1000000 then some (((List.range (n - m).toNat).map fun (k : Nat) => .int (m + (k : Int)), none), S2) else none
    | _, _ => none)
  | .enum e, Γ, S => bd (ev e Γ S) fun x S1 => (match x with
    | .d x => (elems x).map fun xs => ((xs.zipIdx.map fun p => .tuple [.int p.2, p.1], none), S1)
    | .ref _ => none)
  | .zip a b, Γ, S => bd (ev a Γ S) fun x S1 => bd (ev b Γ S1) fun y S2 => (match x, y with
    | .d x, .d y => (elems x).bind fun xs => (elems y).map fun ys => (((xs.zip ys).map fun p => .tuple [p.1, p.2], none), S2)
    | _, _ => none)
end
end
end Pv
set_option maxRecDepth 100000
set_option maxHeartbeats 4000000
/-! ## How data lies in the heap -/
namespace Pv
open PySem PySem.Spec PyProof.Rows L2
/-- a list that stays as it is -/
def Fz (K : PySem.W.Frag) (B : List Addr) (H : Hp) (a : Addr) (vs : List V) : Prop :=
  (Rd H a (.lst vs) ∧ a ∉ B) ∨
    ∃ (ob : Obj) (ws : Array Value) (n : Nat), K.lookup a = some ob ∧ ob.cls = .type "list" ∧ ob.dict = none ∧ ob.data = .seq ws n ∧ ws.size ≤ sizeLine ∧ Vals vs ws.toList
/-- a tuple, its own object told -/
def Tz (K : PySem.W.Frag) (H : Hp) (a : Addr) (vs : List V) : Prop :=
  (∃ ob : Obj, H a = some (.frz ob (.tup vs)) ∧ ob.dict = none) ∨
    ∃ (ob : Obj) (ws : Array Value) (n : Nat), K.lookup a = some ob ∧ ob.cls = .type "tuple" ∧ ob.dict = none ∧ ob.data = .seq ws n ∧ ws.size ≤ sizeLine ∧ Vals vs ws.toList
theorem Fz.sq {K : PySem.W.Frag} {B : List Addr} {H : Hp} {a : Addr} {vs : List V} (h : Fz K B H a vs) : SqL K H a vs := by
  rcases h with ⟨h, _⟩ | h
  · exact .inl h
  · exact .inr h
theorem Tz.sq {K : PySem.W.Frag} {H : Hp} {a : Addr} {vs : List V} (h : Tz K H a vs) : SqT K H a vs := by
  rcases h with ⟨ob, h, _⟩ | ⟨ob, ws, n, h1, h2, _, h4, h5, h6⟩
  · exact .inl (.inr ⟨ob, h⟩)
  · exact .inr ⟨ob, ws, n, h1, h2, h4, h5, h6⟩
mutual
inductive Rp (K : PySem.W.Frag) (B : List Addr) (H : Hp) : V → PyData → Prop
  | non : Rp K B H .non .none
  | bl (b : Bool) : Rp K B H (.bl b) (.bool b)
  | int (i : Int) : Rp K B H (.int i) (.int i)
  | str (x : Str) : Rp K B H (.str x) (.str x)
  | tup {a : Addr} {vs : List V} {ds : List PyData} : Tz K H a vs → vs.length ≤ sizeLine → RpL K B H vs ds → Rp K B H (.ref a) (.tuple ds)
  | lst {a : Addr} {vs : List V} {ds : List PyData} : Fz K B H a vs → vs.length ≤ sizeLine → RpL K B H vs ds → Rp K B H (.ref a) (.list ds)
  | dct {a : Addr} : Rd H a (.dK []) → a ∉ B → Rp K B H (.ref a) (.dict [])
inductive RpL (K : PySem.W.Frag) (B : List Addr) (H : Hp) : List V → List PyData → Prop
  | nil : RpL K B H [] []
  | cons {v : V} {d : PyData} {vs : List V} {ds : List PyData} : Rp K B H v d → RpL K B H vs ds → RpL K B H (v :: vs) (d :: ds)
end
/-- the heap has gone on: what is not in ρ stands; B' is B and what is new -/
structure Ext (ρ B : List Addr) (H : Hp) (ρ' B' : List Addr) (H' : Hp) : Prop where
  pre : ∃ more, ρ' = ρ ++ more
  sub : ∀ p ∈ B, p ∈ B'
  new : ∀ p ∈ B', p ∈ B ∨ H p = none
  newr : ∀ p ∈ ρ', p ∈ ρ ∨ H p = none
  keep : ∀ a o, H a = some o → (¬ Mut (some o) ∨ a ∉ ρ) → H' a = some o
  live : ∀ a, H' a = none → H a = none
section
variable {K : PySem.W.Frag} {ρ ρ' ρ1 ρ2 B B' B1 B2 : List Addr} {H H' H1 H2 : Hp} {a : Addr} {v : V} {d : PyData} {vs : List V} {ds : List PyData}
theorem Ext.refl : Ext ρ B H ρ B H := ⟨⟨[], by simp⟩, fun _ h => h, fun _ h => .inl h, fun _ h => .inl h, fun _ _ h _ => h, fun _ h => h⟩
theorem Ext.trans (x : Ext ρ B H ρ1 B1 H1) (y : Ext ρ1 B1 H1 ρ2 B2 H2) : Ext ρ B H ρ2 B2 H2 where
  pre := by
    obtain ⟨m1, e1⟩ := x.pre
    obtain ⟨m2, e2⟩ := y.pre
    exact ⟨m1 ++ m2, by rw [e2, e1, List.append_assoc]⟩
  sub := fun p h => y.sub p (x.sub p h)
  new := fun p h => by
    rcases y.new p h with h | h
    · exact x.new p h
    · exact .inr (x.live p h)
  newr := fun p h => by
    rcases y.newr p h with h | h
    · exact x.newr p h
    · exact .inr (x.live p h)
  keep := fun a o h k => by
    refine y.keep a o (x.keep a o h k) ?_
    rcases k with k | k
    · exact .inl k
    · refine .inr fun m => ?_
      rcases x.newr a m with q | q
      · exact k q
      · rw [q] at h; cases h
  live := fun a h => x.live a (y.live a h)
theorem Rd.ext_l {u : HO} (x : Ext ρ B H ρ' B' H') (hs : ∀ p ∈ ρ, p ∈ B) (h : Rd H a u) (hB : a ∉ B) : Rd H' a u ∧ a ∉ B' := by
  have hn : a ∉ ρ := fun m => hB (hs a m)
  have hl : H a ≠ none := by
    rcases h with h | ⟨o, h⟩ <;> rw [h] <;> simp
  refine ⟨?_, fun m => ?_⟩
  · rcases h with h | ⟨o, h⟩
    · exact .inl (x.keep _ _ h (.inr hn))
    · exact .inr ⟨o, x.keep _ _ h (.inr hn)⟩
  · rcases x.new a m with q | q
    · exact hB q
    · exact hl q
theorem Fz.ext (x : Ext ρ B H ρ' B' H') (hs : ∀ p ∈ ρ, p ∈ B) (h : Fz K B H a vs) : Fz K B' H' a vs := by
  rcases h with ⟨h, hB⟩ | h
  · exact .inl (Rd.ext_l x hs h hB)
  · exact .inr h
theorem Tz.ext (x : Ext ρ B H ρ' B' H') (h : Tz K H a vs) : Tz K H' a vs := by
  rcases h with ⟨ob, h, e⟩ | h
  · exact .inl ⟨ob, x.keep _ _ h (.inl (fun z => z)), e⟩
  · exact .inr h
mutual
theorem Rp.ext (x : Ext ρ B H ρ' B' H') (hs : ∀ p ∈ ρ, p ∈ B) : ∀ {v : V} {d : PyData}, Rp K B H v d → Rp K B' H' v d
  | _, _, .non => .non
  | _, _, .bl b => .bl b
  | _, _, .int i => .int i
  | _, _, .str s => .str s
  | _, _, .tup h l r => .tup (h.ext x) l (RpL.ext x hs r)
  | _, _, .lst h l r => .lst (h.ext x hs) l (RpL.ext x hs r)
  | _, _, .dct h hB => .dct (Rd.ext_l x hs h hB).1 (Rd.ext_l x hs h hB).2
theorem RpL.ext (x : Ext ρ B H ρ' B' H') (hs : ∀ p ∈ ρ, p ∈ B) : ∀ {vs : List V} {ds : List PyData}, RpL K B H vs ds → RpL K B' H' vs ds
  | _, _, .nil => .nil
  | _, _, .cons h r => .cons (Rp.ext x hs h) (RpL.ext x hs r)
end
mutual
/-- fewer that are barred -/
theorem Rp.less (hs : ∀ p ∈ B', p ∈ B) : ∀ {v : V} {d : PyData}, Rp K B H v d → Rp K B' H v d
  | _, _, .non => .non
  | _, _, .bl b => .bl b
  | _, _, .int i => .int i
  | _, _, .str s => .str s
  | _, _, .tup h l r => .tup h l (RpL.less hs r)
  | _, _, .lst h l r => .lst (h.imp (fun q => ⟨q.1, fun m => q.2 (hs _ m)⟩) id) l (RpL.less hs r)
  | _, _, .dct h hB => .dct h fun m => hB (hs _ m)
theorem RpL.less (hs : ∀ p ∈ B', p ∈ B) : ∀ {vs : List V} {ds : List PyData}, RpL K B H vs ds → RpL K B' H vs ds
  | _, _, .nil => .nil
  | _, _, .cons h r => .cons (Rp.less hs h) (RpL.less hs r)
end
mutual
theorem Rp.dp : ∀ {v : V} {d : PyData}, Rp K B H v d → SeqAt.shaped d = true → Dp K H v d
  | _, _, .non, _ => .non
  | _, _, .bl b, _ => .bl b
  | _, _, .int i, _ => .int i
  | _, _, .str s, _ => .str s
  | _, _, .tup (ds := ds) h l r, z => .tup h.sq (RpL.dp r (by
      have z := SeqAt.canLay_of_shaped z
      simpa only [PyData.canLay0] using z))
  | _, _, .lst (ds := ds) h l r, z => .lst h.sq (RpL.dp r (by
      have z := SeqAt.canLay_of_shaped z
      simpa only [PyData.canLay0] using z))
  | _, _, .dct _ _, z => by
      have z := SeqAt.canLay_of_shaped z
      simp [PyData.canLay0] at z
theorem Rp.dp0 : ∀ {v : V} {d : PyData}, Rp K B H v d → d.canLay0 = true → Dp K H v d
  | _, _, .non, _ => .non
  | _, _, .bl b, _ => .bl b
  | _, _, .int i, _ => .int i
  | _, _, .str s, _ => .str s
  | _, _, .tup (ds := ds) h l r, z => .tup h.sq (RpL.dp r (by simpa only [PyData.canLay0] using z))
  | _, _, .lst (ds := ds) h l r, z => .lst h.sq (RpL.dp r (by simpa only [PyData.canLay0] using z))
  | _, _, .dct _ _, z => by simp [PyData.canLay0] at z
theorem RpL.dp : ∀ {vs : List V} {ds : List PyData}, RpL K B H vs ds → PyData.canLayAll0 ds = true → DpAll K H vs ds
  | _, _, .nil, _ => .nil
  | _, _, .cons (d := d) (ds := ds) h r, z => by
    have z : PyData.canLay0 d = true ∧ PyData.canLayAll0 ds = true := by simpa [PyData.canLayAll0] using z
    exact .cons (Rp.dp0 h z.1) (RpL.dp r z.2)
end
theorem RpL.length : ∀ {vs : List V} {ds : List PyData}, RpL K B H vs ds → vs.length = ds.length
  | _, _, .nil => rfl
  | _, _, .cons _ r => by rw [List.length_cons, List.length_cons, RpL.length r]
theorem RpL.get : ∀ {vs : List V} {ds : List PyData} {i : Nat} {x : PyData}, RpL K B H vs ds → ds[i]? = some x → ∃ y, vs[i]? = some y ∧ Rp K B H y x
  | _, _, _, _, .nil, e => by simp at e
  | _, _, 0, _, .cons h _, e => by simp at e; subst e; exact ⟨_, rfl, h⟩
  | _, _, i + 1, x, .cons _ r, e => by
    obtain ⟨y, h1, h2⟩ := RpL.get (i := i) (x := x) r (by simpa using e)
    exact ⟨y, by simpa using h1, h2⟩
theorem RpL.get' : ∀ {vs : List V} {ds : List PyData} {i : Nat} {y : V}, RpL K B H vs ds → vs[i]? = some y → ∃ x, ds[i]? = some x ∧ Rp K B H y x
  | _, _, _, _, .nil, e => by simp at e
  | _, _, 0, _, .cons h _, e => by simp at e; subst e; exact ⟨_, rfl, h⟩
  | _, _, i + 1, x, .cons _ r, e => by
    obtain ⟨y, h1, h2⟩ := RpL.get' (i := i) (y := x) r (by simpa using e)
    exact ⟨y, by simpa using h1, h2⟩
theorem RpL.append : ∀ {vs ws : List V} {ds es : List PyData}, RpL K B H vs ds → RpL K B H ws es → RpL K B H (vs ++ ws) (ds ++ es)
  | _, _, _, _, .nil, r => r
  | _, _, _, _, .cons h r, q => .cons h (RpL.append r q)
theorem RpL.drop : ∀ {vs : List V} {ds : List PyData} (n : Nat), RpL K B H vs ds → RpL K B H (vs.drop n) (ds.drop n)
  | _, _, 0, r => by simpa using r
  | _, _, _ + 1, .nil => by simpa using RpL.nil
  | _, _, n + 1, .cons _ r => by simpa using RpL.drop n r
theorem RpL.take : ∀ {vs : List V} {ds : List PyData} (n : Nat), RpL K B H vs ds → RpL K B H (vs.take n) (ds.take n)
  | _, _, 0, _ => by simpa using RpL.nil
  | _, _, _ + 1, .nil => by simpa using RpL.nil
  | _, _, n + 1, .cons h r => by simpa using RpL.cons h (RpL.take n r)
theorem RpL.reverse : ∀ {vs : List V} {ds : List PyData}, RpL K B H vs ds → RpL K B H vs.reverse ds.reverse
  | _, _, .nil => .nil
  | _, _, .cons h r => by
    rw [List.reverse_cons, List.reverse_cons]
    exact (RpL.reverse r).append (.cons h .nil)
theorem RpL.set : ∀ {vs : List V} {ds : List PyData} (i : Nat), Rp K B H v d → RpL K B H vs ds → RpL K B H (vs.set i v) (ds.set i d)
  | _, _, _, _, .nil => .nil
  | _, _, 0, h, .cons _ r => .cons h r
  | _, _, i + 1, h, .cons q r => .cons q (RpL.set i h r)
theorem RpL.eraseIdx : ∀ {vs : List V} {ds : List PyData} (i : Nat), RpL K B H vs ds → RpL K B H (vs.eraseIdx i) (ds.eraseIdx i)
  | _, _, _, .nil => .nil
  | _, _, 0, .cons _ r => r
  | _, _, i + 1, .cons q r => .cons q (RpL.eraseIdx i r)
theorem RpL.dropLast {vs : List V} {ds : List PyData} (h : RpL K B H vs ds) : RpL K B H vs.dropLast ds.dropLast := by
  rw [List.dropLast_eq_take, List.dropLast_eq_take, h.length]
  exact h.take _
/-- the lists that may change: where each stands, what it holds -/
structure Sr (K : PySem.W.Frag) (B ρ : List Addr) (S : Sto) (H : Hp) : Prop where
  len : ρ.length = S.length
  nd : ρ.Nodup
  inB : ∀ p ∈ ρ, p ∈ B
  live : ∀ p ∈ B, H p ≠ none
  cell : ∀ (l : Nat) (p : Addr), ρ[l]? = some p → ∃ (vs : List V) (ds : List PyData), S[l]? = some ds ∧ H p = some (.lst vs) ∧ vs.length ≤ sizeLine ∧ RpL K B H vs ds
def RpE (K : PySem.W.Frag) (B ρ : List Addr) (H : Hp) (v : V) : E → Prop
  | .d x => Rp K B H v x
  | .ref l => ∃ p, ρ[l]? = some p ∧ v = .ref p
inductive RpEs (K : PySem.W.Frag) (B ρ : List Addr) (H : Hp) : List V → List E → Prop
  | nil : RpEs K B ρ H [] []
  | cons {v : V} {e : E} {vs : List V} {es : List E} : RpE K B ρ H v e → RpEs K B ρ H vs es → RpEs K B ρ H (v :: vs) (e :: es)
def RpG (K : PySem.W.Frag) (B ρ : List Addr) (H : Hp) (σ : L2.St) (Γ : Ev) : Prop :=
  σ.length = Γ.length ∧ ∀ i e, getV Γ i = some e → ∃ v, σ[i]? = some (some v) ∧ RpE K B ρ H v e
theorem RpE.ext {e : E} (x : Ext ρ B H ρ' B' H') (hs : ∀ p ∈ ρ, p ∈ B) (h : RpE K B ρ H v e) : RpE K B' ρ' H' v e := by
  cases e with
  | d y => exact Rp.ext x hs h
  | ref l =>
    obtain ⟨p, e1, e2⟩ := h
    obtain ⟨more, e3⟩ := x.pre
    exact ⟨p, by rw [e3, List.getElem?_append_left (List.getElem?_eq_some_iff.mp e1).1]; exact e1, e2⟩
theorem RpEs.ext (x : Ext ρ B H ρ' B' H') (hs : ∀ p ∈ ρ, p ∈ B) : ∀ {vs : List V} {es : List E}, RpEs K B ρ H vs es → RpEs K B' ρ' H' vs es
  | _, _, .nil => .nil
  | _, _, .cons h r => .cons (h.ext x hs) (RpEs.ext x hs r)
theorem RpG.ext {σ : L2.St} {Γ : Ev} (x : Ext ρ B H ρ' B' H') (hs : ∀ p ∈ ρ, p ∈ B) (h : RpG K B ρ H σ Γ) : RpG K B' ρ' H' σ Γ :=
  ⟨h.1, fun i e g => let ⟨v, h1, h2⟩ := h.2 i e g; ⟨v, h1, h2.ext x hs⟩⟩
theorem RpEs.length : ∀ {vs : List V} {es : List E}, RpEs K B ρ H vs es → vs.length = es.length
  | _, _, .nil => rfl
  | _, _, .cons _ r => by rw [List.length_cons, List.length_cons, RpEs.length r]
/-- data, or a list that may change, read now -/
inductive RpN (K : PySem.W.Frag) (B : List Addr) (H : Hp) : V → PyData → Prop
  | of {v : V} {d : PyData} : Rp K B H v d → RpN K B H v d
  | now {a : Addr} {vs : List V} {ds : List PyData} : H a = some (.lst vs) → vs.length ≤ sizeLine → RpL K B H vs ds → RpN K B H (.ref a) (.list ds)
theorem val_ok {S : Sto} {e : E} (z : Sr K B ρ S H) (h : RpE K B ρ H v e) (hv : val S e = some d) : RpN K B H v d := by
  cases e with
  | d y =>
    cases hv
    exact .of h
  | ref l =>
    obtain ⟨p, e1, rfl⟩ := h
    obtain ⟨vs, ds, e3, e4, e5, e6⟩ := z.cell l p e1
    have hv : (S[l]?).map PyData.list = some d := hv
    rw [e3] at hv
    cases hv
    exact .now e4 e5 e6
theorem RpN.list (h : RpN K B H v (.list ds)) : ∃ a vs, v = .ref a ∧ SqL K H a vs ∧ vs.length ≤ sizeLine ∧ RpL K B H vs ds := by
  cases h with
  | of h =>
    cases h with
    | lst h1 h2 h3 => exact ⟨_, _, rfl, h1.sq, h2, h3⟩
  | now h1 h2 h3 => exact ⟨_, _, rfl, .of h1, h2, h3⟩
theorem RpN.tup (h : RpN K B H v (.tuple ds)) : ∃ a vs, v = .ref a ∧ Tz K H a vs ∧ vs.length ≤ sizeLine ∧ RpL K B H vs ds ∧ Rp K B H v (.tuple ds) := by
  cases h with
  | of h =>
    cases h with
    | tup h1 h2 h3 => exact ⟨_, _, rfl, h1, h2, h3, .tup h1 h2 h3⟩
theorem RpN.less (h : RpN K B H v d) : Rp K [] H v d := by
  cases h with
  | of h => exact h.less (by simp)
  | now h1 h2 h3 => exact .lst (.inl ⟨.inl h1, by simp⟩) h2 (h3.less (by simp))
theorem val_less {S : Sto} {e : E} (z : Sr K B ρ S H) (h : RpE K B ρ H v e) (hv : val S e = some d) : Rp K [] H v d := (val_ok z h hv).less
inductive RpNs (K : PySem.W.Frag) (B : List Addr) (H : Hp) : List V → List PyData → Prop
  | nil : RpNs K B H [] []
  | cons {v : V} {d : PyData} {vs : List V} {ds : List PyData} : RpN K B H v d → RpNs K B H vs ds → RpNs K B H (v :: vs) (d :: ds)
theorem vals_ok {S : Sto} (z : Sr K B ρ S H) : ∀ {es : List E} {vs : List V} {ds : List PyData}, RpEs K B ρ H vs es → vals S es = some ds → RpNs K B H vs ds
  | [], _, _, .nil, e => by
    cases e
    exact .nil
  | e :: es, _, _, .cons h r, q => by
    unfold vals at q
    cases e1 : val S e with
    | none => rw [e1] at q; cases q
    | some x =>
      rw [e1] at q
      cases e2 : vals S es with
      | none => rw [Option.bind_some, e2] at q; cases q
      | some xs =>
        rw [Option.bind_some, e2] at q
        cases q
        exact .cons (val_ok z h e1) (vals_ok z r e2)
/-! ### the heap grows -/
theorem Ext.lay {p : Addr} {o : HO} (hp : H p = none) : Ext ρ B H ρ B (upd H p o) where
  pre := ⟨[], by simp⟩
  sub := fun _ h => h
  new := fun _ h => .inl h
  newr := fun _ h => .inl h
  keep := fun a u h _ => by
    rw [upd_ne (ne_of_none h hp)]
    exact h
  live := fun a h => by
    by_cases e : a = p
    · rw [e, upd_same] at h
      cases h
    · rw [upd_ne e] at h
      exact h
theorem Ext.same (h : Same H H') : Ext ρ B H ρ B H' where
  pre := ⟨[], by simp⟩
  sub := fun _ h => h
  new := fun _ h => .inl h
  newr := fun _ h => .inl h
  keep := fun a u e _ => h a u e
  live := fun a e => h.free e
theorem Sr.same {S : Sto} (z : Sr K B ρ S H) (h : Same H H') : Sr K B ρ S H' where
  len := z.len
  nd := z.nd
  inB := z.inB
  live := fun p m e => z.live p m (h.free e)
  cell := fun l p e => by
    obtain ⟨vs, ds, e1, e2, e3, e4⟩ := z.cell l p e
    exact ⟨vs, ds, e1, h p _ e2, e3, e4.ext (Ext.same (ρ := ρ) h) z.inB⟩
theorem same_lay {p : Addr} {o : HO} (hp : H p = none) : Same H (upd H p o) := fun a u h => by
  rw [upd_ne (ne_of_none h hp)]
  exact h
/-- a new list that stays -/
theorem Rp.laid {S : Sto} {p : Addr} (z : Sr K B ρ S H) (hp : H p = none) (hl : vs.length ≤ sizeLine) (r : RpL K B H vs ds) : Rp K B (upd H p (.lst vs)) (.ref p) (.list ds) :=
  .lst (.inl ⟨.inl upd_same, fun m => z.live p m hp⟩) hl (r.ext (Ext.lay (ρ := ρ) hp) z.inB)
/-- a new tuple -/
theorem Rp.laidT {S : Sto} {p : Addr} {ob : Obj} (z : Sr K B ρ S H) (hp : H p = none) (hd : ob.dict = none) (hl : vs.length ≤ sizeLine) (r : RpL K B H vs ds) : Rp K B (upd H p (.frz ob (.tup vs))) (.ref p) (.tuple ds) :=
  .tup (.inl ⟨ob, upd_same, hd⟩) hl (r.ext (Ext.lay (ρ := ρ) hp) z.inB)
/-- a new list that may change -/
theorem Ext.lay2 {p : Addr} {o : HO} (hp : H p = none) : Ext ρ B H (ρ ++ [p]) (p :: B) (upd H p o) where
  pre := ⟨[p], rfl⟩
  sub := fun _ h => List.mem_cons_of_mem _ h
  new := fun q h => by
    rcases List.mem_cons.mp h with e | h
    · exact .inr (e ▸ hp)
    · exact .inl h
  newr := fun q h => by
    rcases List.mem_append.mp h with h | h
    · exact .inl h
    · exact .inr ((List.mem_singleton.mp h) ▸ hp)
  keep := fun a u h _ => by
    rw [upd_ne (ne_of_none h hp)]
    exact h
  live := fun a h => by
    by_cases e : a = p
    · rw [e, upd_same] at h
      cases h
    · rw [upd_ne e] at h
      exact h
theorem Sr.lay2 {S : Sto} {p : Addr} (z : Sr K B ρ S H) (hp : H p = none) (hl : vs.length ≤ sizeLine) (r : RpL K B H vs ds) : Sr K (p :: B) (ρ ++ [p]) (S ++ [ds]) (upd H p (.lst vs)) where
  len := by simp [z.len]
  nd := by
    refine List.nodup_append.mpr ⟨z.nd, by simp, fun a ha b hb e => ?_⟩
    rw [List.mem_singleton.mp hb] at e
    subst e
    exact z.live _ (z.inB _ ha) hp
  inB := fun q h => by
    rcases List.mem_append.mp h with h | h
    · exact List.mem_cons_of_mem _ (z.inB q h)
    · rw [List.mem_singleton.mp h]
      exact List.mem_cons_self
  live := fun q m e => by
    by_cases h : q = p
    · rw [h, upd_same] at e
      cases e
    · rw [upd_ne h] at e
      rcases List.mem_cons.mp m with m | m
      · exact h m
      · exact z.live q m e
  cell := fun l q e => by
    have x : Ext ρ B H (ρ ++ [p]) (p :: B) (upd H p (.lst vs)) := Ext.lay2 hp
    by_cases hl2 : l < ρ.length
    · rw [List.getElem?_append_left hl2] at e
      obtain ⟨ws, es, e1, e2, e3, e4⟩ := z.cell l q e
      refine ⟨ws, es, ?_, ?_, e3, e4.ext x z.inB⟩
      · rw [List.getElem?_append_left (z.len ▸ hl2)]
        exact e1
      · rw [upd_ne (ne_of_none e2 hp)]
        exact e2
    · rw [List.getElem?_append_right (by omega)] at e
      have h0 : l - ρ.length = 0 := by
        cases h : l - ρ.length with
        | zero => rfl
        | succ n => rw [h] at e; cases e
      rw [h0] at e
      cases e
      refine ⟨vs, ds, ?_, upd_same, hl, r.ext x z.inB⟩
      rw [List.getElem?_append_right (by rw [← z.len]; omega), ← z.len, h0]
      rfl
theorem getElem?_inj {l : List Addr} {i j : Nat} {p : Addr} (nd : l.Nodup) (h1 : l[i]? = some p) (h2 : l[j]? = some p) : i = j := by
  obtain ⟨a1, a2⟩ := List.getElem?_eq_some_iff.mp h1
  obtain ⟨b1, b2⟩ := List.getElem?_eq_some_iff.mp h2
  exact (List.getElem_inj nd).mp (a2.trans b2.symm)
/-- a list changes -/
theorem Ext.wr {l : Nat} {p : Addr} {o : HO} {ws : List V} (hp : ρ[l]? = some p) (hw : H p = some (.lst ws)) : Ext ρ B H ρ B (upd H p o) where
  pre := ⟨[], by simp⟩
  sub := fun _ h => h
  new := fun _ h => .inl h
  newr := fun _ h => .inl h
  keep := fun a u h k => by
    have hne : a ≠ p := fun e => by
      rcases k with k | k
      · rw [e, hw] at h
        cases h
        exact k True.intro
      · exact k (e ▸ List.mem_of_getElem? hp)
    rw [upd_ne hne]
    exact h
  live := fun a h => by
    by_cases e : a = p
    · rw [e, upd_same] at h
      cases h
    · rw [upd_ne e] at h
      exact h
theorem Sr.wr {S : Sto} {l : Nat} {p : Addr} {ws : List V} (z : Sr K B ρ S H) (hp : ρ[l]? = some p) (hw : H p = some (.lst ws)) (hl : vs.length ≤ sizeLine) (r : RpL K B H vs ds) : Sr K B ρ (S.set l ds) (upd H p (.lst vs)) where
  len := by simp [z.len]
  nd := z.nd
  inB := z.inB
  live := fun q m e => z.live q m ((Ext.wr (B := B) hp hw).live q e)
  cell := fun k q e => by
    have x : Ext ρ B H ρ B (upd H p (.lst vs)) := Ext.wr hp hw
    by_cases hk : k = l
    · subst hk
      rw [hp] at e
      cases e
      refine ⟨vs, ds, ?_, upd_same, hl, r.ext x z.inB⟩
      have h1 : k < S.length := by
        rw [← z.len]
        exact (List.getElem?_eq_some_iff.mp hp).1
      rw [List.getElem?_set_self h1]
    · obtain ⟨us, es, e1, e2, e3, e4⟩ := z.cell k q e
      have hne : q ≠ p := fun h => by
        subst h
        exact hk (getElem?_inj z.nd e hp)
      refine ⟨us, es, ?_, ?_, e3, e4.ext x z.inB⟩
      · rw [List.getElem?_set_ne (Ne.symm hk)]
        exact e1
      · rw [upd_ne hne]
        exact e2
end
end Pv
set_option maxRecDepth 100000
set_option maxHeartbeats 4000000
/-! ## Rules that lay a tuple whose object is told -/
namespace Pv
open PySem PySem.Spec PyProof.Rows L2
section
variable {X : Cx} {pins : List (Addr × Obj)} {σ : L2.St} {H : Hp} {s : Shared}
/-- what is wanted of a new tuple -/
def newT (H : Hp) (xs : List V) (Q : VK) : Prop := ∀ (p : Addr) (ob : Obj), H p = none → ob.dict = none → Q (.ref p) (upd H p (.frz ob (.tup xs)))
theorem layT {xs : List V} {us : List Value} {t' : Nat} (I : Inv X pins σ H s) (r : Vals xs us) (z : xs.length ≤ sizeLine) :
    Inv X pins σ (upd H s.heap.objs.size (.frz { cls := .type "tuple", data := .seq us.toArray } (.tup xs))) { s with heap := s.heap.push { cls := .type "tuple", data := .seq us.toArray }, toks := t' } :=
  I.laid (t' := t') (fun b o e => Heap.get?_push_of_some _ e) (Nat.le_refl _)
    ⟨Heap.get?_push_size _ rfl, z, us, r, IsTup.new _ _⟩
theorem doneT {xs : List V} {us : List Value} {t' : Nat} {Q : VK} (I : Inv X pins σ H s) (r : Vals xs us) (z : xs.length ≤ sizeLine) (q : newT H xs Q) :
    EP X pins σ Q (.ref s.heap.objs.size) { s with heap := s.heap.push { cls := .type "tuple", data := .seq us.toArray }, toks := t' } :=
  ⟨.ref s.heap.objs.size, _, layT I r z, rfl, q _ _ (I.hok.fresh (Nat.le_refl _)) rfl⟩
theorem op_or {f : Value → Value → Sem Value} {r r' : R2} (h : OpR X f r) (h' : OpR X f r') : OpR X f fun x y H Q => r x y H Q ∨ r' x y H Q :=
  fun pins s σ H x y v u Q I rx ry q => q.elim (h pins s σ H x y v u Q I rx ry) (h' pins s σ H x y v u Q I rx ry)
theorem op_mono {f : Value → Value → Sem Value} {r r' : R2} (h : OpR X f r) (k : ∀ x y H Q, r' x y H Q → r x y H Q) : OpR X f r' :=
  fun pins s σ H x y v u Q I rx ry q => h pins s σ H x y v u Q I rx ry (k _ _ _ _ q)
/-- (a, b, ..) -/
def tTupF (t : TA) : TE := fun σ H Q => t σ H fun xs H1 => xs.length ≤ sizeLine ∧ newT H1 xs Q
theorem pe_tupF {es : List Expr} {t : TA} {k : Nat} {pos : Pos} (h : PA X es t) : PE X (.Tuple es k pos) (tTupF t) := by
  refine ⟨fun pins s σ H Q I hq => ?_⟩
  refine wpAny_Tuple_spliced (thn (h.run pos pins s σ H _ I hq) fun us s1 ⟨xs, H1, I1, r, z, q⟩ => ?_)
  exact ⟨r.length ▸ z, doneT I1 r z q⟩
/-- t + u -/
def rCatF (K : PySem.W.Frag) : R2 := fun x y H Q => ∃ (a b : Addr) (xs ys : List V), x = .ref a ∧ y = .ref b ∧ SqT K H a xs ∧ SqT K H b ys ∧ xs.length + ys.length ≤ sizeLine ∧
  (xs = [] → Q (.ref b) H) ∧ (xs ≠ [] → ys = [] → Q (.ref a) H) ∧ (xs ≠ [] → ys ≠ [] → newT H (xs ++ ys) Q)
theorem op_catF : OpR X (binaryOp .Add) (rCatF X.K) := by
  intro pins s σ H x y v u Q I rx ry ⟨a, b, xs, ys, ex, ey, ha, hb, hz, q0, q1, q2⟩
  subst ex ey
  cases rx
  cases ry
  obtain ⟨us, r1, p1, _⟩ := I.tuple ha
  obtain ⟨ws, r2, p2, _⟩ := I.tuple hb
  by_cases hx : xs = []
  · subst hx
    cases r1
    exact cat_tup0 p1 p2 ⟨.ref b, H, I, rfl, q0 rfl⟩
  · have hx' : us ≠ [] := fun z => hx (r1.nil_iff.mp z)
    refine HT.cat_tup p1 p2 hx' (fun z => ⟨.ref a, H, I, rfl, q1 hx (r2.nil_iff.mp z)⟩) (fun z => ?_) (by rw [← r1.length, ← r2.length]; exact hz)
    exact doneT (t' := s.toks) I (r1.append r2) (by rw [List.length_append]; exact hz) (q2 hx fun w => z (r2.nil_iff.mpr w))
/-- t[lo:hi] -/
def rSlF (K : PySem.W.Frag) : V → Option Int → Option Int → Hp → VK → Prop := fun x lo hi H Q => ∃ (a : Addr) (xs : List V), x = .ref a ∧ SqT K H a xs ∧
  (HT.sIx xs.length 0 lo = 0 ∧ HT.sIx xs.length xs.length hi = xs.length → Q (.ref a) H) ∧ newT H (cutV xs lo hi) Q
theorem sl_tupF : SlR X (rSlF X.K) := by
  intro pins s σ H x v vl vu lo hi sl Q I rx hs pl pu ⟨a, xs, ex, hx, q1, q2⟩
  subst ex
  by_cases hw : HT.sIx xs.length 0 lo = 0 ∧ HT.sIx xs.length xs.length hi = xs.length
  · exact sl_tupA pins s σ H _ v vl vu lo hi sl Q I rx hs pl pu ⟨a, xs, rfl, hx, q1, fun z => absurd hw z⟩
  · cases rx
    obtain ⟨us, r, ht, hz⟩ := I.tuple hx
    have hn : us.toArray.size = xs.length := by simpa using r.length.symm
    refine ⟨"tuple", _, PyProof.Rows.slot_tuple_getitem.lookup, ht.typeIs, HT.getItem_tuple_cut ht hs pl pu (by rw [hn]; exact hw) ?_ (by rw [hn]; exact hz)⟩
    rw [hn]
    exact doneT (t' := s.toks) I ((r.drop _).take _) (Nat.le_trans (cutV_length xs lo hi) hz) q2
theorem sl_listM : SlR X (rSlL X.K) := sl_list
/-- tuple(xs) -/
def rTupOf (K : PySem.W.Frag) : List V → Hp → VK → Prop := fun xs H Q => ∃ (p : Addr) (ys : List V), xs = [.ref p] ∧ ((SqL K H p ys ∧ newT H ys Q) ∨ (SqT K H p ys ∧ Q (.ref p) H))
theorem call_tupleF : CallR X (.type "tuple") (rTupOf X.K) := by
  intro pins s σ H xs us Q I r ⟨p, ys, exs, h⟩
  subst exs
  obtain ⟨u, rfl, rx⟩ := vals1 r
  cases rx
  rcases h with ⟨hq, q⟩ | ⟨hq, q⟩
  · obtain ⟨ws, r', pl, hz⟩ := I.list hq
    have hn := r'.length
    refine call_tuple_list pl.isList (fun h' kp => ?_) (by simp only [List.size_toArray] <;> omega)
    exact doneT (t' := s.toks) (I.kept (t' := s.toks) kp) r' hz q
  · obtain ⟨ws, r', pl, hz⟩ := I.tuple hq
    exact call_tuple_same pl ⟨.ref p, H, I, rfl, q⟩
/-- divmod -/
theorem call_divmodF : CallR X (.builtin "divmod") (fun xs H Q => ∃ i j : Int, xs = [.int i, .int j] ∧ (0 < j ∧ j < 1073741824) ∧ newT H [.int (i / j), .int (i % j)] Q) := by
  intro pins s σ H xs us Q I r ⟨i, j, exs, hj, q⟩
  subst exs
  obtain ⟨u, w', rfl, ⟨t, e1⟩, ⟨t', e2⟩⟩ := vals2 r
  subst e1 e2
  refine divmod_int (by omega) ?_ (.inl (PyProof.noPylong_small (by omega)))
  rw [Int.fdiv_eq_ediv_of_nonneg i (by omega), Int.fmod_eq_emod_of_nonneg i (by omega)]
  exact doneT (xs := [.int (i / j), .int (i % j)]) (us := [.int (i / j) s.toks, .int (i % j) (s.toks + 1)]) I (.cons ⟨_, rfl⟩ (.cons ⟨_, rfl⟩ .nil)) (by show 2 ≤ sizeLine; decide) q
/-- list.__add__ of any two lists -/
theorem addL (l b : Addr) (us ws : Array Value) (n m : Nat) (sl1 sl2 : Array (Option Value)) (hz : us.size + ws.size ≤ sizeLine) :
    Meets (Builtin.«list.__add__» ⟨[.ref l, .ref b], []⟩) fun _ R s => s.heap.get? l = some ⟨.type "list", none, .seq us n, sl1⟩ ∧ s.heap.get? b = some ⟨.type "list", none, .seq ws m, sl2⟩ ∧
      R (.ok (.ret (Value.ref s.heap.objs.size))) { s with heap := s.heap.push { cls := Value.type "list", data := Data.seq (us ++ ws) }, toks := s.toks } :=
  .of_wp fun prog w A R s h => by
    obtain ⟨hp, g, d, tk, os⟩ := s
    obtain ⟨h1, h2, h⟩ := h
    have f1 := AutoSeq1.idx_int
    have f3 := AutoSeq1.sub_list_list
    wp_walk using AutoSeq1.wpAny_loadPart' h1, AutoSeq1.wpAny_loadPart' h2
    exact ⟨_, rfl, h⟩
/-- list + list, whatever they are -/
def rCatL (K : PySem.W.Frag) : R2 := fun x y H Q => ∃ (a b : Addr) (xs ys : List V), x = .ref a ∧ y = .ref b ∧ SqL K H a xs ∧ SqL K H b ys ∧ xs.length + ys.length ≤ sizeLine ∧ ∀ p, H p = none → Q (.ref p) (upd H p (.lst (xs ++ ys)))
theorem op_catL : OpR X (binaryOp .Add) (rCatL X.K) := by
  intro pins s σ H x y v u Q I rx ry ⟨a, b, xs, ys, ex, ey, ha, hb, hz, q⟩
  subst ex ey
  cases rx
  cases ry
  obtain ⟨us, r1, p1, _⟩ := I.list ha
  obtain ⟨ws, r2, p2, _⟩ := I.list hb
  obtain ⟨⟨c1, d1, t1, sl1⟩, n1, o1, hc1, hd1, ht1⟩ := p1
  obtain ⟨⟨c2, d2, t2, sl2⟩, n2, o2, hc2, hd2, ht2⟩ := p2
  simp only at hc1 hd1 ht1 hc2 hd2 ht2
  subst hc1 hd1 ht1 hc2 hd2 ht2
  have hlen : us.toArray.size + ws.toArray.size ≤ sizeLine := by
    simp only [List.size_toArray]
    rw [← r1.length, ← r2.length]
    exact hz
  refine PySem.concat_meets ⟨_, o1, rfl⟩ ⟨_, o2, rfl⟩ noFill_list_add seq_list_add PySem.F.slot_list_add PySem.F.entry_list_add (PySem.F.args_list_add_2 _ _) (addL a b us.toArray ws.toArray n1 n2 sl1 sl2 hlen) ⟨o1, o2, ?_⟩
  have I1 : Inv X pins σ (upd H s.heap.objs.size (.lst (xs ++ ys))) { s with heap := s.heap.push { cls := .type "list", data := .seq (us ++ ws).toArray } } :=
    I.lnew (t' := s.toks) (r1.append r2) (by rw [List.length_append]; exact hz)
  have e : (us ++ ws).toArray = us.toArray ++ ws.toArray := by simp
  rw [e] at I1
  exact ⟨.ref _, _, I1, rfl, q _ I.fresh⟩
end
end Pv
set_option maxRecDepth 100000
set_option maxHeartbeats 4000000
/-! ## enumerate over a list or a tuple, each pair's object told -/
namespace Pv
open PySem PySem.Spec PyProof.Rows L2
/-- enumerate(v) makes its two objects -/
theorem enumNew {v : Value} {o : Obj} {H : Heap → Prop} (B : Begins v o H) :
    Meets (Builtin.«enumerate.__new__» ⟨[.type "enumerate", v], []⟩) fun _ R s => H s.heap ∧
      R (.ok (.ret (.ref (s.heap.push o).objs.size))) { s with heap := (s.heap.push o).push { cls := .type "enumerate", data := .fields #[.none, .bool false, .ref s.heap.objs.size, rawInt 0, .none, .none] } } :=
  .of_wp fun prog w A R s h => by
    obtain ⟨hp, g, d, tk, os⟩ := s
    obtain ⟨h1, h⟩ := h
    have hsub := sub_enumerate
    have go : ∀ {A' : Around} {E : Value → Shared → Prop} {Q : Value → Shared → Prop}, Q (.ref hp.objs.size) ⟨hp.push o, g, d, tk, os⟩ → wpAny (model prog w) A' (pyIter v) Q E ⟨hp, g, d, tk, os⟩ :=
      fun q => B.iter prog w _ _ _ _ h1 q
    wp_walk using go
    refine wpAny_stack_any fun st => wpAny_pure ?_
    split
    · rename_i c _ _ _ _ _
      cases (c == Value.type "enumerate") <;> (wp_walk using go; exact ⟨_, rfl, h⟩)
    · wp_walk using go
      exact ⟨_, rfl, h⟩
section
variable {prog : Program} {w : World} {A : Around} {E : Value → Shared → Prop} {s : Shared}
theorem enumCall {v : Value} {o : Obj} {H : Heap → Prop} {Q : Value → Shared → Prop} (B : Begins v o H) (h1 : H s.heap)
    (h : ∀ h', IsEnum h' (s.heap.objs.size + 1) s.heap.objs.size 0 .none → h'.get? s.heap.objs.size = some o →
      (∀ b o, s.heap.get? b = some o → h'.get? b = some o) → Q (.ref (s.heap.objs.size + 1)) { s with heap := h' }) : wpAny (model prog w) A (call (.type "enumerate") [v]) Q E s := by
  refine callType_new F.called_enumerate (by decide) (F.typeCall_enumerate_1 _) (F.newCall_enumerate_1 _) (fun obj => F.args_object_init_2 obj _) F.entry_enumerate_new (enumNew B) ⟨h1, ?_⟩
  have hz : (s.heap.push o).objs.size = s.heap.objs.size + 1 := Heap.size_push ..
  show _ ∧ _
  rw [hz]
  have he : IsEnum ((s.heap.push o).push { cls := .type "enumerate", data := .fields #[.none, .bool false, .ref s.heap.objs.size, rawInt 0, .none, .none] }) (s.heap.objs.size + 1) s.heap.objs.size 0 .none := by
    have q := Heap.get?_push_size (s.heap.push o) (o := { cls := .type "enumerate", data := .fields #[.none, .bool false, .ref s.heap.objs.size, rawInt 0, .none, .none] }) rfl
    rw [hz] at q
    exact q
  exact ⟨⟨_, he, rfl⟩, h _ he (Heap.get?_push_of_some _ (Heap.get?_push_size _ B.free)) fun b o x => Heap.get?_push_of_some _ (Heap.get?_push_of_some _ x)⟩
end
/-- what is walked, a list or a tuple at a: its items at each turn, how its iterator stands -/
structure Src (P : Program) (w : World) (K : PySem.W.Frag) (a : Addr) (Sq : Hp → List V → Prop) (Ti : Addr → Nat → Heap → Prop) : Prop where
  at_ : ∀ it i h h', Ti it i h → (∀ o, h.get? it = some o → h'.get? it = some o) → Ti it i h'
  obj : ∀ it i h, Ti it i h → ∃ o n vs, h.get? it = some o ∧ o.cls = .type n ∧ n ≠ "enumerate" ∧ o.data = .fields vs
  src : ∀ (X : Cx), X.prog = P → X.w = w → X.K = K → X.calm = true → ∀ (pins : List (Addr × Obj)) (s : Shared) (σ : L2.St) (H : Hp), Inv X pins σ H s → ∀ xs, Sq H xs →
    ∃ us : List Value, Vals xs us ∧ xs.length ≤ sizeLine ∧ (∃ o, Begins (.ref a) o (fun h => ∀ u, s.heap.get? a = some u → h.get? a = some u) ∧ ∀ h, h.get? s.heap.objs.size = some o → Ti s.heap.objs.size 0 h) ∧
      ∀ it i, Ti it i s.heap → ∃ (fp : List Addr) (Stt : Nat → Heap → Prop), Draws P w X.A.in1 it fp us.length (fun i v => us[i]? = some v) Stt ∧ Stt i s.heap ∧ (∀ i h, Stt i h → Ti it i h) ∧ ∀ b ∈ fp, b = it ∨ b = a
  same : ∀ (X : Cx) (pins : List (Addr × Obj)) (s : Shared) (σ : L2.St) (H : Hp), X.K = K → Inv X pins σ H s → ∀ xs ys, Sq H xs → Sq H ys → xs = ys
  noen : ∀ (X : Cx) (pins : List (Addr × Obj)) (s : Shared) (σ : L2.St) (H : Hp), X.K = K → Inv X pins σ H s → ∀ xs, Sq H xs → ∃ (o : Obj) (n : String), s.heap.get? a = some o ∧ o.cls = .type n ∧ n ≠ "enumerate"
theorem src_list {P : Program} {w : World} {K : PySem.W.Frag} (a : Addr) : Src P w K a (fun H xs => SqL K H a xs) (fun it i h => h.IsListIter it a i) where
  at_ := fun it i h h' t k => t.at fun o e => k o e
  obj := fun it i h t => by
    obtain ⟨o, e, c, d⟩ := t
    exact ⟨o, _, _, e, c, by decide, d⟩
  src := by
    intro X hP hw hK hc pins s σ H I xs hq
    subst hP hw hK
    obtain ⟨us, r, p, z⟩ := I.list hq
    refine ⟨us, r, z, ⟨_, ⟨fun prog w A E s' Q hl h => wpAny_pyIter_list (items := us.toArray) ?_ h, fun h h' x k u e => k _ _ (x u e), rfl⟩, fun h e => ⟨_, e, rfl, rfl⟩⟩, fun it i t => ?_⟩
    · obtain ⟨o, n, e, c, _, d⟩ := p
      exact ⟨o, hl o e, c, n, d⟩
    · have hne : a ≠ it := fun z => by
        obtain ⟨o, e, c, d⟩ := t
        obtain ⟨o', n, e', c', _⟩ := p
        subst z
        rw [e] at e'
        cases e'
        rw [c] at c'
        exact absurd c' (by decide)
      have D := Draws.list (prog := X.prog) (w := X.w) (A := X.A.in1) (I.ok.hd hc) it a hne us.toArray
      rw [List.size_toArray] at D
      refine ⟨_, _, ⟨D.live, D.frame, fun i s Q E hi hst hQ => D.item i s Q E hi hst fun x h' tk hx => hQ x h' tk (by simpa using hx), D.done⟩, ⟨t, p.isList⟩, fun i h q => q.1, fun b hb => by simpa using hb⟩
  same := fun X pins s σ H hK I xs ys h1 h2 => by
    subst hK
    exact I.list_inj h1 h2
  noen := fun X pins s σ H hK I xs h => by
    subst hK
    obtain ⟨us, r, ⟨o, n, e, c, _⟩, z⟩ := I.list h
    exact ⟨o, _, e, c, by decide⟩
theorem src_tup {P : Program} {w : World} {K : PySem.W.Frag} (a : Addr) : Src P w K a (fun H xs => SqT K H a xs) (fun it i h => h.IsTupleIter it a i) where
  at_ := fun it i h h' t k => t.at fun o e => k o e
  obj := fun it i h t => by
    obtain ⟨o, e, c, d⟩ := t
    exact ⟨o, _, _, e, c, by decide, d⟩
  src := by
    intro X hP hw hK hc pins s σ H I xs hq
    subst hP hw hK
    obtain ⟨us, r, p, z⟩ := I.tuple hq
    refine ⟨us, r, z, ⟨_, ⟨fun prog w A E s' Q hl h => wpAny_pyIter_tuple (items := us.toArray) ?_ h, fun h h' x k u e => k _ _ (x u e), rfl⟩, fun h e => ⟨_, e, rfl, rfl⟩⟩, fun it i t => ?_⟩
    · obtain ⟨o, e, c, n, d⟩ := p
      exact ⟨o, hl o e, c, n, d⟩
    · have hne : a ≠ it := fun z => by
        obtain ⟨o, e, c, d⟩ := t
        obtain ⟨o', e', c', _⟩ := p
        subst z
        rw [e] at e'
        cases e'
        rw [c] at c'
        exact absurd c' (by decide)
      have D := Draws.tuple (prog := X.prog) (w := X.w) (A := X.A.in1) (I.ok.hd hc) it a hne us.toArray
      rw [List.size_toArray] at D
      refine ⟨_, _, ⟨D.live, D.frame, fun i s Q E hi hst hQ => D.item i s Q E hi hst fun x h' tk hx => hQ x h' tk (by simpa using hx), D.done⟩, ⟨t, p⟩, fun i h q => q.1, fun b hb => by simpa using hb⟩
  same := fun X pins s σ H hK I xs ys h1 h2 => by
    subst hK
    exact I.tuple_inj h1 h2
  noen := fun X pins s σ H hK I xs h => by
    subst hK
    obtain ⟨us, r, ⟨o, e, c, _⟩, z⟩ := I.tuple h
    exact ⟨o, _, e, c, by decide⟩
/-- the pairs (i, the item at i) -/
def Itn (Sq : Hp → List V → Prop) : It :=
  ⟨fun i H => ∃ (xs : List V) (x : V), Sq H xs ∧ xs[i]? = some x,
   fun i H v H' => ∃ (T : Addr) (ob : Obj) (x : V), v = .ref T ∧ H T = none ∧ ob.dict = none ∧ H' = upd H T (.frz ob (.tup [.int (i : Nat), x])) ∧ ∀ xs, Sq H xs → xs[i]? = some x,
   fun i H => ∃ xs : List V, Sq H xs ∧ xs.length = i⟩
theorem turn_en {P : Program} {w : World} {K : PySem.W.Frag} {Sq : Hp → List V → Prop} {Ti : Addr → Nat → Heap → Prop} {elts : List Expr} {kk : Nat} {tpos : Pos} {a : Addr} (Z : Src P w K a Sq Ti) (e it : Addr) :
    Turn P w K (.Tuple elts kk tpos) (Itn Sq) [e, it] e (fun i h => (∃ old, IsEnum h e it ((i : Nat) : Int) old) ∧ Ti it i h ∧ e ≠ it) where
  mem := by simp
  obj := fun i h st b hb => by
    obtain ⟨⟨old, he⟩, t, _⟩ := st
    obtain ⟨o, n, vs, ho, _, _, hd⟩ := Z.obj it i h t
    have q : b = e ∨ b = it := by simpa using hb
    rcases q with z | z <;> rw [z]
    · exact ⟨_, he, fun v q => nomatch q⟩
    · exact ⟨o, ho, fun v q => by rw [hd] at q; cases q⟩
  keep := fun i h h' st k => ⟨let ⟨old, he⟩ := st.1; ⟨old, k e (by simp) _ he⟩, Z.at_ it i h h' st.2.1 fun o q => k it (by simp) o q, st.2.2⟩
  item := by
    intro X hP hw hK hc i pins s σ H E I hf st hg
    subst hP hw
    obtain ⟨⟨old, he⟩, t, hne⟩ := st
    obtain ⟨xs, x, hq, hx⟩ := hg
    obtain ⟨us, rv, hz, _, dr⟩ := Z.src X rfl rfl hK hc pins s σ H I xs hq
    obtain ⟨fp, Stt, D, hst, back, hfp⟩ := dr it i t
    obtain ⟨u, hu, ru⟩ := rv.get hx
    have hlt : i < us.length := (List.getElem?_eq_some_iff.mp hu).1
    have hel : e < s.heap.objs.size := Heap.lt_size he
    have hil : it < s.heap.objs.size := by
      obtain ⟨o, n, vs, q, _⟩ := Z.obj it i _ t
      exact Heap.lt_size q
    have hef : e ∉ fp := fun m => by
      rcases hfp e m with z | z
      · exact hne z
      · obtain ⟨o, n, q1, q2, q3⟩ := Z.noen X pins s σ H hK I xs hq
        rw [← z, he] at q1
        cases q1
        cases q2
        exact q3 rfl
    refine wpAny_pyNext_enum_itemD D he hst hlt hne hef fun y h' tk hy ho hs' hT hsz hk => ?_
    have ey : y = u := Option.some.inj (hy.symm.trans hu)
    subst ey
    refine ⟨_, rfl, wpAny_letOwnedTupleGo_enum (s := { s with heap := h', toks := tk + 1 }) ho fun h'' he' sb => ?_⟩
    have hT2 : h''.get? s.heap.objs.size = some { cls := .type "tuple", data := .seq #[.int i tk, y] } := (sb.2 _ (Nat.ne_of_gt hel)).trans hT
    have new : ObjOk X.prog X.w (upd H s.heap.objs.size (.frz { cls := .type "tuple", data := .seq #[.int i tk, y] } (.tup [.int (i : Nat), x]))) h'' s.heap.objs.size (.frz { cls := .type "tuple", data := .seq #[.int i tk, y] } (.tup [.int (i : Nat), x])) :=
      ⟨hT2, by show 2 ≤ sizeLine; decide, [.int i tk, y], .cons ⟨_, rfl⟩ (.cons ru .nil), ⟨_, hT2, rfl, _, rfl⟩⟩
    have I1 := I.turnedNew (t' := tk + 1) (ch := [e, it]) (fun b ob hb q => (sb.2 b fun z => hb (by simp [z])).trans (hk b ob (fun z => hb (by simp [z])) (fun z => hb (by simp [z])) q)) hf (Nat.le_refl _) new
    refine ⟨.ref s.heap.objs.size, _, I1, rfl, ⟨_, _, x, rfl, I.hok.fresh (Nat.le_refl _), rfl, rfl, fun ys hy => ?_⟩, ⟨⟨y, ?_⟩, ?_, hne⟩, fun b hb => ?_⟩
    · rw [Z.same X pins s σ H hK I ys xs hy hq]
      exact hx
    · have e1 : ((i + 1 : Nat) : Int) = (i : Int) + 1 := by omega
      rw [e1]
      exact he'
    · exact Z.at_ it (i + 1) h' h'' (back _ _ hs') fun o q => (sb.2 it (Ne.symm hne)).trans q
    · have hb' : b < s.heap.objs.size := by
        have q : b = e ∨ b = it := by simpa using hb
        rcases q with z | z <;> rw [z] <;> assumption
      rw [upd_ne (Nat.ne_of_lt hb')]
      exact (hf b hb).1
  done := by
    intro X hP hw hK hc i pins s σ H E I hf st hg
    subst hP hw
    obtain ⟨⟨old, he⟩, t, hne⟩ := st
    obtain ⟨xs, hq, hx⟩ := hg
    obtain ⟨us, rv, hz, _, dr⟩ := Z.src X rfl rfl hK hc pins s σ H I xs hq
    obtain ⟨fp, Stt, D, hst, back, hfp⟩ := dr it i t
    have hn : i = us.length := by rw [← rv.length, hx]
    rw [hn] at hst
    obtain ⟨f0, f1, f2, f3, f4, f5⟩ := hf it (by simp)
    exact wpAny_pyNext_enum_endD D he hst fun h' eb => ⟨rfl, I.turned (t' := s.toks) (fun b o hb q => eb b o hb q) f0 f1 f3 f4 f5⟩
  self := fun A i s Q E st h => by
    obtain ⟨⟨_, he⟩, _⟩ := st
    exact wpAny_pyIter_enum he h
/-- enumerate(e), e a list or a tuple -/
def iEn (K : PySem.W.Frag) (ta : TA) : TI := fun σ H R => ta σ H fun vs H1 => ∃ a : Addr, vs = [.ref a] ∧ ((∃ xs, SqL K H1 a xs ∧ R (Itn fun H xs => SqL K H a xs) H1) ∨ (∃ xs, SqT K H1 a xs ∧ R (Itn fun H xs => SqT K H a xs) H1))
theorem en_go {X : Cx} {pins : List (Addr × Obj)} {s : Shared} {σ : L2.St} {H : Hp} {R : It → Hp → Prop} {Sq : Hp → List V → Prop} {Ti : Addr → Nat → Heap → Prop} {a : Addr} {tpos : Pos} {elts : List Expr} {kk : Nat} (Z : Src X.prog X.w X.K a Sq Ti) (hc : X.calm = true) (I : Inv X pins σ H s)
    {xs : List V} (hq : Sq H xs) (q : R (Itn Sq) H) :
    wpAny (model X.prog X.w) X.A (call (.type "enumerate") [.ref a]) (fun v s1 => wpAny (model X.prog X.w) X.A (pyIter v) (PIE X pins σ (.Tuple elts kk tpos) R) X.xe s1) X.xe s := by
  obtain ⟨us, rv, hz, ⟨o, B, hTi⟩, _⟩ := Z.src X rfl rfl rfl hc pins s σ H I xs hq
  refine enumCall B (fun u e => e) fun h' he hit hk => wpAny_pyIter_enum he ?_
  have I2 : Inv X pins σ H { s with heap := h' } := I.kept (t' := s.toks) hk
  refine ⟨s.heap.objs.size + 1, [s.heap.objs.size + 1, s.heap.objs.size], _, _, H, rfl, I2, turn_en Z (s.heap.objs.size + 1) s.heap.objs.size, ⟨⟨.none, he⟩, hTi _ hit, Nat.succ_ne_self _⟩, fun b hb => ?_, q⟩
  have e' : b = s.heap.objs.size + 1 ∨ b = s.heap.objs.size := by simpa using hb
  have hle : s.heap.objs.size ≤ b := by
    rcases e' with z | z <;> rw [z]
    · exact Nat.le_add_right _ _
    · exact Nat.le_refl _
  exact I.fpOk hle (I.hok.fresh hle)
theorem pi_en {X : Cx} {e : Expr} {ta : TA} {p pos tpos : Pos} {elts : List Expr} {kk : Nat} (hg : Gl X "enumerate") (hm : X.mg "enumerate" = none) (hc : X.calm = true) (ha : PA X [e] ta) (hs : starEach [e] X.env = [(false, eval e X.env)]) :
    PI X (.Tuple elts kk tpos) (.Call (.Name "enumerate" p) [e] [] pos) (iEn X.K ta) := by
  refine ⟨fun pins s σ H R I h => ?_⟩
  refine Call_ (ld_blt I hg hm boot_enumerate (PyProof.Rows.callWith_type1 (thn (ha.run pos pins s σ H _ I h) fun us s1 ⟨vs, H1, I1, r1, q1⟩ => ?_) hs rfl))
  obtain ⟨a, ex, q⟩ := q1
  subst ex
  cases r1 with
  | cons r rr =>
    cases rr
    cases r
    rcases q with ⟨xs, hq, q⟩ | ⟨xs, hq, q⟩
    · exact en_go (src_list a) hc I1 hq q
    · exact en_go (src_tup a) hc I1 hq q
end Pv
set_option maxRecDepth 100000
set_option maxHeartbeats 4000000
/-! ## index, in, sorted, slices with a step, calls by keywords -/
namespace Pv
open PySem PySem.Spec PyProof.Rows L2
section
variable {X : Cx} {pins : List (Addr × Obj)} {σ : L2.St} {H : Hp} {s : Shared}
/-! ### in a tuple -/
def rInT (K : PySem.W.Frag) (neg : Bool) : R2 := fun x y H Q => ∃ d ds, Dp K H x d ∧ Dp K H y (.tuple ds) ∧ SeqAt.shaped d = true ∧ SeqAt.shaped (.tuple ds) = true ∧ Q (.bl (if neg then !(ds.any fun z => PyData.eqv z d) else ds.any fun z => PyData.eqv z d)) H
theorem in_room {d : PyData} {ds : List PyData} {A : Around} (sd : SeqAt.shaped d = true) (hu : A.units + 65 < cLine) : A.units + 1 + min (PyData.depthAll ds) d.depth < cLine := by
  have h1 := SeqAt.depth_of_shaped sd
  omega
theorem op_inT (hu : X.A.units + 65 < cLine) : OpR X (compareOp .In) (rInT X.K false) := by
  intro pins s σ H x y v u Q I rx ry ⟨d, ds, hd, he, sd, se, q⟩
  obtain ⟨as, r1⟩ := Dp.reads I d x v hd rx
  obtain ⟨bs, r2⟩ := Dp.reads I (.tuple ds) y u he ry
  exact SeqAt.in_tuple_reads r2 r1 (SeqAt.canLay_of_shaped se) (SeqAt.canLay_of_shaped sd) (in_room sd hu) ⟨.bl _, H, I, rfl, q⟩
theorem op_ninT (hu : X.A.units + 65 < cLine) : OpR X (compareOp .NotIn) (rInT X.K true) := by
  intro pins s σ H x y v u Q I rx ry ⟨d, ds, hd, he, sd, se, q⟩
  obtain ⟨as, r1⟩ := Dp.reads I d x v hd rx
  obtain ⟨bs, r2⟩ := Dp.reads I (.tuple ds) y u he ry
  exact SeqAt.notIn_tuple_reads r2 r1 (SeqAt.canLay_of_shaped se) (SeqAt.canLay_of_shaped sd) (in_room sd hu) ⟨.bl _, H, I, rfl, q⟩
/-! ### index -/
def rIxT2 (K : PySem.W.Frag) : V → List V → Hp → VK → Prop := fun x xs H Q => ∃ (a : Addr) (y : V) (d : PyData) (ds : List PyData) (j : Nat) (z : PyData), x = V.ref a ∧ xs = [y] ∧ Dp K H (V.ref a) (.tuple ds) ∧ Dp K H y d ∧
  SeqAt.shaped (.tuple ds) = true ∧ SeqAt.shaped d = true ∧ ds[j]? = some z ∧ PyData.eqv z d = true ∧ (∀ (m : Nat) (z' : PyData), m < j → ds[m]? = some z' → PyData.eqv z' d = false) ∧ Q (.int (j : Nat)) H
theorem mt_ixT (hu : X.A.units + 65 < cLine) : MtR X "tuple.index" (rIxT2 X.K) := by
  intro pins s σ H x xs v us Q I rx rxs ⟨a, y, d, ds, j, z, ex, exs, hl, hy, sl, sd, hz, hzj, hno, q⟩
  subst ex exs
  cases rx
  obtain ⟨uy, e1, ry⟩ := vals1 rxs
  subst e1
  obtain ⟨bs, r1⟩ := Dp.reads I d y uy hy ry
  have hxs : PyData.canLayAll0 ds = true := by simpa only [PyData.canLay0] using SeqAt.canLay_of_shaped sl
  cases hl with
  | tup hs ha =>
    obtain ⟨ws, rv, ⟨⟨cls, dd, data, sls⟩, ho, hc, n, hdt⟩, hlen⟩ := I.tuple hs
    simp only at hc hdt
    subst hc hdt
    obtain ⟨as, h4⟩ := Dp.readsAll I ds _ ws ha rv
    have hn : ws.length = ds.length := SeqAt.ReadsAll.length ds ws as h4
    have hmap : ws.map (SeqAt.readOf s.heap) = ds := SeqAt.readsAll_map ds ws as hxs h4
    have hjd : j < ds.length := (List.getElem?_eq_some_iff.mp hz).1
    have at_ : ∀ (m : Nat) (hm : m < ws.toArray.size), ∃ z', ds[m]? = some z' ∧ SeqAt.readOf s.heap ws.toArray[m] = z' := fun m hm => by
      have hml : m < ws.length := by simpa using hm
      refine ⟨SeqAt.readOf s.heap ws[m], ?_, by simp⟩
      rw [← hmap, List.getElem?_map, List.getElem?_eq_getElem hml]
      rfl
    have hj : j < ws.toArray.size := by simpa [hn] using hjd
    refine call_meets PySem.F.slot_tuple_index ⟨_, ho, rfl⟩ PySem.F.entry_tuple_index (PySem.F.args_tuple_index_2 _ _)
      (TI.tuple_indexAt a ws.toArray n dd sls uy (fun u => PyData.eqv (SeqAt.readOf s.heap u) d) j hj ?_ ?_)
      ⟨ho, SeqAt.items_eqAt (vs := ws.toArray) (show ReadsAll s.heap ws.toArray.toList ds as from h4) r1 hxs (SeqAt.canLay_of_shaped sd) (in_room sd hu), ⟨.int (j : Nat), H, I.tok _, ⟨_, rfl⟩, q⟩⟩
    · obtain ⟨z', e, e'⟩ := at_ j hj
      rw [hz] at e
      cases e
      rw [e']
      exact hzj
    · intro m hm hmj
      obtain ⟨z', e, e'⟩ := at_ m hm
      rw [e']
      exact hno m z' hmj e
theorem tz_on {a : Addr} {vs : List V} (I : Inv X pins σ H s) (h : Tz X.K H a vs) : s.TypeIs (.ref a) "tuple" ∧ ∀ b, Value.ref a = .ref b → ∃ ob, s.heap.get? b = some ob ∧ ob.dict = none := by
  rcases h with ⟨ob, h, e⟩ | ⟨ob, ws, n, h1, h2, h3, h4, _⟩
  · have k := I.hok a _ h
    obtain ⟨k1, k2⟩ := (show s.heap.get? a = some ob ∧ ObjOk X.prog X.w H s.heap a (.tup vs) from k)
    obtain ⟨_, us, _, o, e1, c, _⟩ := k2
    rw [k1] at e1
    cases e1
    exact ⟨⟨ob, k1, c⟩, fun b hb => by cases hb; exact ⟨ob, k1, e⟩⟩
  · exact ⟨⟨ob, I.kIn a ob h1, h2⟩, fun b hb => by cases hb; exact ⟨ob, I.kIn a ob h1, h3⟩⟩
/-- o.index(a), o a list or a tuple -/
def tIndex (K : PySem.W.Frag) (to : TE) (t : TA) : TE := fun σ H Q => to σ H fun x H1 =>
  (∃ p vs, x = .ref p ∧ SqL K H1 p vs ∧ t σ H1 fun ys H2 => rIndexD K x ys H2 Q) ∨ (∃ p vs, x = .ref p ∧ Tz K H1 p vs ∧ t σ H1 fun ys H2 => rIxT2 K x ys H2 Q)
theorem pe_index {o e : Expr} {to : TE} {t : TA} {apos cpos : Pos} (hu : X.A.units + 65 < cLine) (ho : PE X o to) (ha : PA X [e] t)
    (hbase : attributeBase o "index" X.env (eval o X.env) = eval o X.env) (hline : (apos.endLine == cpos.line) = true) (hs : starEach [e] X.env = [(false, eval e X.env)]) :
    PE X (.Call (.Attribute o "index" apos) [e] [] cpos) (tIndex X.K to t) := by
  refine ⟨fun pins s σ H Q I h => ?_⟩
  refine wpAny_Call_method_late hbase (by rw [hs]; rfl) hline rfl (thn (ho.run pins s σ H _ I h) fun v s1 ⟨x, H1, I1, r1, q1⟩ => ?_)
  rcases q1 with ⟨p, vs, ex, hq, q⟩ | ⟨p, vs, ex, hq, q⟩
  · subst ex
    cases r1
    obtain ⟨us, _, pl, _⟩ := I1.list hq
    refine ⟨"list", "list.index", PySem.F.plainAttrs_list, PySem.F.slot_list_index, PySem.F.type_list_index, pl.isList.typeIs, fun a e => ?_, ?_⟩
    · cases e
      obtain ⟨o, n, e, c, hd, _⟩ := pl
      exact ⟨o, e, hd⟩
    · have hA := ha.run cpos pins s1 σ H1 _ I1 q
      rw [hs] at hA ⊢
      exact Calls.callWith_builtin rfl (Calls.evalArgs_plain (thn hA fun us s2 ⟨zs, H2, I2, r2, q2⟩ => mt_indexD hu pins s2 σ H2 (.ref p) zs _ us Q I2 rfl r2 q2))
  · subst ex
    cases r1
    obtain ⟨h1, h2⟩ := tz_on I1 hq
    refine ⟨"tuple", "tuple.index", PySem.F.plainAttrs_tuple, PySem.F.slot_tuple_index, PySem.F.type_tuple_index, h1, h2, ?_⟩
    have hA := ha.run cpos pins s1 σ H1 _ I1 q
    rw [hs] at hA ⊢
    exact Calls.callWith_builtin rfl (Calls.evalArgs_plain (thn hA fun us s2 ⟨zs, H2, I2, r2, q2⟩ => mt_ixT hu pins s2 σ H2 (.ref p) zs _ us Q I2 rfl r2 q2))
/-! ### calls by keywords alone -/
def tCallK0 (m : Nat) (sp : Sp) (gV : List V → List V → List V) (tk : TA) : TE := fun σ H Q => tk σ H fun zs H2 => zs.length = m ∧ sp (gV [] zs) H2 Q E0
theorem pe_callK0 {k : Nat} {f : Addr} {fd : FuncData} {ps ks : List Str} {sp : Sp} {x : Str} {p pos : Pos} {kws : List Keyword} {tk : TA} {g : List Value → List Value → List Value} {gV : List V → List V → List V}
    (F : FnOk X.prog X.w X.K X.mg X.base CX0 k f fd ps sp) (hr : Room k X.A) (hg : Gl X x) (hm : X.mg x = some (.ref f)) (hk : PySem.W.keepIn X.K (.ref f) = true) (hb : KBn X.K fd ps 0 ks g gV) (hkw : PK X kws tk)
    (hall : (backToKw pos (keywordEach kws X.env)).all (·.1.isSome) = true) (hks : (backToKw pos (keywordEach kws X.env)).filterMap (·.1) = ks) (hdb : (x == ("__debug__" : Str)) = false)
    (hpl : ((backTo pos (starEach [] X.env)).any (·.1) || (backToKw pos (keywordEach kws X.env)).any (·.1.isNone)) = false) : PE X (.Call (.Name x p) [] kws pos) (tCallK0 ks.length sp gV tk) := by
  refine ⟨fun pins s σ H Q I h => ?_⟩
  refine wpAny_Call_Name_kw (ld_glob I hg hm ?_ hdb)
  refine PySem.W.callWith_KW0 (h₀ := X.base) I.ok.mod.kin hk hall (thn (hkw.run pos pins s σ H _ I h) fun ws s2 ⟨zs, H2, I2, rz, l2, q2⟩ => ⟨I2.kIn, ?_⟩) hpl
  rw [hks]
  exact run_fnN (us := []) (vs := []) F hr hb pass0 I2 .nil rz rfl l2 q2
end
/-! ### sorted of a tuple -/
section
variable {prog : Program} {w : World} {A : Around} {E : Value → Shared → Prop} {s : Shared}
theorem collectT {l : Addr} {vs : List Value} {Q : List Value → Shared → Prop} (ht : IsTup s.heap l vs.toArray)
    (h : Q vs { s with heap := (s.heap.push (seqObj "list" #[] 0)).update s.heap.objs.size (Obj.mapSeq (· ++ vs.toArray)) }) (hsz : vs.length ≤ sizeLine) : wpAny (model prog w) A (collect (.ref l)) Q E s := by
  obtain ⟨o, ho, hc, n, hd⟩ := id ht
  unfold collect
  refine wpAny_bind (wpAny_runValue (codeAny_builtin entry_proto_collect' ?_))
  show wpAny _ _ (do again (.builtin "list.__iadd__" ⟨[← newList [], .ref l], []⟩)) _ _ s
  refine wpAny_bind (wpAny_newList (wpAny_pure ⟨Code.quiet_builtin _ (by decide +kernel), codeAny_builtin entry_list_iadd' ?_⟩))
  show wpAny _ _ (Builtin.List.listExtendWith (.ref s.heap.objs.size) (.ref l) (.ref s.heap.objs.size)) _ _ { s with heap := s.heap.push (seqObj "list" #[] 0) }
  unfold Builtin.List.listExtendWith
  have ho' : (s.heap.push (seqObj "list" #[] 0)).get? l = some o := Heap.get?_push_of_some _ ho
  refine wpAny_bind (wpAny_typeOf (T := "tuple") ⟨o, ho', hc⟩ ?_)
  rw [if_pos (by
    have ht : (Value.type "tuple" == Value.type "tuple") = true := by rfl
    rw [ht]
    simp)]
  refine wpAny_bind (listItems_at ho' hd (wpAny_bind (listItems_at (xs := #[]) (n := 0) (Heap.get?_push_size _ rfl) rfl ?_)))
  rw [if_neg (by simp)]
  refine wpAny_bind (listUpdate_at (xs := #[]) (n := 0) (Heap.get?_push_size _ rfl) rfl (wpAny_pure ?_) (Nat.zero_le _) (by
    show (#[] ++ vs.toArray).size ≤ sizeLine + 1
    simp only [Array.size_append, List.size_toArray, List.length_nil]
    omega))
  show wpAny (model prog w) A (load s.heap.objs.size >>= fun o => (match o.data with
    | .seq xs _ => pure xs.toList
    | _ => unsupported "internal:collect")) Q E { s with heap := (s.heap.push (seqObj "list" #[] 0)).update s.heap.objs.size (Obj.mapSeq (· ++ vs.toArray)) }
  refine wpAny_bind (wpAny_load (get?_update_seq (Heap.get?_push_size _ rfl) _) ?_)
  have e : ((#[] : Array Value) ++ vs.toArray).toList = vs := by simp
  show wpAny _ _ (pure ((#[] : Array Value) ++ vs.toArray).toList) Q E _
  rw [e]
  exact wpAny_pure h
open SrtO in
theorem sortT {l : Addr} {vs : List Value} {ltv : Value → Value → Bool} {Q : Value → Shared → Prop} (O : Swo ltv) (ht : IsTup s.heap l vs.toArray) (hz : vs.length ≤ sizeLine)
    (hS : 2 ≤ vs.length → ∀ (h₁ : Heap) (a : Addr), h₁.get? a = some (seqObj "list" vs.toArray 0) → (∀ b o, s.heap.get? b = some o → b ≠ a ∧ h₁.get? b = some o) → SortableO prog w A.in1.in1 { s with heap := h₁ } a vs ltv)
    (h : ∀ out : List Value, Srtd ltv out → Stb ltv out vs → Q (.ref (s.heap.objs.size + 1)) { s with heap := sortedAll s.heap vs out.toArray }) : wpAny (model prog w) A (call (.builtin "sorted") [.ref l]) Q E s := by
  refine Calls.call_function_entry kind_sorted plain_sorted entry_sorted (args_sorted1 _) ?_
  unfold Builtin.«sorted»
  refine wpAny_bind (m := checkCount "sorted" 1 1 _) (wpAny_pure (wpAny_bind (collectT ht (wpAny_newList ?_ hz |> wpAny_bind) hz)))
  have hsz : ((s.heap.push (seqObj "list" #[] 0)).update s.heap.objs.size (Obj.mapSeq (· ++ vs.toArray))).objs.size = s.heap.objs.size + 1 := by
    rw [Heap.size_update, Heap.size_push]
  generalize hg : (s.heap.push (seqObj "list" #[] 0)).update s.heap.objs.size (Obj.mapSeq (· ++ vs.toArray)) = g at hsz
  have hoL : (g.push (seqObj "list" vs.toArray 0)).get? (s.heap.objs.size + 1) = some (seqObj "list" vs.toArray 0) := by
    rw [← hsz]
    exact Heap.get?_push_size _ rfl
  have stays : ∀ b o, s.heap.get? b = some o → b ≠ s.heap.objs.size + 1 ∧ (g.push (seqObj "list" vs.toArray 0)).get? b = some o := fun b o q => by
    have hlt : b < s.heap.objs.size := Heap.lt_size q
    refine ⟨Nat.ne_of_lt (Nat.lt_succ_of_lt hlt), Heap.get?_push_of_some _ ?_⟩
    rw [← hg, Heap.get?_update_ne _ _ _ _ (Nat.ne_of_lt hlt)]
    exact Heap.get?_push_of_some _ q
  show wpAny _ _ _ _ _ { s with heap := g.push (seqObj "list" vs.toArray 0) }
  rw [hsz]
  refine wpAny_bind (wpAny_holding (wpAny_call_entry slot_list_sort ⟨_, hoL, rfl⟩ entry_list_sort (list_sort_ord O hoL hz (fun h2 => hS h2 _ _ hoL stays) fun out hs hb => ⟨_, rfl, wpAny_pure ⟨_, rfl, ?_⟩⟩) (args_list_sort _)))
  have q := h out hs hb
  unfold sortedAll at q
  rw [← hg]
  exact q
end
section
variable {X : Cx}
/-- sorted(t) of ints -/
def rSrtT (K : PySem.W.Frag) : List V → Hp → VK → Prop := fun vs H Q => ∃ (a : Addr) (ns : List Int), vs = [V.ref a] ∧ SqT K H a (ns.map V.int) ∧
  ∀ (ns' : List Int) (p : Addr), ns'.Perm ns → ns'.Pairwise (· ≤ ·) → H p = none → Q (.ref p) (upd H p (.lst (ns'.map V.int)))
theorem cr_srtT : CallR X (.builtin "sorted") (rSrtT X.K) := by
  intro pins s σ H vs us Q I r ⟨a, ns, ev, hs, q⟩
  subst ev
  obtain ⟨ws, rv, ht, hz⟩ := I.tuple hs
  rw [Vals.ref1 r]
  have hi := rv.ints
  refine sortT SrtO.swo_int ht (by rw [← rv.length]; exact hz) (fun h2 h₁ a' _ _ => SrtO.ints_sortable hi h2) fun out h1 h2 => ?_
  obtain ⟨k1, k2, k3⟩ := SrtO.ints_out hi h1 h2
  obtain ⟨ep, he'⟩ := PyProof.Rows.sortedAll_at s.heap ws out.toArray
  have hl : ((out.map SrtO.iv).map V.int).length ≤ sizeLine := by
    rw [List.length_map] at hz ⊢
    rw [k2.length_eq]
    exact hz
  exact ⟨.ref _, upd H (s.heap.objs.size + 1) (.lst ((out.map SrtO.iv).map V.int)), I.laid (t' := s.toks) (fun _ _ => PyProof.Rows.sortedAll_old) (Nat.le_succ _) ⟨hl, out, ep, vals_of_ints k1, he'⟩, rfl, q _ _ k2 k3 (I.hok.fresh (Nat.le_succ _))⟩
end
/-! ### slices of tuples with a step -/
def pickS {α : Type} (xs : List α) (lo hi : Option Int) (c : Int) : List α :=
  (List.range (Builtin.Slice.slicePlaces (Builtin.Slice.sliceAdjust lo hi c xs.length).1 (Builtin.Slice.sliceAdjust lo hi c xs.length).2 c)).filterMap fun (k : Nat) => xs[((Builtin.Slice.sliceAdjust lo hi c xs.length).1 + (k : Int) * c).toNat]?
theorem Vals.pick {xs : List V} {us : List Value} (r : Vals xs us) (f : Nat → Nat) : ∀ l : List Nat, Vals (l.filterMap fun k => xs[f k]?) (l.filterMap fun k => us[f k]?)
  | [] => .nil
  | k :: l => by
    rw [List.filterMap_cons, List.filterMap_cons]
    cases e : xs[f k]? with
    | none =>
      rw [r.none_of e]
      exact Vals.pick r f l
    | some x =>
      obtain ⟨u, hu, q⟩ := r.get e
      rw [hu]
      exact .cons q (Vals.pick r f l)
theorem Vals.pickS {xs : List V} {us : List Value} (r : Vals xs us) (lo hi : Option Int) (c : Int) : Vals (Pv.pickS xs lo hi c) (Pv.pickS us lo hi c) := by
  unfold Pv.pickS
  rw [← r.length]
  exact Vals.pick r (fun k => ((Builtin.Slice.sliceAdjust lo hi c xs.length).1 + (k : Int) * c).toNat) _
theorem RpL.pick {K : PySem.W.Frag} {B : List Addr} {H : Hp} {xs : List V} {us : List PyData} (r : RpL K B H xs us) (f : Nat → Nat) : ∀ l : List Nat, RpL K B H (l.filterMap fun k => xs[f k]?) (l.filterMap fun k => us[f k]?)
  | [] => .nil
  | k :: l => by
    rw [List.filterMap_cons, List.filterMap_cons]
    cases e : xs[f k]? with
    | none =>
      have e2 : us[f k]? = none := by
        have h1 := List.getElem?_eq_none_iff.mp e
        exact List.getElem?_eq_none_iff.mpr (by rw [← r.length]; exact h1)
      rw [e2]
      exact RpL.pick r f l
    | some x =>
      obtain ⟨u, hu, q⟩ := r.get' e
      rw [hu]
      exact .cons q (RpL.pick r f l)
theorem RpL.pickS {K : PySem.W.Frag} {B : List Addr} {H : Hp} {xs : List V} {us : List PyData} (r : RpL K B H xs us) (lo hi : Option Int) (c : Int) : RpL K B H (Pv.pickS xs lo hi c) (Pv.pickS us lo hi c) := by
  unfold Pv.pickS
  rw [← r.length]
  exact RpL.pick r (fun k => ((Builtin.Slice.sliceAdjust lo hi c xs.length).1 + (k : Int) * c).toNat) _
theorem fmC {α β : Type} {f g : α → Option β} : ∀ {l : List α}, (∀ x ∈ l, f x = g x) → l.filterMap f = l.filterMap g
  | [], _ => rfl
  | x :: l, h => by
    rw [List.filterMap_cons, List.filterMap_cons, h x List.mem_cons_self, fmC fun y hy => h y (List.mem_cons_of_mem _ hy)]
theorem pick_rev {α : Type} (xs : List α) : pickS xs none none (-1) = xs.reverse := by
  unfold pickS
  have e : Builtin.Slice.sliceAdjust none none (-1) (xs.length : Int) = ((xs.length : Int) - 1, -1) := by
    unfold Builtin.Slice.sliceAdjust
    simp
  rw [e]
  have e2 : Builtin.Slice.slicePlaces ((xs.length : Int) - 1) (-1) (-1) = xs.length := by
    unfold Builtin.Slice.slicePlaces
    rw [if_neg (by decide)]
    by_cases h : (xs.length : Int) - 1 > -1
    · rw [if_pos h]
      simp
    · rw [if_neg h]
      simp
      omega
  show (List.range (Builtin.Slice.slicePlaces ((xs.length : Int) - 1) (-1) (-1))).filterMap (fun k : Nat => xs[((xs.length : Int) - 1 + (k : Int) * -1).toNat]?) = xs.reverse
  rw [e2]
  apply List.ext_getElem?
  intro i
  by_cases hi : i < xs.length
  · have : (List.range xs.length).filterMap (fun k : Nat => xs[((xs.length : Int) - 1 + (k : Int) * -1).toNat]?) = (List.range xs.length).map (fun k => xs.reverse[k]?.getD xs[i]) := by
      rw [← List.filterMap_eq_map]
      refine fmC fun k hk => ?_
      have hk := List.mem_range.mp hk
      have h1 : ((xs.length : Int) - 1 + (k : Int) * -1).toNat = xs.length - 1 - k := by omega
      rw [h1]
      show xs[xs.length - 1 - k]? = some (xs.reverse[k]?.getD xs[i])
      rw [List.getElem?_reverse hk]
      show xs[xs.length - 1 - k]? = some (xs[xs.length - 1 - k]?.getD xs[i])
      rw [List.getElem?_eq_getElem (by omega)]
      rfl
    rw [this, List.getElem?_map, List.getElem?_range hi, List.getElem?_eq_getElem (by simpa using hi)]
    simp [hi]
  · rw [List.getElem?_eq_none (by
      refine Nat.le_trans (List.length_filterMap_le _ _) ?_
      simp
      omega), List.getElem?_eq_none (by simpa using Nat.le_of_not_lt hi)]
theorem pick_shift {α : Type} (xs : List α) (a n : Nat) : (List.range n).filterMap (fun k : Nat => xs[a + 2 * k]?) = (List.range n).filterMap (fun k : Nat => (xs.drop a)[2 * k]?) := by
  refine fmC fun k _ => ?_
  rw [List.getElem?_drop]
theorem evens_pick : ∀ (xs : List PyData), (List.range ((xs.length + 1) / 2)).filterMap (fun k : Nat => xs[2 * k]?) = evens xs
  | [] => rfl
  | [a] => by simp [evens, List.range_succ]
  | a :: b :: r => by
    have e : ((a :: b :: r).length + 1) / 2 = (r.length + 1) / 2 + 1 := by
      simp only [List.length_cons]
      omega
    rw [e, List.range_succ_eq_map, List.filterMap_cons]
    show a :: List.filterMap _ (List.map Nat.succ _) = a :: evens r
    rw [List.filterMap_map, ← evens_pick r]
    congr 1
theorem pick_two (xs : List PyData) (k : Nat) (lo : Option Int) (h : (k = 0 ∧ (lo = none ∨ lo = some 0)) ∨ (k = 1 ∧ lo = some 1)) : pickS xs lo none 2 = evens (xs.drop k) := by
  have e : Builtin.Slice.sliceAdjust lo none 2 (xs.length : Int) = (((min k xs.length : Nat) : Int), (xs.length : Int)) := by
    unfold Builtin.Slice.sliceAdjust
    rcases h with ⟨rfl, rfl | rfl⟩ | ⟨rfl, rfl⟩
    · simp
    · simp
      omega
    · simp
      omega
  unfold pickS
  rw [e]
  show (List.range (Builtin.Slice.slicePlaces ((min k xs.length : Nat) : Int) (xs.length : Int) 2)).filterMap (fun j : Nat => xs[(((min k xs.length : Nat) : Int) + (j : Int) * 2).toNat]?) = _
  have e2 : Builtin.Slice.slicePlaces ((min k xs.length : Nat) : Int) (xs.length : Int) 2 = ((xs.drop k).length + 1) / 2 := by
    unfold Builtin.Slice.slicePlaces
    rw [if_pos (by decide), List.length_drop]
    split <;> omega
  rw [e2, ← evens_pick]
  have hk : ∀ j : Nat, (((min k xs.length : Nat) : Int) + (j : Int) * 2).toNat = min k xs.length + 2 * j := fun j => by omega
  simp only [hk]
  by_cases hl : k ≤ xs.length
  · rw [Nat.min_eq_left hl]
    exact pick_shift xs k _
  · have : (xs.drop k) = [] := List.drop_eq_nil_of_le (by omega)
    rw [this]
    rfl
section
variable {prog : Program} {w : World} {A : Around} {E : Value → Shared → Prop} {s : Shared}
theorem stepped {sl : Addr} {vl vu vs : Value} {lo hi : Option Int} {c : Int} {n : Nat} {Q : Int × Int × Nat → Shared → Prop} (hs : s.heap.IsSliceOf sl vl vu vs) (pl : IsPart vl lo) (pu : IsPart vu hi) (ps : IsPart vs (some c)) (h0 : c ≠ 0)
    (h : Q ((Builtin.Slice.sliceAdjust lo hi c n).1, c, Builtin.Slice.slicePlaces (Builtin.Slice.sliceAdjust lo hi c n).1 (Builtin.Slice.sliceAdjust lo hi c n).2 c) s) : wpAny (model prog w) A (Builtin.Slice.sliceApplied (.ref sl) (pure (n : Int))) Q E s := by
  obtain ⟨os, hos, hcs, hds⟩ := id hs
  unfold Builtin.Slice.sliceApplied Builtin.Slice.sliceFields
  refine wpAny_bind (wpAny_bind (wpAny_field hos hds (x := vl) rfl (wpAny_bind (wpAny_field hos hds (x := vu) rfl (wpAny_bind (wpAny_field hos hds (x := vs) rfl (wpAny_pure ?_)))))))
  refine wpAny_bind (HT.slicePart_ ps ?_)
  show wpAny _ _ (if (c == 0) = true then _ else _) _ _ s
  rw [if_neg (by simpa using h0)]
  exact wpAny_bind (HT.slicePart_ pl (wpAny_bind (HT.slicePart_ pu (wpAny_bind (wpAny_pure (wpAny_pure h))))))
theorem tupStep {t sl : Addr} {items : Array Value} {vl vu vs : Value} {lo hi : Option Int} {c : Int} {Q : Value → Shared → Prop} (ht : IsTup s.heap t items) (hs : s.heap.IsSliceOf sl vl vu vs) (pl : IsPart vl lo) (pu : IsPart vu hi) (ps : IsPart vs (some c)) (h0 : c ≠ 0) (h1 : c ≠ 1)
    (h : Q (.ref s.heap.objs.size) { s with heap := s.heap.push { cls := .type "tuple", data := .seq (pickS items.toList lo hi c).toArray } }) (hz : (pickS items.toList lo hi c).length ≤ sizeLine) : wpAny (model prog w) A (getItem (.ref t) (.ref sl)) Q E s := by
  have hk : sizeOk (.seq (pickS items.toList lo hi c).toArray) := by
    show (pickS items.toList lo hi c).toArray.size ≤ sizeLine
    rw [List.size_toArray]
    exact hz
  obtain ⟨os, hos, hcs, hds⟩ := id hs
  have hTs : s.TypeIs (.ref sl) "slice" := ⟨os, hos, hcs⟩
  unfold getItem
  try with_reducible refine wpAny_holding ?_
  first | refine wpAny_bind (wpAny_pure ?_) | skip
  refine wpAny_bind (wpAny_sequenceKey ht.typeIs (by decide) ?_)
  refine wpAny_bind (wpAny_callSpecial?_slot (name := Str.ofString "__getitem__") ht.typeIs PyProof.Rows.slot_tuple_getitem
    (wpAny_call_entry PyProof.Rows.slot_tuple_getitem ht.typeIs entry_tuple_getitem ?_ (args_tuple_getitem _ _)))
  show wpAny _ _ (Builtin.Tuple.tupleItemsOf (.ref t) >>= _) _ _ s
  refine wpAny_bind (tupleItemsOf_ ht (wpAny_bind (wpAny_typeOf hTs ?_)))
  rw [if_pos (by decide)]
  refine wpAny_bind (stepped hs pl pu ps h0 ?_)
  have hc : (c == 1) = false := by simpa using h1
  have hno : ∀ a n : Int, ∀ m : Nat, ¬ ((a == 0 && c == 1 && m == items.size) = true) := fun a n m z => by
    rw [hc, Bool.and_false, Bool.false_and] at z
    cases z
  show wpAny _ _ (if ((Builtin.Slice.sliceAdjust lo hi c items.size).1 == 0 && c == 1 && Builtin.Slice.slicePlaces (Builtin.Slice.sliceAdjust lo hi c items.size).1 (Builtin.Slice.sliceAdjust lo hi c items.size).2 c == items.size) = true then _ else _) _ _ s
  rw [if_neg (hno _ 0 _)]
  have e : ((List.range (Builtin.Slice.slicePlaces (Builtin.Slice.sliceAdjust lo hi c items.size).1 (Builtin.Slice.sliceAdjust lo hi c items.size).2 c)).filterMap fun (k : Nat) => items[((Builtin.Slice.sliceAdjust lo hi c items.size).1 + (k : Int) * c).toNat]?) = pickS items.toList lo hi c := by
    unfold pickS
    simp only [Array.length_toList, Array.getElem?_toList]
  rw [e]
  first
    | exact wpAny_bind (m := Builtin.Tuple.tupleExact _) (wpAny_newObj_type (wpAny_pure ⟨_, rfl, wpAny_pure h⟩) hk)
    | exact wpAny_bind (m := Builtin.Tuple.tupleExact _) (wpAny_newObj_type (wpAny_bind (wpAny_pure (wpAny_pure ⟨_, rfl, wpAny_pure h⟩))) hk)
    | exact wpAny_bind (wpAny_bind (m := Builtin.Tuple.tupleExact _) (wpAny_newObj_type (wpAny_pure (wpAny_pure ⟨_, rfl, wpAny_pure h⟩)) hk))
end
theorem pickS_le {α : Type} (xs : List α) (n : Nat) (f : Nat → Option α) (h : n ≤ xs.length) : ((List.range n).filterMap f).length ≤ xs.length :=
  Nat.le_trans (List.length_filterMap_le _ _) (by rw [List.length_range]; exact h)
section
variable {X : Cx}
/-- e[lo:hi:c], lo, hi, c written (or left out); e a tuple, or (c = -1, nothing else) a list -/
def tStep (K : PySem.W.Frag) (lo hi : Option Int) (c : Int) (te : TE) : TE := fun σ H Q => te σ H fun x H1 => ∃ a, x = .ref a ∧
  ((∃ xs, SqT K H1 a xs ∧ (pickS xs lo hi c).length ≤ sizeLine ∧ newT H1 (pickS xs lo hi c) Q) ∨ (lo = none ∧ hi = none ∧ c = -1 ∧ ∃ xs, SqL K H1 a xs ∧ ∀ p, H1 p = none → Q (.ref p) (upd H1 p (.lst xs.reverse))))
theorem pe_step {e : Expr} {te : TE} {lo hi : Option Expr} {l h c : Option Int} {k : Int} {st : Expr} {p3 pos : Pos} (he : PE X e te) (hl : PO X lo fun _ H Q => Q l H) (hh : PO X hi fun _ H Q => Q h H) (hs : PO X (some st) fun _ H Q => Q (some k) H) (h0 : k ≠ 0) (h1 : k ≠ 1)
    (ht : ∀ o i, subscripted (.Slice lo hi (some st) p3) false o i = operate [o, i] (getItem o i)) : PE X (.Subscript e (.Slice lo hi (some st) p3) pos) (tStep X.K l h k te) := by
  refine ⟨fun pins s σ H Q I hq => ?_⟩
  refine Subscript_ (thn (he.run pins s σ H _ I hq) fun v s1 ⟨x, H1, I1, r1, a, ex, q⟩ => ?_)
  subst ex
  cases r1
  refine wpAny_Slice (thn (hl.run pins s1 σ H1 (fun o H2 => o = l ∧ H2 = H1) I1 ⟨rfl, rfl⟩) fun vl s2 ⟨o1, H2, I2, pl, e1, e2⟩ => ?_)
  subst e1 e2
  refine thn (hh.run pins s2 σ H2 (fun o H3 => o = h ∧ H3 = H2) I2 ⟨rfl, rfl⟩) fun vu s3 ⟨o2, H3, I3, pu, e3, e4⟩ => ?_
  subst e3 e4
  refine thn (hs.run pins s3 σ H3 (fun o H4 => o = some k ∧ H4 = H3) I3 ⟨rfl, rfl⟩) fun vs s4 ⟨o3, H4, I4, ps, e5, e6⟩ => ?_
  subst e5 e6
  have I5 : Inv X pins σ H4 { s4 with heap := s4.heap.push { cls := .type "slice", data := .fields #[vl, vu, vs] } } := I4.kept (t' := s4.toks) fun b ob q => Heap.get?_push_of_some _ q
  show wpAny (model X.prog X.w) X.A (subscriptTail e (.Slice lo hi (some st) p3) (.ref a) (.ref s4.heap.objs.size)) (EP X pins σ Q) X.xe { s4 with heap := s4.heap.push { cls := .type "slice", data := .fields #[vl, vu, vs] } }
  rcases q with ⟨xs, hx, hz, q⟩ | ⟨el, eh, ek, xs, hx, q⟩
  · obtain ⟨us, r, pt, hz2⟩ := I5.tuple hx
    refine tail_any (ops := [.ref a, .ref s4.heap.objs.size]) pt.typeIs PyProof.Rows.slot_tuple_getitem.lookup ?_ (ht _ _)
    refine tupStep pt (Heap.IsSliceOf.new _ vl vu vs) pl pu ps h0 h1 ?_ ?_
    · exact doneT (t' := s4.toks) I5 (Vals.pickS r o1 o2 k) hz q
    · show (pickS us o1 o2 k).length ≤ _
      rw [← (Vals.pickS r o1 o2 k).length]
      exact hz
  · subst el eh ek
    obtain ⟨us, r, pt, hz⟩ := I5.list hx
    have hlen := r.length
    refine tail_any (ops := [.ref a, .ref s4.heap.objs.size]) pt.isList.typeIs PySem.slot_list_getitem.lookup ?_ (ht _ _)
    refine wpAny_getItem_list_slice pt.isList (Heap.IsSliceOf.new _ vl vu vs) pl pu ps (by decide) ?_ (by rw [List.size_toArray]; omega)
    rw [PySem.W.krv_pick]
    exact ⟨.ref _, _, I5.laid (t' := s4.toks) (o := .lst xs.reverse) (fun b ob q => Heap.get?_push_of_some _ q) (Nat.le_refl _) ⟨by rw [List.length_reverse]; exact hz, _, 0, r.reverse, Heap.get?_push_size _ rfl⟩, rfl, q _ (I5.hok.fresh (Nat.le_refl _))⟩
end
end Pv
set_option maxRecDepth 100000
set_option maxHeartbeats 4000000
/-! ## The readings of M's expressions -/
namespace Pv
open PySem PySem.Spec PyProof.Rows L2
theorem PEm {X : Cx} {e : Expr} {t t' : TE} (h : PE X e t) (k : ∀ σ H Q, t' σ H Q → t σ H Q) : PE X e t' := ⟨fun pins s σ H Q I q => h.run pins s σ H Q I (k _ _ _ q)⟩
theorem PTm {X : Cx} {e : Expr} {t t' : TT} (h : PT X e t) (k : ∀ σ H Q, t' σ H Q → t σ H Q) : PT X e t' := ⟨fun pins s σ H Q I q => h.run pins s σ H Q I (k _ _ _ q)⟩
theorem PAm {X : Cx} {e : List Expr} {t t' : TA} (h : PA X e t) (k : ∀ σ H Q, t' σ H Q → t σ H Q) : PA X e t' := ⟨fun pos pins s σ H Q I q => h.run pos pins s σ H Q I (k _ _ _ q)⟩
theorem bd_inv {α β : Type} {o : Option (α × Sto)} {f : α → Sto → Option β} {r : β} (h : bd o f = some r) : ∃ a S, o = some (a, S) ∧ f a S = some r := by
  cases o with
  | none => cases h
  | some p => exact ⟨p.1, p.2, rfl, h⟩
theorem ob_inv {α β : Type} {o : Option α} {f : α → Option β} {r : β} (h : o.bind f = some r) : ∃ a, o = some a ∧ f a = some r := by
  cases o with
  | none => cases h
  | some p => exact ⟨p, rfl, h⟩
theorem om_inv {α β : Type} {o : Option α} {f : α → β} {r : β} (h : o.map f = some r) : ∃ a, o = some a ∧ f a = r := by
  cases o with
  | none => cases h
  | some p => exact ⟨p, rfl, Option.some.inj h⟩
theorem if_inv {α : Type} {c : Prop} [Decidable c] {a : Option α} {r : α} (h : (if c then a else none) = some r) : c ∧ a = some r := by
  by_cases hc : c
  · rw [if_pos hc] at h
    exact ⟨hc, h⟩
  · rw [if_neg hc] at h
    cases h
/-- what is wanted behind a value e in the store S' -/
def Pst (K : PySem.W.Frag) (B ρ : List Addr) (H : Hp) (S' : Sto) (e : E) (Q : VK) : Prop := ∀ v H' B' ρ', Ext ρ B H ρ' B' H' → Sr K B' ρ' S' H' → RpE K B' ρ' H' v e → Q v H'
def tE (K : PySem.W.Frag) (cal : Cal) (m : M) : TE := fun σ H Q => ∃ B ρ S Γ e S', Sr K B ρ S H ∧ RpG K B ρ H σ Γ ∧ ev cal m Γ S = some (e, S') ∧ Pst K B ρ H S' e Q
def tT (K : PySem.W.Frag) (cal : Cal) (m : M) : TT := fun σ H Q => ∃ B ρ S Γ e S' k, Sr K B ρ S H ∧ RpG K B ρ H σ Γ ∧ ev cal m Γ S = some (e, S') ∧ truE S' e = some k ∧ ∀ H' B' ρ', Ext ρ B H ρ' B' H' → Sr K B' ρ' S' H' → Q k H'
def tL (K : PySem.W.Frag) (cal : Cal) (m : Ms) : TA := fun σ H Q => ∃ B ρ S Γ es S', Sr K B ρ S H ∧ RpG K B ρ H σ Γ ∧ evs cal m Γ S = some (es, S') ∧ ∀ vs H' B' ρ', Ext ρ B H ρ' B' H' → Sr K B' ρ' S' H' → RpEs K B' ρ' H' vs es → Q vs H'
section
variable {K : PySem.W.Frag} {cal : Cal} {B ρ : List Addr} {S S1 S2 S' : Sto} {H : Hp} {σ : L2.St} {Γ : Ev} {a b : M} {x y e : E} {Q : VK}
/-- on with a value, the heap gone on -/
theorem Pst.on {B1 ρ1 : List Addr} {H1 : Hp} (h : Pst K B ρ H S' e Q) (t : Ext ρ B H ρ1 B1 H1) : Pst K B1 ρ1 H1 S' e Q := fun v H' B' ρ' t' z r => h v H' B' ρ' (t.trans t') z r
theorem one {R : V → Hp → Prop} (z : Sr K B ρ S H) (g : RpG K B ρ H σ Γ) (ea : ev cal a Γ S = some (x, S1))
    (k : ∀ u H1 B1 ρ1, Ext ρ B H ρ1 B1 H1 → Sr K B1 ρ1 S1 H1 → RpG K B1 ρ1 H1 σ Γ → RpE K B1 ρ1 H1 u x → R u H1) : tE K cal a σ H R :=
  ⟨B, ρ, S, Γ, x, S1, z, g, ea, fun u H1 B1 ρ1 t z1 r => k u H1 B1 ρ1 t z1 (g.ext t z.inB) r⟩
theorem oneA {m : Ms} {xs : List E} {R : List V → Hp → Prop} (z : Sr K B ρ S H) (g : RpG K B ρ H σ Γ) (ea : evs cal m Γ S = some (xs, S1))
    (k : ∀ us H1 B1 ρ1, Ext ρ B H ρ1 B1 H1 → Sr K B1 ρ1 S1 H1 → RpG K B1 ρ1 H1 σ Γ → RpEs K B1 ρ1 H1 us xs → R us H1) : tL K cal m σ H R :=
  ⟨B, ρ, S, Γ, xs, S1, z, g, ea, fun u H1 B1 ρ1 t z1 r => k u H1 B1 ρ1 t z1 (g.ext t z.inB) r⟩
theorem two {R : V → V → Hp → Prop} (z : Sr K B ρ S H) (g : RpG K B ρ H σ Γ) (ea : ev cal a Γ S = some (x, S1)) (eb : ev cal b Γ S1 = some (y, S2))
    (k : ∀ u v H1 B1 ρ1, Ext ρ B H ρ1 B1 H1 → Sr K B1 ρ1 S2 H1 → RpG K B1 ρ1 H1 σ Γ → RpE K B1 ρ1 H1 u x → RpE K B1 ρ1 H1 v y → R u v H1) : tE K cal a σ H fun u H1 => tE K cal b σ H1 fun v H2 => R u v H2 :=
  one z g ea fun u H1 B1 ρ1 t1 z1 g1 r1 => one z1 g1 eb fun v H2 B2 ρ2 t2 z2 g2 r2 => k u v H2 B2 ρ2 (t1.trans t2) z2 g2 (r1.ext t2 z1.inB) r2
/-- an end with the heap as it is -/
theorem Pst.now {v : V} (h : Pst K B ρ H S' e Q) (z : Sr K B ρ S' H) (r : RpE K B ρ H v e) : Q v H := h v H B ρ Ext.refl z r
/-- an end with a new list that stays -/
theorem Pst.lst {vs : List V} {ds : List PyData} (h : Pst K B ρ H S' (.d (.list ds)) Q) (z : Sr K B ρ S' H) (hl : vs.length ≤ sizeLine) (r : RpL K B H vs ds) : ∀ p, H p = none → Q (.ref p) (upd H p (.lst vs)) :=
  fun p hp => h _ _ _ _ (Ext.lay hp) (z.same (same_lay hp)) (Rp.laid z hp hl r)
theorem Pst.tup {vs : List V} {ds : List PyData} (h : Pst K B ρ H S' (.d (.tuple ds)) Q) (z : Sr K B ρ S' H) (hl : vs.length ≤ sizeLine) (r : RpL K B H vs ds) : newT H vs Q :=
  fun p ob hp hd => h _ _ _ _ (Ext.lay hp) (z.same (same_lay hp)) (Rp.laidT z hp hd hl r)
theorem Pst.lst2 {vs : List V} {ds : List PyData} (h : Pst K B ρ H (S ++ [ds]) (.ref S.length) Q) (z : Sr K B ρ S H) (hl : vs.length ≤ sizeLine) (r : RpL K B H vs ds) : ∀ p, H p = none → Q (.ref p) (upd H p (.lst vs)) :=
  fun p hp => h _ _ (p :: B) (ρ ++ [p]) (Ext.lay2 hp) (z.lay2 hp hl r) ⟨p, by rw [← z.len]; simp, rfl⟩
theorem RpNs.length {vs : List V} {ds : List PyData} (h : RpNs K B H vs ds) : vs.length = ds.length := by
  induction h with
  | nil => rfl
  | cons _ _ ih => rw [List.length_cons, List.length_cons, ih]
theorem lineN_eq : lineN = sizeLine := by rw [sizeLine_eq]; rfl
end
/-! ### names and constants -/
section
variable {X : Cx} {cal : Cal}
theorem pe_con {c : PyData} {e : Expr} {v : V} (h : PE X e (tC v)) (r : ∀ B H, Rp X.K B H v c) : PE X e (tE X.K cal (.con c)) := by
  refine PEm h fun σ H Q ⟨B, ρ, S, Γ, e, S', z, g, q, k⟩ => ?_
  have q : some (E.d c, S) = some (e, S') := by simpa only [ev] using q
  cases q
  exact k.now z (r B H)
theorem pe_glo {n : Str} {c : PyData} {e : Expr} {v : V} (h : PE X e (tC v)) (r : ∀ B H, Rp X.K B H v c) : PE X e (tE X.K cal (.glob n c)) := by
  refine PEm h fun σ H Q ⟨B, ρ, S, Γ, e, S', z, g, q, k⟩ => ?_
  have q : some (E.d c, S) = some (e, S') := by simpa only [ev] using q
  cases q
  exact k.now z (r B H)
theorem pe_v {i : Nat} {e : Expr} (h : PE X e (tVar i)) : PE X e (tE X.K cal (.var i)) := by
  refine PEm h fun σ H Q ⟨B, ρ, S, Γ, e, S', z, g, q, k⟩ => ?_
  have q : (getV Γ i).map (fun e => (e, S)) = some (e, S') := by simpa only [ev] using q
  obtain ⟨e1, h1, h2⟩ := om_inv q
  cases h2
  obtain ⟨v, h3, h4⟩ := g.2 i _ h1
  exact ⟨v, h3, k.now z h4⟩
/-! ### displays -/
variable {es : Ms} {l : List Expr} {a b : M} {ea eb : Expr} {pos : Pos}
theorem dats_ok {K : PySem.W.Frag} {B ρ : List Addr} {H : Hp} : ∀ {es : List E} {vs : List V} {ds : List PyData}, RpEs K B ρ H vs es → dats es = some ds → RpL K B H vs ds
  | [], _, _, .nil, e => by
    cases e
    exact .nil
  | .d x :: es, _, _, .cons h r, q => by
    have q : (dats es).map (x :: ·) = some _ := q
    obtain ⟨xs, h1, h2⟩ := om_inv q
    cases h2
    exact .cons h (dats_ok r h1)
theorem pe_mtup {k : Nat} (h : PA X l (tL X.K cal es)) : PE X (.Tuple l k pos) (tE X.K cal (.tup es)) := by
  refine PEm (pe_tupF h) fun σ H Q ⟨B, ρ, S, Γ, e, S', z, g, q, k⟩ => ?_
  have q : bd (evs cal es Γ S) (fun xs S1 => (dats xs).bind fun ds => if ds.length ≤ lineN then some (E.d (.tuple ds), S1) else none) = some (e, S') := by simpa only [ev] using q
  obtain ⟨xs, S1, h1, q⟩ := bd_inv q
  obtain ⟨ds, h2, q⟩ := ob_inv q
  obtain ⟨h3, q⟩ := if_inv q
  cases q
  refine oneA z g h1 fun us H1 B1 ρ1 t z1 g1 r => ?_
  have rl := dats_ok r h2
  have hl : us.length ≤ sizeLine := by rw [rl.length, ← lineN_eq]; exact h3
  exact ⟨hl, (k.on t).tup z1 hl rl⟩
theorem pe_mlst (h : PA X l (tL X.K cal es)) : PE X (.List l pos) (tE X.K cal (.lst es)) := by
  refine PEm (pe_lst h) fun σ H Q ⟨B, ρ, S, Γ, e, S', z, g, q, k⟩ => ?_
  have q : bd (evs cal es Γ S) (fun xs S1 => (dats xs).bind fun ds => if ds.length ≤ lineN then some (E.d (.list ds), S1) else none) = some (e, S') := by simpa only [ev] using q
  obtain ⟨xs, S1, h1, q⟩ := bd_inv q
  obtain ⟨ds, h2, q⟩ := ob_inv q
  obtain ⟨h3, q⟩ := if_inv q
  cases q
  refine oneA z g h1 fun us H1 B1 ρ1 t z1 g1 r => ?_
  have rl := dats_ok r h2
  have hl : us.length ≤ sizeLine := by rw [rl.length, ← lineN_eq]; exact h3
  exact ⟨hl, (k.on t).lst z1 hl rl⟩
theorem pe_mlstM (h : PA X l (tL X.K cal es)) : PE X (.List l pos) (tE X.K cal (.lstM es)) := by
  refine PEm (pe_lst h) fun σ H Q ⟨B, ρ, S, Γ, e, S', z, g, q, k⟩ => ?_
  have q : bd (evs cal es Γ S) (fun xs S1 => (dats xs).bind fun ds => if ds.length ≤ lineN then some (E.ref S1.length, S1 ++ [ds]) else none) = some (e, S') := by simpa only [ev] using q
  obtain ⟨xs, S1, h1, q⟩ := bd_inv q
  obtain ⟨ds, h2, q⟩ := ob_inv q
  obtain ⟨h3, q⟩ := if_inv q
  cases q
  refine oneA z g h1 fun us H1 B1 ρ1 t z1 g1 r => ?_
  have rl := dats_ok r h2
  have hl : us.length ≤ sizeLine := by rw [rl.length, ← lineN_eq]; exact h3
  exact ⟨hl, (k.on t).lst2 z1 hl rl⟩
theorem pe_mdic0 : PE X (.Dict [] [] pos) (tE X.K cal .dic0) := by
  refine PEm pe_dnewK fun σ H Q ⟨B, ρ, S, Γ, e, S', z, g, q, k⟩ => ?_
  have q : some (E.d (.dict []), S) = some (e, S') := by simpa only [ev] using q
  cases q
  intro d hd
  exact k _ _ _ _ (Ext.lay hd) (z.same (same_lay hd)) (.dct (.inl upd_same) fun m => z.live d m hd)
/-! ### operators -/
theorem pa_mnil : PA X [] (tL X.K cal .nil) := by
  refine PAm pa_nil fun σ H Q ⟨B, ρ, S, Γ, es, S', z, g, q, k⟩ => ?_
  have q : some (([] : List E), S) = some (es, S') := by simpa only [evs] using q
  cases q
  exact k _ _ _ _ Ext.refl z .nil
theorem pa_mcons (h1 : PE X ea (tE X.K cal a)) (h2 : PA X l (tL X.K cal es)) (hs : starEach (ea :: l) X.env = (false, eval ea X.env) :: starEach l X.env) : PA X (ea :: l) (tL X.K cal (.cons a es)) := by
  refine PAm (pa_cons h1 h2 hs) fun σ H Q ⟨B, ρ, S, Γ, zs, S', z, g, q, k⟩ => ?_
  have q : bd (ev cal a Γ S) (fun x S1 => bd (evs cal es Γ S1) fun xs S2 => some (x :: xs, S2)) = some (zs, S') := by simpa only [evs] using q
  obtain ⟨x, S1, e1, q⟩ := bd_inv q
  obtain ⟨xs, S2, e2, q⟩ := bd_inv q
  cases q
  refine one z g e1 fun u H1 B1 ρ1 t z1 g1 r => oneA z1 g1 e2 fun us H2 B2 ρ2 t2 z2 g2 r2 => ?_
  exact k _ _ _ _ (t.trans t2) z2 (.cons (r.ext t2 z1.inB) r2)
/-- + - * .. -/
def rBin (K : PySem.W.Frag) (op : Operator) : R2 := fun x y H Q => ∃ u v r B ρ S, Sr K B ρ S H ∧ RpN K B H x u ∧ RpN K B H y v ∧ binD op u v = some r ∧ Pst K B ρ H S (.d r) Q
theorem binD_inv {op : Operator} {u v r : PyData} (h : binD op u v = some r) :
    (∃ i j, u = .int i ∧ v = .int j) ∨ (op = .Add ∧ ∃ xs ys, u = .tuple xs ∧ v = .tuple ys) ∨ (op = .Add ∧ ∃ xs ys, u = .list xs ∧ v = .list ys) := by
  unfold binD at h
  split at h <;> first | exact .inl ⟨_, _, rfl, rfl⟩ | exact .inr (.inl ⟨rfl, _, _, rfl, rfl⟩) | exact .inr (.inr ⟨rfl, _, _, rfl, rfl⟩) | cases h
theorem RpN.int {K : PySem.W.Frag} {B : List Addr} {H : Hp} {x : V} {i : Int} (h : RpN K B H x (.int i)) : x = .int i := by
  cases h with
  | of h => cases h; rfl
theorem op_bin {op : Operator} : OpR X (binaryOp op) (rBin X.K op) := by
  intro pins s σ H x y v u Q I rx ry ⟨du, dv, r, B, ρ, S, z, hx, hy, hb, k⟩
  rcases binD_inv hb with ⟨i, j, eu, ev⟩ | ⟨eo, xs, ys, eu, ev⟩ | ⟨eo, xs, ys, eu, ev⟩
  · subst eu ev
    obtain rfl := hx.int
    obtain rfl := hy.int
    have fin : ∀ n : Int, r = .int n → Q (.int n) H := fun n e => by
      subst e
      exact k.now z (.int n)
    cases op <;> simp only [binD, reduceCtorEq] at hb
    · cases hb
      exact op_add pins s σ H _ _ v u Q I rx ry ⟨i, j, rfl, rfl, fin _ rfl⟩
    · cases hb
      exact op_sub pins s σ H _ _ v u Q I rx ry ⟨i, j, rfl, rfl, fin _ rfl⟩
    · obtain ⟨hc, e⟩ := if_inv hb
      cases e
      exact op_mul pins s σ H _ _ v u Q I rx ry ⟨i, j, rfl, rfl, hc, fin _ rfl⟩
    · obtain ⟨hc, e⟩ := if_inv hb
      cases e
      exact op_modN pins s σ H _ _ v u Q I rx ry ⟨i, j, rfl, rfl, hc, fin _ rfl⟩
    · obtain ⟨hc, e⟩ := if_inv hb
      cases e
      exact op_pow pins s σ H _ _ v u Q I rx ry ⟨i, j, rfl, rfl, hc, fin _ rfl⟩
    · obtain ⟨hc, e⟩ := if_inv hb
      cases e
      exact op_fdivN pins s σ H _ _ v u Q I rx ry ⟨i, j, rfl, rfl, hc, fin _ rfl⟩
  · subst eu ev eo
    obtain ⟨a, vs, rfl, h1, h2, h3, h4⟩ := hx.tup
    obtain ⟨b, ws, rfl, h5, h6, h7, h8⟩ := hy.tup
    obtain ⟨hl, e⟩ := if_inv (show (if xs.length + ys.length ≤ lineN then some (PyData.tuple (xs ++ ys)) else none) = some r from hb)
    cases e
    rw [lineN_eq, ← h3.length, ← h7.length] at hl
    refine op_catF pins s σ H _ _ v u Q I rx ry ⟨a, b, vs, ws, rfl, rfl, h1.sq, h5.sq, hl, fun e => ?_, fun e e' => ?_, fun e e' => ?_⟩
    · subst e
      cases h3
      exact k.now z h8
    · subst e'
      cases h7
      rw [List.append_nil] at k
      exact k.now z h4
    · exact k.tup z (by rw [List.length_append]; exact hl) (h3.append h7)
  · subst eu ev eo
    obtain ⟨a, vs, rfl, h1, h2, h3⟩ := hx.list
    obtain ⟨b, ws, rfl, h5, h6, h7⟩ := hy.list
    obtain ⟨hl, e⟩ := if_inv (show (if xs.length + ys.length ≤ lineN then some (PyData.list (xs ++ ys)) else none) = some r from hb)
    cases e
    rw [lineN_eq, ← h3.length, ← h7.length] at hl
    exact op_catL pins s σ H _ _ v u Q I rx ry ⟨a, b, vs, ws, rfl, rfl, h1, h5, hl, k.lst z (by rw [List.length_append]; exact hl) (h3.append h7)⟩
end
end Pv
set_option maxRecDepth 100000
set_option maxHeartbeats 4000000
/-! ## The readings of M's expressions, further -/
namespace Pv
open PySem PySem.Spec PyProof.Rows L2
section
variable {X : Cx} {cal : Cal} {a b c : M} {ea eb ec : Expr} {pos : Pos}
theorem pe_mbin {op : Operator} (ha : PE X ea (tE X.K cal a)) (hb : PE X eb (tE X.K cal b)) : PE X (.BinOp ea op eb pos) (tE X.K cal (.bin op a b)) := by
  refine PEm (pe_op op_bin ha hb) fun σ H Q ⟨B, ρ, S, Γ, e, S', z, g, q, k⟩ => ?_
  have q : bd (ev cal a Γ S) (fun x S1 => bd (ev cal b Γ S1) fun y S2 => (val S2 x).bind fun u => (val S2 y).bind fun v => (binD op u v).map fun r => (E.d r, S2)) = some (e, S') := by simpa only [ev] using q
  obtain ⟨x, S1, e1, q⟩ := bd_inv q
  obtain ⟨y, S2, e2, q⟩ := bd_inv q
  obtain ⟨u, e3, q⟩ := ob_inv q
  obtain ⟨v, e4, q⟩ := ob_inv q
  obtain ⟨r, e5, q⟩ := om_inv q
  cases q
  exact two z g e1 e2 fun p w H1 B1 ρ1 t z1 g1 r1 r2 => ⟨u, v, r, B1, ρ1, _, z1, val_ok z1 r1 e3, val_ok z1 r2 e4, e5, k.on t⟩
theorem pe_mneg (ha : PE X ea (tE X.K cal a)) : PE X (.UnaryOp .USub ea pos) (tE X.K cal (.neg a)) := by
  refine PEm (pe_un un_neg ha) fun σ H Q ⟨B, ρ, S, Γ, e, S', z, g, q, k⟩ => ?_
  simp only [ev] at q
  obtain ⟨x, S1, e1, q⟩ := bd_inv q
  split at q
  · rename_i i
    cases q
    refine one z g e1 fun u H1 B1 ρ1 t z1 g1 r => ?_
    cases (show Rp X.K B1 H1 u (.int i) from r)
    exact ⟨i, rfl, (k.on t).now z1 (.int _)⟩
  · cases q
/-! ### truth -/
theorem tru_V {K : PySem.W.Frag} {B ρ : List Addr} {S : Sto} {H : Hp} {v : V} {e : E} {k : Bool} (z : Sr K B ρ S H) (r : RpE K B ρ H v e) (h : truE S e = some k) : TruV K v H k := by
  obtain ⟨d, h1, h2⟩ := ob_inv h
  have n := val_ok z r h1
  cases d with
  | none =>
    cases n with
    | of n =>
      cases n
      cases h2
      rfl
  | bool b =>
    cases n with
    | of n =>
      cases n
      cases h2
      rfl
  | int i =>
    obtain rfl := n.int
    cases h2
    rfl
  | str x =>
    cases n with
    | of n =>
      cases n
      obtain ⟨h3, h4⟩ := if_inv (show (if x.length ≤ sizeLine then some ((x.length : Int) != 0) else none) = some k from h2)
      cases h4
      exact ⟨h3, rfl⟩
  | list ds =>
    obtain ⟨p, vs, rfl, s1, _, rl⟩ := n.list
    cases h2
    refine .inl ⟨vs, s1, ?_⟩
    cases rl <;> rfl
  | tuple ds =>
    obtain ⟨p, vs, rfl, s1, _, rl, _⟩ := n.tup
    cases h2
    refine .inr (.inl ⟨vs, s1.sq, ?_⟩)
    cases rl <;> rfl
  | dict ds => cases h2
theorem pt_plain (ha : PE X ea (tE X.K cal a)) (he : ∀ whole, isTrue ea X.env whole = (do let v ← whole; standAt ea.pos; holding [v] (truthy v))) : PT X ea (tT X.K cal a) := by
  refine PTm (pt_truth ha he) fun σ H Q ⟨B, ρ, S, Γ, e, S', k0, z, g, q, hk, k⟩ => ?_
  refine one z g q fun u H1 B1 ρ1 t z1 g1 r => ⟨k0, tru_V z1 r hk, k _ _ _ t z1⟩
/-! ### comparisons -/
def rCmp (K : PySem.W.Frag) (op : CmpOp) : R2 := fun x y H Q => ∃ u v r, ∃ B : List Addr, RpN K B H x u ∧ RpN K B H y v ∧ cmpD op u v = some r ∧ Q (.bl r) H
theorem shp_and {x : PyData} {b : Bool} {r : Bool} {y : PyData} (h : (if shp x = true ∧ shp y = true then some b else none) = some r) : SeqAt.shaped x = true ∧ SeqAt.shaped y = true ∧ b = r := by
  obtain ⟨⟨h1, h2⟩, h3⟩ := if_inv h
  exact ⟨h1, h2, Option.some.inj h3⟩
theorem RpN.dp {K : PySem.W.Frag} {B : List Addr} {H : Hp} {x : V} {d : PyData} (h : RpN K B H x d) (s : SeqAt.shaped d = true) : Dp K H x d := h.less.dp s
theorem op_cmp {op : CmpOp} (hu : X.A.units + 65 < cLine) : OpR X (compareOp op) (rCmp X.K op) := by
  intro pins s σ H x y v u Q I rx ry ⟨du, dv, r, B, hx, hy, hc, q⟩
  unfold cmpD at hc
  split at hc
  · obtain ⟨s1, s2, rfl⟩ := shp_and hc
    exact op_eqD (by omega) pins s σ H _ _ v u Q I rx ry ⟨du, dv, hx.dp s1, hy.dp s2, s1, s2, q⟩
  · obtain ⟨s1, s2, rfl⟩ := shp_and hc
    exact op_neD (by omega) pins s σ H _ _ v u Q I rx ry ⟨du, dv, hx.dp s1, hy.dp s2, s1, s2, q⟩
  · obtain rfl := hx.int
    obtain rfl := hy.int
    cases hc
    exact op_lt pins s σ H _ _ v u Q I rx ry ⟨_, _, rfl, rfl, q⟩
  · obtain rfl := hx.int
    obtain rfl := hy.int
    cases hc
    exact op_le pins s σ H _ _ v u Q I rx ry ⟨_, _, rfl, rfl, q⟩
  · obtain rfl := hx.int
    obtain rfl := hy.int
    cases hc
    exact op_gt pins s σ H _ _ v u Q I rx ry ⟨_, _, rfl, rfl, q⟩
  · obtain rfl := hx.int
    obtain rfl := hy.int
    cases hc
    exact op_ge pins s σ H _ _ v u Q I rx ry ⟨_, _, rfl, rfl, q⟩
  · have ey : y = .non := by
      cases hy with
      | of hy => cases hy; rfl
    refine op_isN pins s σ H _ _ v u Q I rx ry ⟨ey, ?_⟩
    cases hx with
    | of hx => cases hx <;> (cases hc; exact q)
    | now => cases hc; exact q
  · have ey : y = .non := by
      cases hy with
      | of hy => cases hy; rfl
    refine op_notN pins s σ H _ _ v u Q I rx ry ⟨ey, ?_⟩
    cases hx with
    | of hx => cases hx <;> (cases hc; exact q)
    | now => cases hc; exact q
  · obtain ⟨s1, s2, rfl⟩ := shp_and hc
    exact op_inD hu pins s σ H _ _ v u Q I rx ry ⟨_, _, hx.dp s1, hy.dp s2, s1, s2, q⟩
  · obtain ⟨s1, s2, rfl⟩ := shp_and hc
    exact op_notInD hu pins s σ H _ _ v u Q I rx ry ⟨_, _, hx.dp s1, hy.dp s2, s1, s2, q⟩
  · obtain ⟨s1, s2, rfl⟩ := shp_and hc
    exact op_inT hu pins s σ H _ _ v u Q I rx ry ⟨_, _, hx.dp s1, hy.dp s2, s1, s2, q⟩
  · obtain ⟨s1, s2, rfl⟩ := shp_and hc
    exact op_ninT hu pins s σ H _ _ v u Q I rx ry ⟨_, _, hx.dp s1, hy.dp s2, s1, s2, q⟩
  · cases hc
theorem cmp_go {op : CmpOp} {K : PySem.W.Frag} {σ : L2.St} {H : Hp} {B ρ : List Addr} {S S' : Sto} {Γ : Ev} {e : E} {Q : VK} (z : Sr K B ρ S H) (g : RpG K B ρ H σ Γ) (q : ev cal (.cmp op a b) Γ S = some (e, S')) (k : Pst K B ρ H S' e Q) :
    tE K cal a σ H fun x H1 => tE K cal b σ H1 fun y H2 => rCmp K op x y H2 Q := by
  have q : bd (ev cal a Γ S) (fun x S1 => bd (ev cal b Γ S1) fun y S2 => (val S2 x).bind fun u => (val S2 y).bind fun v => (cmpD op u v).map fun r => (E.d (.bool r), S2)) = some (e, S') := by simpa only [ev] using q
  obtain ⟨x, S1, e1, q⟩ := bd_inv q
  obtain ⟨y, S2, e2, q⟩ := bd_inv q
  obtain ⟨u, e3, q⟩ := ob_inv q
  obtain ⟨v, e4, q⟩ := ob_inv q
  obtain ⟨r, e5, q⟩ := om_inv q
  cases q
  exact two z g e1 e2 fun p w H1 B1 ρ1 t z1 g1 r1 r2 => ⟨u, v, r, B1, val_ok z1 r1 e3, val_ok z1 r2 e4, e5, (k.on t).now z1 (.bl r)⟩
theorem pe_mcmp {op : CmpOp} (hu : X.A.units + 65 < cLine) (ha : PE X ea (tE X.K cal a)) (hb : PE X eb (tE X.K cal b)) (hm : behindInMarks op eb = false) : PE X (.Compare ea [op] [eb] pos) (tE X.K cal (.cmp op a b)) :=
  PEm (pe_cmpR (op_cmp hu) ha hb hm) fun σ H Q ⟨B, ρ, S, Γ, e, S', z, g, q, k⟩ => cmp_go z g q k
/-- a test's value is a truth value -/
theorem cmp_bool {op : CmpOp} {Γ : Ev} {S S' : Sto} {e : E} (q : ev cal (.cmp op a b) Γ S = some (e, S')) : ∃ r, e = .d (.bool r) := by
  have q : bd (ev cal a Γ S) (fun x S1 => bd (ev cal b Γ S1) fun y S2 => (val S2 x).bind fun u => (val S2 y).bind fun v => (cmpD op u v).map fun r => (E.d (.bool r), S2)) = some (e, S') := by simpa only [ev] using q
  obtain ⟨x, S1, e1, q⟩ := bd_inv q
  obtain ⟨y, S2, e2, q⟩ := bd_inv q
  obtain ⟨u, e3, q⟩ := ob_inv q
  obtain ⟨v, e4, q⟩ := ob_inv q
  obtain ⟨r, e5, q⟩ := om_inv q
  cases q
  exact ⟨r, rfl⟩
/-- from a test's wish to a value's -/
theorem pst_of_test {K : PySem.W.Frag} {B ρ : List Addr} {H : Hp} {S' : Sto} {r k0 : Bool} {Q : Bool → Hp → Prop} (hk : truE S' (.d (.bool r)) = some k0) (k : ∀ H' B' ρ', Ext ρ B H ρ' B' H' → Sr K B' ρ' S' H' → Q k0 H') :
    Pst K B ρ H S' (.d (.bool r)) fun x H' => ∃ c, x = .bl c ∧ Q c H' := fun v H' B' ρ' t z rr => by
  cases (show Rp K B' H' v (.bool r) from rr)
  cases hk
  exact ⟨r, rfl, k _ _ _ t z⟩
theorem pt_mcmp {op : CmpOp} (hu : X.A.units + 65 < cLine) (ha : PE X ea (tE X.K cal a)) (hb : PE X eb (tE X.K cal b)) (hm : behindInMarks op eb = false) : PT X (.Compare ea [op] [eb] pos) (tT X.K cal (.cmp op a b)) := by
  refine PTm (pt_cmpR (op_cmp hu) ha hb hm) fun σ H Q ⟨B, ρ, S, Γ, e, S', k0, z, g, q, hk, k⟩ => ?_
  obtain ⟨r, rfl⟩ := cmp_bool q
  exact cmp_go z g q (pst_of_test hk k)
theorem chain_go {op op' : CmpOp} {K : PySem.W.Frag} {σ : L2.St} {H : Hp} {B ρ : List Addr} {S S' : Sto} {Γ : Ev} {e : E} {Q : VK} (z : Sr K B ρ S H) (g : RpG K B ρ H σ Γ) (q : ev cal (.chain op op' a b c) Γ S = some (e, S')) (k : Pst K B ρ H S' e Q) :
    (∃ r, e = .d (.bool r)) ∧ tChain (rCmp K op) (rCmp K op') (tE K cal a) (tE K cal b) (tE K cal c) σ H Q := by
  have q : bd (ev cal a Γ S) (fun x S1 => bd (ev cal b Γ S1) fun y S2 => (val S2 x).bind fun u => (val S2 y).bind fun v => (cmpD op u v).bind fun r =>
      if r = true then bd (ev cal c Γ S2) fun z S3 => (val S3 y).bind fun v => (val S3 z).bind fun w => (cmpD op' v w).map fun r => (E.d (.bool r), S3) else some (E.d (.bool false), S2)) = some (e, S') := by simpa only [ev] using q
  obtain ⟨x, S1, e1, q⟩ := bd_inv q
  obtain ⟨y, S2, e2, q⟩ := bd_inv q
  obtain ⟨u, e3, q⟩ := ob_inv q
  obtain ⟨v, e4, q⟩ := ob_inv q
  obtain ⟨r, e5, q⟩ := ob_inv q
  cases r with
  | false =>
    rw [if_neg (by decide)] at q
    cases q
    refine ⟨⟨_, rfl⟩, two z g e1 e2 fun p w H1 B1 ρ1 t z1 g1 r1 r2 => ⟨u, v, false, B1, val_ok z1 r1 e3, val_ok z1 r2 e4, e5, false, rfl, ?_⟩⟩
    rw [if_neg (by decide)]
    exact (k.on t).now z1 (.bl false)
  | true =>
    rw [if_pos rfl] at q
    obtain ⟨zz, S3, e6, q⟩ := bd_inv q
    obtain ⟨v2, e7, q⟩ := ob_inv q
    obtain ⟨w2, e8, q⟩ := ob_inv q
    obtain ⟨r, e9, q⟩ := om_inv q
    cases q
    refine ⟨⟨_, rfl⟩, two z g e1 e2 fun p w H1 B1 ρ1 t z1 g1 r1 r2 => ⟨u, v, true, B1, val_ok z1 r1 e3, val_ok z1 r2 e4, e5, true, rfl, ?_⟩⟩
    rw [if_pos rfl]
    exact one z1 g1 e6 fun w' H2 B2 ρ2 t2 z2 g2 r3 => ⟨v2, w2, r, B2, val_ok z2 (r2.ext t2 z1.inB) e7, val_ok z2 r3 e8, e9, (k.on (t.trans t2)).now z2 (.bl r)⟩
theorem pe_mchain {op op' : CmpOp} (hu : X.A.units + 65 < cLine) (ha : PE X ea (tE X.K cal a)) (hb : PE X eb (tE X.K cal b)) (hc : PE X ec (tE X.K cal c)) (hm : lastMarks [op, op'] [eb, ec] = false) : PE X (.Compare ea [op, op'] [eb, ec] pos) (tE X.K cal (.chain op op' a b c)) :=
  PEm (pe_chain (op_cmp hu) (op_cmp hu) ha hb hc hm) fun σ H Q ⟨B, ρ, S, Γ, e, S', z, g, q, k⟩ => (chain_go z g q k).2
theorem pt_mchain {op op' : CmpOp} (hu : X.A.units + 65 < cLine) (ha : PE X ea (tE X.K cal a)) (hb : PE X eb (tE X.K cal b)) (hc : PE X ec (tE X.K cal c)) (hm : lastMarks [op, op'] [eb, ec] = false) : PT X (.Compare ea [op, op'] [eb, ec] pos) (tT X.K cal (.chain op op' a b c)) := by
  refine PTm (pt_chain (op_cmp hu) (op_cmp hu) ha hb hc hm) fun σ H Q ⟨B, ρ, S, Γ, e, S', k0, z, g, q, hk, k⟩ => ?_
  obtain ⟨r, rfl⟩ := (chain_go (Q := fun _ _ => True) z g q fun _ _ _ _ _ _ _ => True.intro).1
  exact (chain_go z g q (pst_of_test hk k)).2
/-! ### not, and, or -/
theorem pe_mnot (ha : PE X ea (tE X.K cal a)) : PE X (.UnaryOp .Not ea pos) (tE X.K cal (.not a)) := by
  refine PEm (pe_notT ha) fun σ H Q ⟨B, ρ, S, Γ, e, S', z, g, q, k⟩ => ?_
  have q : bd (ev cal a Γ S) (fun x S1 => (truE S1 x).map fun b => (E.d (.bool (!b)), S1)) = some (e, S') := by simpa only [ev] using q
  obtain ⟨x, S1, e1, q⟩ := bd_inv q
  obtain ⟨r, e2, q⟩ := om_inv q
  cases q
  exact one z g e1 fun u H1 B1 ρ1 t z1 g1 r1 => ⟨r, tru_V z1 r1 e2, (k.on t).now z1 (.bl (!r))⟩
theorem pt_mnot (ha : PT X ea (tT X.K cal a)) : PT X (.UnaryOp .Not ea pos) (tT X.K cal (.not a)) := by
  refine PTm (pt_not ha) fun σ H Q ⟨B, ρ, S, Γ, e, S', k0, z, g, q, hk, k⟩ => ?_
  have q : bd (ev cal a Γ S) (fun x S1 => (truE S1 x).map fun b => (E.d (.bool (!b)), S1)) = some (e, S') := by simpa only [ev] using q
  obtain ⟨x, S1, e1, q⟩ := bd_inv q
  obtain ⟨r, e2, q⟩ := om_inv q
  cases q
  cases hk
  exact ⟨B, ρ, S, Γ, x, _, r, z, g, e1, e2, k⟩
def tB' (K : PySem.W.Frag) (cal : Cal) (k : Bool) (es : Ms) : TE := fun σ H Q => ∃ B ρ S Γ e S', Sr K B ρ S H ∧ RpG K B ρ H σ Γ ∧ evB cal k es Γ S = some (e, S') ∧ Pst K B ρ H S' e Q
def tBT (K : PySem.W.Frag) (cal : Cal) (k : Bool) (es : Ms) : TT := fun σ H Q => ∃ B ρ S Γ e S' k0, Sr K B ρ S H ∧ RpG K B ρ H σ Γ ∧ evB cal k es Γ S = some (e, S') ∧ truE S' e = some k0 ∧ ∀ H' B' ρ', Ext ρ B H ρ' B' H' → Sr K B' ρ' S' H' → Q k0 H'
def bop (k : Bool) : BoolOp := if k = true then .And else .Or
theorem pe_boo1 {k : Bool} (ha : PE X ea (tE X.K cal a)) : PE X (.BoolOp (bop k) [ea] pos) (tB' X.K cal k (.cons a .nil)) := by
  refine PEm (pe_one ha) fun σ H Q ⟨B, ρ, S, Γ, e, S', z, g, q, k⟩ => ?_
  exact ⟨B, ρ, S, Γ, e, S', z, g, by simpa only [evB] using q, k⟩
theorem evB_cons {k : Bool} {es : Ms} {f : M} {Γ : Ev} {S : Sto} : evB cal k (.cons a (.cons f es)) Γ S = bd (ev cal a Γ S) fun x S1 => (truE S1 x).bind fun b => if b = k then evB cal k (.cons f es) Γ S1 else some (x, S1) := by
  rw [evB]
theorem pe_boo2 {k : Bool} {es : Ms} {f : M} {l : List Expr} {ef : Expr} (ha : PE X ea (tE X.K cal a)) (hr : PE X (.BoolOp (bop k) (ef :: l) pos) (tB' X.K cal k (.cons f es))) : PE X (.BoolOp (bop k) (ea :: ef :: l) pos) (tB' X.K cal k (.cons a (.cons f es))) := by
  have go : ∀ σ H Q, tB' X.K cal k (.cons a (.cons f es)) σ H Q → tE X.K cal a σ H fun x H1 => ∃ c, TruV X.K x H1 c ∧ if c = k then tB' X.K cal k (.cons f es) σ H1 Q else Q x H1 := by
    intro σ H Q ⟨B, ρ, S, Γ, e, S', z, g, q, kk⟩
    rw [evB_cons] at q
    obtain ⟨x, S1, e1, q⟩ := bd_inv q
    obtain ⟨c, e2, q⟩ := ob_inv q
    refine one z g e1 fun u H1 B1 ρ1 t z1 g1 r1 => ⟨c, tru_V z1 r1 e2, ?_⟩
    by_cases hc : c = k
    · rw [if_pos hc] at q ⊢
      exact ⟨B1, ρ1, S1, Γ, e, S', z1, g1, q, kk.on t⟩
    · rw [if_neg hc] at q ⊢
      cases q
      exact (kk.on t).now z1 r1
  cases k with
  | true =>
    refine PEm (pe_andT ha hr) fun σ H Q h => ?_
    exact go σ H Q h
  | false =>
    refine PEm (pe_orT ha hr) fun σ H Q h => ?_
    obtain ⟨B, ρ, S, Γ, e, S', z, g, q, kk⟩ := go σ H Q h
    refine ⟨B, ρ, S, Γ, e, S', z, g, q, fun v H' B' ρ' t z1 r => ?_⟩
    obtain ⟨c, h1, h2⟩ := kk v H' B' ρ' t z1 r
    refine ⟨c, h1, ?_⟩
    cases c with
    | true => simpa using h2
    | false => simpa using h2
theorem pw_boo1 {k : Bool} (ha : PT X ea (tT X.K cal a)) : PW X (.BoolOp (bop k) [ea] pos) (tBT X.K cal k (.cons a .nil)) := by
  have go : ∀ σ H Q, tBT X.K cal k (.cons a .nil) σ H Q → tT X.K cal a σ H Q := by
    intro σ H Q ⟨B, ρ, S, Γ, e, S', k0, z, g, q, hk, kk⟩
    exact ⟨B, ρ, S, Γ, e, S', k0, z, g, by simpa only [evB] using q, hk, kk⟩
  cases k with
  | true => exact ⟨fun w pins s σ H Q I h => (pw_and1 ha).run w pins s σ H Q I (go _ _ _ h)⟩
  | false => exact ⟨fun w pins s σ H Q I h => (pw_or1 ha).run w pins s σ H Q I (go _ _ _ h)⟩
theorem pw_boo2 {k : Bool} {es : Ms} {f : M} {l : List Expr} {ef : Expr} (ha : PT X ea (tT X.K cal a)) (hr : PW X (.BoolOp (bop k) (ef :: l) pos) (tBT X.K cal k (.cons f es))) : PW X (.BoolOp (bop k) (ea :: ef :: l) pos) (tBT X.K cal k (.cons a (.cons f es))) := by
  have go : ∀ σ H Q, tBT X.K cal k (.cons a (.cons f es)) σ H Q → tT X.K cal a σ H fun c H1 => if c = k then tBT X.K cal k (.cons f es) σ H1 Q else Q c H1 := by
    intro σ H Q ⟨B, ρ, S, Γ, e, S', k0, z, g, q, hk, kk⟩
    rw [evB_cons] at q
    obtain ⟨x, S1, e1, q⟩ := bd_inv q
    obtain ⟨c, e2, q⟩ := ob_inv q
    refine ⟨B, ρ, S, Γ, x, S1, c, z, g, e1, e2, fun H1 B1 ρ1 t z1 => ?_⟩
    by_cases hc : c = k
    · rw [if_pos hc] at q ⊢
      exact ⟨B1, ρ1, S1, Γ, e, S', k0, z1, g.ext t z.inB, q, hk, fun H' B' ρ' t' => kk _ _ _ (t.trans t')⟩
    · rw [if_neg hc] at q ⊢
      cases q
      rw [hk] at e2
      cases e2
      exact kk _ _ _ t z1
  cases k with
  | true =>
    refine ⟨fun w pins s σ H Q I h => (pw_and ha hr).run w pins s σ H Q I ?_⟩
    obtain ⟨B, ρ, S, Γ, e, S', k0, z, g, q, hk, kk⟩ := go σ H Q h
    refine ⟨B, ρ, S, Γ, e, S', k0, z, g, q, hk, fun H' B' ρ' t z1 => ?_⟩
    have h2 := kk H' B' ρ' t z1
    cases k0 with
    | true => simpa using h2
    | false => simpa using h2
  | false =>
    refine ⟨fun w pins s σ H Q I h => (pw_or ha hr).run w pins s σ H Q I ?_⟩
    obtain ⟨B, ρ, S, Γ, e, S', k0, z, g, q, hk, kk⟩ := go σ H Q h
    refine ⟨B, ρ, S, Γ, e, S', k0, z, g, q, hk, fun H' B' ρ' t z1 => ?_⟩
    have h2 := kk H' B' ρ' t z1
    cases k0 with
    | true => simpa using h2
    | false => simpa using h2
theorem pe_boo {k : Bool} {es : Ms} {e : Expr} (h : PE X e (tB' X.K cal k es)) : PE X e (tE X.K cal (.boo k es)) :=
  PEm h fun σ H Q ⟨B, ρ, S, Γ, e, S', z, g, q, kk⟩ => ⟨B, ρ, S, Γ, e, S', z, g, by simpa only [ev] using q, kk⟩
theorem pt_boo {k : Bool} {es : Ms} {e : Expr} (h : PW X e (tBT X.K cal k es)) : PT X e (tT X.K cal (.boo k es)) :=
  PTm h.pt fun σ H Q ⟨B, ρ, S, Γ, e, S', k0, z, g, q, hk, kk⟩ => ⟨B, ρ, S, Γ, e, S', k0, z, g, by simpa only [ev] using q, hk, kk⟩
theorem pe_mife (hc : PT X ec (tT X.K cal c)) (ha : PE X ea (tE X.K cal a)) (hb : PE X eb (tE X.K cal b)) : PE X (.IfExp ec ea eb pos) (tE X.K cal (.ife c a b)) := by
  refine PEm (pe_ifExp hc ha hb) fun σ H Q ⟨B, ρ, S, Γ, e, S', z, g, q, k⟩ => ?_
  have q : bd (ev cal c Γ S) (fun x S1 => (truE S1 x).bind fun k => if k = true then ev cal a Γ S1 else ev cal b Γ S1) = some (e, S') := by simpa only [ev] using q
  obtain ⟨x, S1, e1, q⟩ := bd_inv q
  obtain ⟨r, e2, q⟩ := ob_inv q
  refine ⟨B, ρ, S, Γ, x, S1, r, z, g, e1, e2, fun H1 B1 ρ1 t z1 => ?_⟩
  cases r with
  | true =>
    rw [if_pos rfl] at q ⊢
    exact ⟨B1, ρ1, S1, Γ, e, S', z1, g.ext t z.inB, q, k.on t⟩
  | false =>
    rw [if_neg (by decide)] at q ⊢
    exact ⟨B1, ρ1, S1, Γ, e, S', z1, g.ext t z.inB, q, k.on t⟩
end
end Pv
set_option maxRecDepth 100000
set_option maxHeartbeats 4000000
/-! ## Built-ins, subscripts, methods -/
namespace Pv
open PySem PySem.Spec PyProof.Rows L2
/-! ### ints -/
theorem insI_perm (x : Int) : ∀ l, (insI x l).Perm (x :: l)
  | [] => .refl _
  | y :: r => by
    unfold insI
    split
    · exact .refl _
    · exact ((insI_perm x r).cons y).trans (.swap x y r)
theorem sortI_perm : ∀ l, (sortI l).Perm l
  | [] => .refl _
  | x :: r => (insI_perm x _).trans ((sortI_perm r).cons x)
theorem insI_pw (x : Int) : ∀ l, l.Pairwise (· ≤ ·) → (insI x l).Pairwise (· ≤ ·)
  | [], _ => by simp [insI]
  | y :: r, h => by
    have h' := List.pairwise_cons.mp h
    unfold insI
    split
    · rename_i hx
      refine List.pairwise_cons.mpr ⟨fun z hz => ?_, h⟩
      rcases List.mem_cons.mp hz with e | hz
      · rw [e]; exact hx
      · exact Int.le_trans hx (h'.1 z hz)
    · rename_i hx
      refine List.pairwise_cons.mpr ⟨fun z hz => ?_, insI_pw x r h'.2⟩
      rcases List.mem_cons.mp ((insI_perm x r).mem_iff.mp hz) with e | hz
      · rw [e]; omega
      · exact h'.1 z hz
theorem sortI_pw : ∀ l, (sortI l).Pairwise (· ≤ ·)
  | [] => .nil
  | x :: r => insI_pw x _ (sortI_pw r)
theorem sameSort {a b : List Int} (hp : a.Perm b) (ha : a.Pairwise (· ≤ ·)) (hb : b.Pairwise (· ≤ ·)) : a = b :=
  hp.eq_of_pairwise (fun x y _ _ h1 h2 => Int.le_antisymm h1 h2) ha hb
theorem maxI_ok : ∀ (l : List Int) (m : Int), m ∈ l → (∀ y, y ∈ l → y ≤ m) → m = maxI l
  | [a], m, h, _ => by simpa [maxI] using h
  | a :: b :: r, m, h, k => by
    show m = max a (maxI (b :: r))
    have hmem : ∀ l : List Int, l ≠ [] → maxI l ∈ l := by
      intro l
      induction l with
      | nil => exact fun h => absurd rfl h
      | cons a l ih =>
        intro _
        cases l with
        | nil => simp [maxI]
        | cons b l =>
          have := ih (by simp)
          show max a (maxI (b :: l)) ∈ _
          rcases Int.le_total a (maxI (b :: l)) with q | q
          · rw [Int.max_eq_right q]; exact List.mem_cons_of_mem _ this
          · rw [Int.max_eq_left q]; exact List.mem_cons_self
    have hle : ∀ l : List Int, ∀ y ∈ l, y ≤ maxI l := by
      intro l
      induction l with
      | nil => intro y h; cases h
      | cons a l ih =>
        intro y hy
        cases l with
        | nil => rw [List.mem_singleton.mp hy]; exact Int.le_refl _
        | cons b l =>
          show y ≤ max a (maxI (b :: l))
          rcases List.mem_cons.mp hy with e | hy
          · rw [e]; exact Int.le_max_left ..
          · exact Int.le_trans (ih y hy) (Int.le_max_right ..)
    exact Int.le_antisymm (hle (a :: b :: r) m h) (k _ (hmem _ (by simp)))
theorem minI_ok (l : List Int) (m : Int) (h : m ∈ l) (k : ∀ y, y ∈ l → m ≤ y) : m = minI l := by
  have hmem : ∀ l : List Int, l ≠ [] → minI l ∈ l := by
    intro l
    induction l with
    | nil => exact fun h => absurd rfl h
    | cons a l ih =>
      intro _
      cases l with
      | nil => simp [minI]
      | cons b l =>
        have := ih (by simp)
        show min a (minI (b :: l)) ∈ _
        rcases Int.le_total a (minI (b :: l)) with q | q
        · rw [Int.min_eq_left q]; exact List.mem_cons_self
        · rw [Int.min_eq_right q]; exact List.mem_cons_of_mem _ this
  have hle : ∀ l : List Int, ∀ y ∈ l, minI l ≤ y := by
    intro l
    induction l with
    | nil => intro y h; cases h
    | cons a l ih =>
      intro y hy
      cases l with
      | nil => rw [List.mem_singleton.mp hy]; exact Int.le_refl _
      | cons b l =>
        show min a (minI (b :: l)) ≤ y
        rcases List.mem_cons.mp hy with e | hy
        · rw [e]; exact Int.min_le_left ..
        · exact Int.le_trans (Int.min_le_right ..) (ih y hy)
  have hne : l ≠ [] := fun e => by rw [e] at h; cases h
  exact Int.le_antisymm (k _ (hmem l hne)) (hle l m h)
section
variable {K : PySem.W.Frag} {B ρ : List Addr} {S : Sto} {H : Hp} {Q : VK}
theorem RpL.ints : ∀ {vs : List V} {ds : List PyData} {ns : List Int}, RpL K B H vs ds → intsD ds = some ns → vs = ns.map V.int ∧ ds = ns.map PyData.int
  | _, [], _, .nil, e => by cases e; exact ⟨rfl, rfl⟩
  | _, .int i :: ds, _, .cons h r, e => by
    have e : (intsD ds).map (i :: ·) = some _ := e
    obtain ⟨ms, h1, h2⟩ := om_inv e
    cases h2
    cases h
    obtain ⟨e1, e2⟩ := RpL.ints r h1
    rw [e1, e2]
    exact ⟨rfl, rfl⟩
theorem RpL.bools : ∀ {vs : List V} {ds : List PyData} {ns : List Bool}, RpL K B H vs ds → boolsD ds = some ns → vs = ns.map V.bl
  | _, [], _, .nil, e => by cases e; rfl
  | _, .bool i :: ds, _, .cons h r, e => by
    have e : (boolsD ds).map (i :: ·) = some _ := e
    obtain ⟨ms, h1, h2⟩ := om_inv e
    cases h2
    cases h
    rw [RpL.bools r h1]
    rfl
theorem RpL.of_ints : ∀ ns : List Int, RpL K B H (ns.map V.int) (ns.map PyData.int)
  | [] => .nil
  | n :: r => .cons (.int n) (RpL.of_ints r)
theorem intsD_map : ∀ ns : List Int, intsD (ns.map PyData.int) = some ns
  | [] => rfl
  | n :: r => by
    show (intsD (r.map PyData.int)).map (n :: ·) = some (n :: r)
    rw [intsD_map r]
    rfl
end
def Bf.v : Bf → Value
  | .len => .builtin "len"
  | .list => .type "list"
  | .tuple => .type "tuple"
  | .int => .type "int"
  | .bool => .type "bool"
  | .abs => .builtin "abs"
  | .max2 => .builtin "max"
  | .min2 => .builtin "min"
  | .sum => .builtin "sum"
  | .sorted => .builtin "sorted"
  | .all => .builtin "all"
  | .any => .builtin "any"
  | .min1 => .builtin "min"
  | .max1 => .builtin "max"
  | .divmod => .builtin "divmod"
def rBlt (K : PySem.W.Frag) (f : Bf) : List V → Hp → VK → Prop := fun xs H Q => ∃ ds r B ρ S, Sr K B ρ S H ∧ RpNs K B H xs ds ∧ bltD f ds = some r ∧ Pst K B ρ H S (.d r) Q
section
variable {X : Cx}
theorem RpNs.one {K : PySem.W.Frag} {B : List Addr} {H : Hp} {xs : List V} {d : PyData} (h : RpNs K B H xs [d]) : ∃ x, xs = [x] ∧ RpN K B H x d := by
  cases h with
  | cons h r => cases r; exact ⟨_, rfl, h⟩
theorem RpNs.two {K : PySem.W.Frag} {B : List Addr} {H : Hp} {xs : List V} {d e : PyData} (h : RpNs K B H xs [d, e]) : ∃ x y, xs = [x, y] ∧ RpN K B H x d ∧ RpN K B H y e := by
  cases h with
  | cons h r =>
    obtain ⟨y, e, h2⟩ := RpNs.one r
    subst e
    exact ⟨_, _, rfl, h, h2⟩
theorem call_blt (hc : X.calm = true) (f : Bf) : CallR X f.v (rBlt X.K f) := by
  intro pins s σ H xs us Q I rs ⟨ds, r, B, ρ, S, z, hx, hb, k⟩
  unfold bltD at hb
  split at hb
  · -- len of a list
    obtain ⟨x, rfl, n⟩ := hx.one
    obtain ⟨a, vs, rfl, h1, h2, h3⟩ := n.list
    cases hb
    refine call_len_seq pins s σ H _ us Q I rs ⟨a, vs, rfl, .inl h1, ?_⟩
    rw [h3.length]
    exact k.now z (.int _)
  · obtain ⟨x, rfl, n⟩ := hx.one
    obtain ⟨a, vs, rfl, h1, h2, h3, _⟩ := n.tup
    cases hb
    refine call_len_seq pins s σ H _ us Q I rs ⟨a, vs, rfl, .inr h1.sq, ?_⟩
    rw [h3.length]
    exact k.now z (.int _)
  · obtain ⟨x, rfl, n⟩ := hx.one
    obtain ⟨hl, hb⟩ := if_inv hb
    cases hb
    cases n with
    | of n =>
      cases n
      exact call_len_str pins s σ H _ us Q I rs ⟨_, rfl, hl, k.now z (.int _)⟩
  · -- list
    obtain ⟨x, rfl, n⟩ := hx.one
    obtain ⟨a, vs, rfl, h1, h2, h3⟩ := n.list
    cases hb
    exact call_list_of pins s σ H _ us Q I rs ⟨a, vs, rfl, .inl h1, k.lst z h2 h3⟩
  · obtain ⟨x, rfl, n⟩ := hx.one
    obtain ⟨a, vs, rfl, h1, h2, h3, _⟩ := n.tup
    cases hb
    exact call_list_of pins s σ H _ us Q I rs ⟨a, vs, rfl, .inr h1.sq, k.lst z h2 h3⟩
  · -- tuple
    obtain ⟨x, rfl, n⟩ := hx.one
    obtain ⟨a, vs, rfl, h1, h2, h3⟩ := n.list
    cases hb
    exact call_tupleF pins s σ H _ us Q I rs ⟨a, vs, rfl, .inl ⟨h1, k.tup z h2 h3⟩⟩
  · obtain ⟨x, rfl, n⟩ := hx.one
    obtain ⟨a, vs, rfl, h1, h2, h3, h4⟩ := n.tup
    cases hb
    exact call_tupleF pins s σ H _ us Q I rs ⟨a, vs, rfl, .inr ⟨h1.sq, k.now z h4⟩⟩
  · -- int
    obtain ⟨x, rfl, n⟩ := hx.one
    obtain rfl := n.int
    cases hb
    exact call_int1 pins s σ H _ us Q I rs (.inl ⟨_, rfl, k.now z (.int _)⟩)
  · obtain ⟨x, rfl, n⟩ := hx.one
    cases hb
    cases n with
    | of n =>
      cases n
      exact call_int1 pins s σ H _ us Q I rs (.inr ⟨_, rfl, k.now z (.int _)⟩)
  · obtain ⟨x, rfl, n⟩ := hx.one
    obtain rfl := n.int
    cases hb
    exact call_bool1 pins s σ H _ us Q I rs (.inl ⟨_, rfl, k.now z (.bl _)⟩)
  · obtain ⟨x, rfl, n⟩ := hx.one
    cases hb
    cases n with
    | of n =>
      cases n
      exact call_bool1 pins s σ H _ us Q I rs (.inr ⟨_, rfl, k.now z (.bl _)⟩)
  · -- abs, max, min
    obtain ⟨x, rfl, n⟩ := hx.one
    obtain rfl := n.int
    cases hb
    exact call_abs pins s σ H _ us Q I rs ⟨_, rfl, k.now z (.int _)⟩
  · obtain ⟨x, y, rfl, n, m⟩ := hx.two
    obtain rfl := n.int
    obtain rfl := m.int
    cases hb
    exact call_max2 hc pins s σ H _ us Q I rs ⟨_, _, rfl, k.now z (.int _)⟩
  · obtain ⟨x, y, rfl, n, m⟩ := hx.two
    obtain rfl := n.int
    obtain rfl := m.int
    cases hb
    exact call_min2 hc pins s σ H _ us Q I rs ⟨_, _, rfl, k.now z (.int _)⟩
  · -- sum
    obtain ⟨x, rfl, n⟩ := hx.one
    obtain ⟨a, vs, rfl, h1, h2, h3⟩ := n.list
    obtain ⟨ns, e1, e2⟩ := om_inv hb
    cases e2
    obtain ⟨rfl, _⟩ := h3.ints e1
    exact cr_sum hc pins s σ H _ us Q I rs ⟨a, ns, rfl, h1, k.now z (.int _)⟩
  · obtain ⟨x, rfl, n⟩ := hx.one
    obtain ⟨a, vs, rfl, h1, h2, h3⟩ := n.list
    obtain ⟨ns, e1, e2⟩ := ob_inv hb
    obtain ⟨hl, e3⟩ := if_inv e2
    cases e3
    obtain ⟨rfl, _⟩ := h3.ints e1
    exact cr_max hc pins s σ H _ us Q I rs ⟨a, ns, rfl, h1, hl, fun m hm hy => by
      rw [maxI_ok ns m hm hy]
      exact k.now z (.int _)⟩
  · obtain ⟨x, rfl, n⟩ := hx.one
    obtain ⟨a, vs, rfl, h1, h2, h3⟩ := n.list
    obtain ⟨ns, e1, e2⟩ := ob_inv hb
    obtain ⟨hl, e3⟩ := if_inv e2
    cases e3
    obtain ⟨rfl, _⟩ := h3.ints e1
    exact cr_min hc pins s σ H _ us Q I rs ⟨a, ns, rfl, h1, hl, fun m hm hy => by
      rw [minI_ok ns m hm hy]
      exact k.now z (.int _)⟩
  · -- all, any
    obtain ⟨x, rfl, n⟩ := hx.one
    obtain ⟨a, vs, rfl, h1, h2, h3⟩ := n.list
    obtain ⟨bs, e1, e2⟩ := om_inv hb
    cases e2
    obtain rfl := h3.bools e1
    exact cr_all hc pins s σ H _ us Q I rs ⟨a, bs, rfl, h1, k.now z (.bl _)⟩
  · obtain ⟨x, rfl, n⟩ := hx.one
    obtain ⟨a, vs, rfl, h1, h2, h3⟩ := n.list
    obtain ⟨bs, e1, e2⟩ := om_inv hb
    cases e2
    obtain rfl := h3.bools e1
    exact cr_any hc pins s σ H _ us Q I rs ⟨a, bs, rfl, h1, k.now z (.bl _)⟩
  · -- sorted
    obtain ⟨x, rfl, n⟩ := hx.one
    obtain ⟨a, vs, rfl, h1, h2, h3⟩ := n.list
    obtain ⟨ns, e1, e2⟩ := om_inv hb
    cases e2
    obtain ⟨rfl, _⟩ := h3.ints e1
    refine cr_sortedI pins s σ H _ us Q I rs ⟨a, ns, rfl, h1, fun ns' p h4 h5 h6 => ?_⟩
    have e : ns' = sortI ns := sameSort (h4.trans (sortI_perm ns).symm) h5 (sortI_pw ns)
    rw [e]
    refine k.lst z ?_ (RpL.of_ints _) p h6
    rw [List.length_map] at h2 ⊢
    rw [(sortI_perm ns).length_eq]
    exact h2
  · obtain ⟨x, rfl, n⟩ := hx.one
    obtain ⟨a, vs, rfl, h1, h2, h3, _⟩ := n.tup
    obtain ⟨ns, e1, e2⟩ := om_inv hb
    cases e2
    obtain ⟨rfl, _⟩ := h3.ints e1
    refine cr_srtT pins s σ H _ us Q I rs ⟨a, ns, rfl, h1.sq, fun ns' p h4 h5 h6 => ?_⟩
    have e : ns' = sortI ns := sameSort (h4.trans (sortI_perm ns).symm) h5 (sortI_pw ns)
    rw [e]
    refine k.lst z ?_ (RpL.of_ints _) p h6
    rw [List.length_map] at h2 ⊢
    rw [(sortI_perm ns).length_eq]
    exact h2
  · obtain ⟨x, y, rfl, n, m⟩ := hx.two
    obtain rfl := n.int
    obtain rfl := m.int
    obtain ⟨hj, hb⟩ := if_inv hb
    cases hb
    exact call_divmodF pins s σ H _ us Q I rs ⟨_, _, rfl, hj, k.tup z (by show 2 ≤ sizeLine; decide) (.cons (.int _) (.cons (.int _) .nil))⟩
  · cases hb
end
end Pv
set_option maxRecDepth 100000
set_option maxHeartbeats 4000000
/-! ## Calls, subscripts, methods of lists -/
namespace Pv
open PySem PySem.Spec PyProof.Rows L2
section
variable {X : Cx} {cal : Cal} {a b c : M} {es : Ms} {l : List Expr} {ea eb ec : Expr} {pos p p2 apos cpos : Pos} {x : Str}
theorem Pst.imp {K : PySem.W.Frag} {B ρ : List Addr} {H : Hp} {S' : Sto} {e : E} {Q Q' : VK} (h : Pst K B ρ H S' e Q) (k : ∀ v H, Q v H → Q' v H) : Pst K B ρ H S' e Q' := fun v H' B' ρ' t z r => k _ _ (h v H' B' ρ' t z r)
/-- a built-in by its name -/
theorem blt_go {f : Bf} {K : PySem.W.Frag} {σ : L2.St} {H : Hp} {B ρ : List Addr} {S S' : Sto} {Γ : Ev} {e : E} {Q : VK} (z : Sr K B ρ S H) (g : RpG K B ρ H σ Γ) (q : ev cal (.blt f es) Γ S = some (e, S')) (k : Pst K B ρ H S' e Q) :
    tCB (rBlt K f) (tL K cal es) σ H Q := by
  have q : bd (evs cal es Γ S) (fun xs S1 => (vals S1 xs).bind fun ds => (bltD f ds).map fun r => (E.d r, S1)) = some (e, S') := by simpa only [ev] using q
  obtain ⟨xs, S1, e1, q⟩ := bd_inv q
  obtain ⟨ds, e2, q⟩ := ob_inv q
  obtain ⟨r, e3, q⟩ := om_inv q
  cases q
  exact oneA z g e1 fun us H1 B1 ρ1 t z1 g1 r1 => ⟨ds, r, B1, ρ1, _, z1, vals_ok z1 r1 e2, e3, k.on t⟩
theorem pe_mbltB {f : Bf} {id : String} (hv : f.v = .builtin id) (hc : X.calm = true) (hg : Gl X x) (hm : X.mg x = none) (hb : bootBuiltins x = some (.builtin id)) (ha : PA X (ea :: l) (tL X.K cal es)) (hn : x ≠ "__name__") (hdb : (x == ("__debug__" : Str)) = false)
    (he : starEach (ea :: l) X.env = (false, eval ea X.env) :: starEach l X.env) (hpl : (backTo pos (starEach l X.env)).any (·.1) = false) : PE X (.Call (.Name x p) (ea :: l) [] pos) (tE X.K cal (.blt f es)) := by
  have hr := call_blt (X := X) hc f
  rw [hv] at hr
  exact PEm (pe_callB hr hg hm hb ha hn hdb he hpl) fun σ H Q ⟨B, ρ, S, Γ, e, S', z, g, q, k⟩ => blt_go z g q k
theorem pe_mbltT {f : Bf} {id : String} (hv : f.v = .type id) (hc : X.calm = true) (hg : Gl X x) (hm : X.mg x = none) (hb : bootBuiltins x = some (.type id)) (ha : PA X (ea :: l) (tL X.K cal es)) (hn : x ≠ "__name__") (hdb : (x == ("__debug__" : Str)) = false)
    (he : starEach (ea :: l) X.env = (false, eval ea X.env) :: starEach l X.env) (hpl : (backTo pos (starEach l X.env)).any (·.1) = false) : PE X (.Call (.Name x p) (ea :: l) [] pos) (tE X.K cal (.blt f es)) := by
  have hr := call_blt (X := X) hc f
  rw [hv] at hr
  exact PEm (pe_callTy hr hg hm hb ha hn hdb he hpl) fun σ H Q ⟨B, ρ, S, Γ, e, S', z, g, q, k⟩ => blt_go z g q k
/-- list(e), a list that may change -/
theorem pe_mlistM (hg : Gl X "list") (hm : X.mg "list" = none) (ha : PE X ea (tE X.K cal a)) (he : starEach [ea] X.env = [(false, eval ea X.env)]) : PE X (.Call (.Name "list" p) [ea] [] pos) (tE X.K cal (.listM a)) := by
  refine PEm (pe_callTy call_list_of hg hm PyProof.Rows.boot_list (pa_cons ha pa_nil (by rw [he]; rfl)) (by decide) (by decide) (by rw [he]; rfl) rfl) fun σ H Q ⟨B, ρ, S, Γ, e, S', z, g, q, k⟩ => ?_
  have q : bd (ev cal a Γ S) (fun x S1 => (oneD elems S1 x).map fun ds => (E.ref S1.length, S1 ++ [ds])) = some (e, S') := by simpa only [ev] using q
  obtain ⟨y, S1, e1, q⟩ := bd_inv q
  obtain ⟨ds, e2, q⟩ := om_inv q
  cases q
  obtain ⟨d, e3, e4⟩ := ob_inv e2
  refine one z g e1 fun u H1 B1 ρ1 t z1 g1 r => ?_
  have n := val_ok z1 r e3
  cases d with
  | list es =>
    cases e4
    obtain ⟨pp, vs, rfl, h1, h2, h3⟩ := n.list
    exact ⟨pp, vs, rfl, .inl h1, (k.on t).lst2 z1 h2 h3⟩
  | tuple es =>
    cases e4
    obtain ⟨pp, vs, rfl, h1, h2, h3, _⟩ := n.tup
    exact ⟨pp, vs, rfl, .inr h1.sq, (k.on t).lst2 z1 h2 h3⟩
  | _ => cases e4
theorem rg_ok {K : PySem.W.Frag} {B : List Addr} {H : Hp} (n : Int) : RpL K B H (rgV 0 n) ((List.range n.toNat).map fun (k : Nat) => PyData.int (k : Int)) := by
  unfold rgV
  rw [Int.sub_zero]
  generalize List.range n.toNat = l
  induction l with
  | nil => exact .nil
  | cons i l ih =>
    rw [List.map_cons, List.map_cons]
    refine .cons ?_ ih
    rw [Int.zero_add]
    exact .int _
theorem rg_small {n : Int} (h : -1000000 ≤ n ∧ n ≤ 1000000) : RgOk 0 n ∧ (rgV 0 n).length ≤ sizeLine := by
  refine ⟨⟨by omega, by omega, by omega, by omega, by omega⟩, ?_⟩
  rw [rgV_length, sizeLine_eq]
  omega
theorem pe_mlistRng (hc : X.calm = true) (hg : Gl X "list") (hm : X.mg "list" = none) (hg2 : Gl X "range") (hm2 : X.mg "range" = none) (ha : PE X ea (tE X.K cal a)) (he : starEach [ea] X.env = [(false, eval ea X.env)]) :
    PE X (.Call (.Name "list" p) [.Call (.Name "range" p2) [ea] [] apos] [] pos) (tE X.K cal (.listRng a)) := by
  refine PEm (pe_listRg hc hg hm (prg_1 hg2 hm2 ha (by rw [he]; rfl)) rfl) fun σ H Q ⟨B, ρ, S, Γ, e, S', z, g, q, k⟩ => ?_
  simp only [ev] at q
  obtain ⟨y, S1, e1, q⟩ := bd_inv q
  split at q
  · rename_i n
    obtain ⟨h1, h2⟩ := if_inv q
    cases h2
    refine one z g e1 fun u H1 B1 ρ1 t z1 g1 r1 => ?_
    cases (show Rp X.K B1 H1 u (.int n) from r1)
    exact ⟨_, rfl, (rg_small h1).1, (k.on t).lst z1 (rg_small h1).2 (rg_ok _)⟩
  · cases q
theorem pe_mlistRngM (hc : X.calm = true) (hg : Gl X "list") (hm : X.mg "list" = none) (hg2 : Gl X "range") (hm2 : X.mg "range" = none) (ha : PE X ea (tE X.K cal a)) (he : starEach [ea] X.env = [(false, eval ea X.env)]) :
    PE X (.Call (.Name "list" p) [.Call (.Name "range" p2) [ea] [] apos] [] pos) (tE X.K cal (.listRngM a)) := by
  refine PEm (pe_listRg hc hg hm (prg_1 hg2 hm2 ha (by rw [he]; rfl)) rfl) fun σ H Q ⟨B, ρ, S, Γ, e, S', z, g, q, k⟩ => ?_
  simp only [ev] at q
  obtain ⟨y, S1, e1, q⟩ := bd_inv q
  split at q
  · rename_i n
    obtain ⟨h1, h2⟩ := if_inv q
    cases h2
    refine one z g e1 fun u H1 B1 ρ1 t z1 g1 r1 => ?_
    cases (show Rp X.K B1 H1 u (.int n) from r1)
    exact ⟨_, rfl, (rg_small h1).1, (k.on t).lst2 z1 (rg_small h1).2 (rg_ok _)⟩
  · cases q
/-! ### subscripts -/
theorem atI_rp {K : PySem.W.Frag} {B : List Addr} {H : Hp} {vs : List V} {ds : List PyData} {i : Int} {d : PyData} (r : RpL K B H vs ds) (h : L2.atI ds i = some d) : ∃ v, L2.atI vs i = some v ∧ Rp K B H v d := by
  unfold L2.atI at h ⊢
  obtain ⟨j, h1, h2⟩ := ob_inv h
  rw [r.length, h1]
  exact r.get h2
theorem op_idx : IxR X (fun x y H Q => ∃ u v r B ρ S, Sr X.K B ρ S H ∧ RpN X.K B H x u ∧ RpN X.K B H y v ∧ idxD u v = some r ∧ Pst X.K B ρ H S (.d r) Q) := by
  intro value slice pins s σ H x y v u Q I rx ry ⟨du, dv, r, B, ρ, S, z, hx, hy, hb, k⟩ hs
  unfold idxD at hb
  split at hb
  · obtain ⟨a, vs, rfl, h1, h2, h3⟩ := hx.list
    obtain rfl := hy.int
    obtain ⟨w, h4, h5⟩ := atI_rp h3 hb
    exact ix_list value slice pins s σ H _ _ v u Q I rx ry ⟨a, vs, _, w, rfl, rfl, h1, h4, k.now z h5⟩ hs
  · obtain ⟨a, vs, rfl, h1, h2, h3, _⟩ := hx.tup
    obtain rfl := hy.int
    obtain ⟨w, h4, h5⟩ := atI_rp h3 hb
    exact ix_tup value slice pins s σ H _ _ v u Q I rx ry ⟨a, vs, _, w, rfl, rfl, h1.sq, h4, k.now z h5⟩ hs
  · cases hb
theorem pe_midx (ha : PE X ea (tE X.K cal a)) (hb : PE X eb (tE X.K cal b)) (hs : PlainIx eb) : PE X (.Subscript ea eb pos) (tE X.K cal (.idx a b)) := by
  refine PEm (pe_ix op_idx ha hb hs) fun σ H Q ⟨B, ρ, S, Γ, e, S', z, g, q, k⟩ => ?_
  have q : bd (ev cal a Γ S) (fun x S1 => bd (ev cal b Γ S1) fun y S2 => (val S2 x).bind fun u => (val S2 y).bind fun v => (idxD u v).map fun r => (E.d r, S2)) = some (e, S') := by simpa only [ev] using q
  obtain ⟨x, S1, e1, q⟩ := bd_inv q
  obtain ⟨y, S2, e2, q⟩ := bd_inv q
  obtain ⟨u, e3, q⟩ := ob_inv q
  obtain ⟨v, e4, q⟩ := ob_inv q
  obtain ⟨r, e5, q⟩ := om_inv q
  cases q
  exact two z g e1 e2 fun p w H1 B1 ρ1 t z1 g1 r1 r2 => ⟨u, v, r, B1, ρ1, _, z1, val_ok z1 r1 e3, val_ok z1 r2 e4, e5, k.on t⟩
def tO (K : PySem.W.Frag) (cal : Cal) (m : Mo) : TO := fun σ H Q => ∃ B ρ S Γ o S', Sr K B ρ S H ∧ RpG K B ρ H σ Γ ∧ evO cal m Γ S = some (o, S') ∧ ∀ H' B' ρ', Ext ρ B H ρ' B' H' → Sr K B' ρ' S' H' → Q o H'
theorem POm {e : Option Expr} {t t' : TO} (h : PO X e t) (k : ∀ σ H Q, t' σ H Q → t σ H Q) : PO X e t' := ⟨fun pins s σ H Q I q => h.run pins s σ H Q I (k _ _ _ q)⟩
theorem po_mno : PO X none (tO X.K cal .no) := by
  refine POm po_none fun σ H Q ⟨B, ρ, S, Γ, o, S', z, g, q, k⟩ => ?_
  have q : some ((none : Option Int), S) = some (o, S') := by simpa only [evO] using q
  cases q
  exact k _ _ _ Ext.refl z
theorem po_myes (ha : PE X ea (tE X.K cal a)) : PO X (some ea) (tO X.K cal (.yes a)) := by
  refine POm (po_some ha) fun σ H Q ⟨B, ρ, S, Γ, o, S', z, g, q, k⟩ => ?_
  simp only [evO] at q
  obtain ⟨x, S1, e1, q⟩ := bd_inv q
  split at q
  · cases q
    refine one z g e1 fun u H1 B1 ρ1 t z1 g1 r => ?_
    rename_i i
    cases (show Rp X.K B1 H1 u (.int i) from r)
    exact ⟨i, rfl, k _ _ _ t z1⟩
  · cases q
theorem cut_rp {K : PySem.W.Frag} {B : List Addr} {H : Hp} {vs : List V} {ds : List PyData} (lo hi : Option Int) (r : RpL K B H vs ds) : RpL K B H (cutV vs lo hi) (cutD ds lo hi) := by
  unfold cutV cutD
  rw [r.length]
  exact (r.drop _).take _
theorem op_sl : SlR X (fun x lo hi H Q => ∃ u r B ρ S, Sr X.K B ρ S H ∧ RpN X.K B H x u ∧ slD u lo hi = some r ∧ Pst X.K B ρ H S (.d r) Q) := by
  intro pins s σ H x v vl vu lo hi sl Q I rx hs pl pu ⟨du, r, B, ρ, S, z, hx, hb, k⟩
  cases du with
  | list ds =>
    obtain ⟨a, vs, rfl, h1, h2, h3⟩ := hx.list
    cases hb
    exact sl_list pins s σ H _ v vl vu _ _ sl Q I rx hs pl pu ⟨a, vs, rfl, h1, k.lst z (Nat.le_trans (cutV_length _ _ _) h2) (cut_rp _ _ h3)⟩
  | tuple ds =>
    obtain ⟨a, vs, rfl, h1, h2, h3, h4⟩ := hx.tup
    cases hb
    refine sl_tupF pins s σ H _ v vl vu _ _ sl Q I rx hs pl pu ⟨a, vs, rfl, h1.sq, fun hw => ?_, k.tup z (Nat.le_trans (cutV_length _ _ _) h2) (cut_rp _ _ h3)⟩
    refine k.now z ?_
    have e : cutD ds lo hi = ds := by
      unfold cutD
      rw [h3.length] at hw
      rw [hw.1, hw.2]
      simp
    show Rp X.K B H _ (.tuple (cutD ds lo hi))
    rw [e]
    exact h4
  | _ => cases hb
theorem pe_msl {lo hi : Mo} {elo ehi : Option Expr} (ha : PE X ea (tE X.K cal a)) (h1 : PO X elo (tO X.K cal lo)) (h2 : PO X ehi (tO X.K cal hi)) : PE X (.Subscript ea (.Slice elo ehi none p2) pos) (tE X.K cal (.sl a lo hi)) := by
  refine PEm (pe_slice op_sl ha h1 h2) fun σ H Q ⟨B, ρ, S, Γ, e, S', z, g, q, k⟩ => ?_
  have q : bd (ev cal a Γ S) (fun x S1 => bd (evO cal lo Γ S1) fun l S2 => bd (evO cal hi Γ S2) fun h S3 => (val S3 x).bind fun u => (slD u l h).map fun r => (E.d r, S3)) = some (e, S') := by simpa only [ev] using q
  obtain ⟨x, S1, e1, q⟩ := bd_inv q
  obtain ⟨l, S2, e2, q⟩ := bd_inv q
  obtain ⟨h, S3, e3, q⟩ := bd_inv q
  obtain ⟨u, e4, q⟩ := ob_inv q
  obtain ⟨r, e5, q⟩ := om_inv q
  cases q
  refine one z g e1 fun w H1 B1 ρ1 t z1 g1 r1 => ⟨B1, ρ1, S1, Γ, l, S2, z1, g1, e2, fun H2 B2 ρ2 t2 z2 => ⟨B2, ρ2, S2, Γ, h, _, z2, g1.ext t2 z1.inB, e3, fun H3 B3 ρ3 t3 z3 => ?_⟩⟩
  exact ⟨u, r, B3, ρ3, _, z3, val_ok z3 ((r1.ext t2 z1.inB).ext t3 z2.inB) e4, e5, k.on ((t.trans t2).trans t3)⟩
/-- written parts of a slice -/
theorem po_neg1 {j : Nat} : PO X (some (.UnaryOp .USub (.Constant (.int 1) j p) p2)) (fun _ H Q => Q (some (-1)) H) := POm (po_some (pe_un un_neg pe_int)) fun σ H Q h => ⟨1, rfl, -1, rfl, h⟩
theorem po_lit {i : Int} {j : Nat} : PO X (some (.Constant (.int i) j p)) (fun _ H Q => Q (some i) H) := POm (po_some pe_int) fun σ H Q h => ⟨i, rfl, h⟩
theorem po_nil : PO X none (fun _ H Q => Q none H) := po_none
theorem pe_mrev {j : Nat} {p3 p4 : Pos} (ha : PE X ea (tE X.K cal a)) : PE X (.Subscript ea (.Slice none none (some (.UnaryOp .USub (.Constant (.int 1) j p) p2)) p3) pos) (tE X.K cal (.rev a)) := by
  refine PEm (pe_step (c := none) ha po_nil po_nil po_neg1 (by decide) (by decide) (fun _ _ => rfl)) fun σ H Q ⟨B, ρ, S, Γ, e, S', z, g, q, k⟩ => ?_
  have q : bd (ev cal a Γ S) (fun x S1 => (oneD revD S1 x).map fun r => (E.d r, S1)) = some (e, S') := by simpa only [ev] using q
  obtain ⟨x, S1, e1, q⟩ := bd_inv q
  obtain ⟨r, e2, q⟩ := om_inv q
  cases q
  obtain ⟨d, e3, e4⟩ := ob_inv e2
  refine one z g e1 fun u H1 B1 ρ1 t z1 g1 r1 => ?_
  have n := val_ok z1 r1 e3
  cases d with
  | list ds =>
    cases e4
    obtain ⟨pp, vs, rfl, h1, h2, h3⟩ := n.list
    exact ⟨pp, rfl, .inr ⟨rfl, rfl, rfl, vs, h1, (k.on t).lst z1 (by rw [List.length_reverse]; exact h2) h3.reverse⟩⟩
  | tuple ds =>
    cases e4
    obtain ⟨pp, vs, rfl, h1, h2, h3, _⟩ := n.tup
    refine ⟨pp, rfl, .inl ⟨vs, h1.sq, ?_, ?_⟩⟩
    · rw [pick_rev, List.length_reverse]
      exact h2
    · rw [pick_rev]
      exact (k.on t).tup z1 (by rw [List.length_reverse]; exact h2) h3.reverse
  | _ => cases e4
theorem evens_le : ∀ xs : List PyData, (evens xs).length ≤ xs.length
  | [] => Nat.le_refl _
  | [a] => Nat.le_refl _
  | a :: b :: r => by
    have := evens_le r
    show (evens r).length + 1 ≤ r.length + 1 + 1
    omega
theorem pe_mtwo {j k : Nat} {p3 p4 : Pos} {elo : Option Expr} {lo : Option Int} (h : (k = 0 ∧ (lo = none ∨ lo = some 0)) ∨ (k = 1 ∧ lo = some 1)) (hlo : PO X elo (fun _ H Q => Q lo H)) (ha : PE X ea (tE X.K cal a)) :
    PE X (.Subscript ea (.Slice elo none (some (.Constant (.int 2) j p)) p3) pos) (tE X.K cal (.two k a)) := by
  refine PEm (pe_step (c := none) ha hlo po_nil po_lit (by decide) (by decide) (fun _ _ => rfl)) fun σ H Q ⟨B, ρ, S, Γ, e, S', z, g, q, kk⟩ => ?_
  have q : bd (ev cal a Γ S) (fun x S1 => (oneD (twoD k) S1 x).map fun r => (E.d r, S1)) = some (e, S') := by simpa only [ev] using q
  obtain ⟨x, S1, e1, q⟩ := bd_inv q
  obtain ⟨r, e2, q⟩ := om_inv q
  cases q
  obtain ⟨d, e3, e4⟩ := ob_inv e2
  refine one z g e1 fun u H1 B1 ρ1 t z1 g1 r1 => ?_
  have n := val_ok z1 r1 e3
  cases d with
  | tuple ds =>
    cases e4
    obtain ⟨pp, vs, rfl, h1, h2, h3, _⟩ := n.tup
    have rr := h3.pickS lo none 2
    rw [pick_two ds k lo h] at rr
    have hl : (pickS vs lo none 2).length ≤ sizeLine := by
      rw [rr.length]
      refine Nat.le_trans (evens_le _) (Nat.le_trans ?_ h2)
      rw [List.length_drop, h3.length]
      omega
    exact ⟨pp, rfl, .inl ⟨vs, h1.sq, hl, (kk.on t).tup z1 hl rr⟩⟩
  | _ => cases e4
end
end Pv
set_option maxRecDepth 100000
set_option maxHeartbeats 4000000
/-! ## Methods, isinstance, calls -/
namespace Pv
open PySem PySem.Spec PyProof.Rows L2
section
variable {X : Cx} {cal : Cal} {a b c o : M} {es : Ms} {l : List Expr} {ea eb ec eo : Expr} {pos p p2 apos cpos : Pos} {x : Str}
theorem pa_one (ha : PE X ea (tE X.K cal a)) (he : starEach [ea] X.env = [(false, eval ea X.env)]) : PA X [ea] (tCons (tE X.K cal a) tNil) := pa_cons ha pa_nil (by rw [he]; rfl)
theorem tyV_lst {K : PySem.W.Frag} {H : Hp} {q : Addr} {vs : List V} (h : H q = some (.lst vs)) : tyV K "list" (.ref q) H := .inl ⟨rfl, vs, .of h⟩
theorem few1 (he : starEach [ea] X.env = [(false, eval ea X.env)]) : ((backTo cpos (starEach [ea] X.env)).all (fun x => !x.1) && (backToKw cpos (keywordEach [] X.env)).all (fun x => x.1.isSome)
      && decide ([ea].length + ([] : List Keyword).length + (if ([] : List Keyword).isEmpty then 0 else 1) < 30)) = true := by
  rw [he]
  rfl
theorem pe_mappend (ho : PE X eo (tE X.K cal o)) (ha : PE X ea (tE X.K cal a)) (hbase : attributeBase eo "append" X.env (eval eo X.env) = eval eo X.env) (hline : (apos.endLine == cpos.line) = true) (he : starEach [ea] X.env = [(false, eval ea X.env)]) :
    PE X (.Call (.Attribute eo "append" apos) [ea] [] cpos) (tE X.K cal (.append o a)) := by
  refine PEm (pe_bm PySem.F.plainAttrs_list PySem.F.slot_list_append PySem.F.type_list_append mt_append ho (pa_one ha he) hbase (few1 he) hline (by rw [he]; rfl) rfl) fun σ H Q ⟨B, ρ, S, Γ, e, S', z, g, q, k⟩ => ?_
  have q : bd (ev cal o Γ S) (fun x S1 => bd (ev cal a Γ S1) fun y S2 => (dat y).bind fun v => (match x with
    | .ref l => (S2[l]?).bind fun xs => if xs.length < lineN then some (E.d .none, upS S2 l (xs ++ [v])) else none
    | _ => none)) = some (e, S') := by
    simp only [ev] at q
    exact q
  obtain ⟨y, S1, e1, q⟩ := bd_inv q
  obtain ⟨w, S2, e2, q⟩ := bd_inv q
  obtain ⟨v, e3, q⟩ := ob_inv q
  cases y with
  | d y => cases q
  | ref l =>
    obtain ⟨ds, e4, q⟩ := ob_inv (show (S2[l]?).bind (fun xs => if xs.length < lineN then some (E.d .none, upS S2 l (xs ++ [v])) else none) = some (e, S') from q)
    obtain ⟨hl, q⟩ := if_inv q
    cases q
    refine one z g e1 fun u H1 B1 ρ1 t z1 g1 r1 => ?_
    obtain ⟨pp, h1, rfl⟩ := r1
    obtain ⟨vs0, ds0, h2, h3, h4, h5⟩ := z1.cell l pp h1
    refine ⟨tyV_lst h3, one z1 g1 e2 fun u2 H2 B2 ρ2 t2 z2 g2 r2 => ?_⟩
    obtain ⟨p2, h6, h7⟩ := (show RpE X.K B1 ρ1 H1 (.ref pp) (.ref l) from ⟨pp, h1, rfl⟩).ext t2 z1.inB
    cases h7
    obtain ⟨vs, ds', h8, h9, h10, h11⟩ := z2.cell l pp h6
    rw [h8] at e4
    cases e4
    have hn : vs.length < sizeLine := by
      rw [h11.length, ← lineN_eq]
      exact hl
    have rv : Rp X.K B2 H2 u2 v := by
      cases w with
      | d w => cases e3; exact r2
      | ref w => cases e3
    refine ⟨pp, vs, u2, rfl, rfl, h9, hn, ?_⟩
    exact k _ _ _ _ ((t.trans t2).trans (Ext.wr h6 h9)) (z2.wr h6 h9 (by rw [List.length_append]; exact hn) (h11.append (.cons rv .nil))) .non
theorem pe_mpop (ho : PE X eo (tE X.K cal o)) (hbase : attributeBase eo "pop" X.env (eval eo X.env) = eval eo X.env) (hline : (apos.endLine == cpos.line) = true) :
    PE X (.Call (.Attribute eo "pop" apos) [] [] cpos) (tE X.K cal (.pop o)) := by
  refine PEm (pe_bm0 PySem.F.plainAttrs_list PySem.F.slot_list_pop PySem.F.type_list_pop mt_pop ho hbase hline) fun σ H Q ⟨B, ρ, S, Γ, e, S', z, g, q, k⟩ => ?_
  have q : bd (ev cal o Γ S) (fun x S1 => (match x with
    | .ref l => (S1[l]?).bind fun xs => (xs[xs.length - 1]?).map fun r => (E.d r, upS S1 l xs.dropLast)
    | _ => none)) = some (e, S') := by
    simp only [ev] at q
    exact q
  obtain ⟨y, S1, e1, q⟩ := bd_inv q
  cases y with
  | d y => cases q
  | ref l =>
    obtain ⟨ds, e4, q⟩ := ob_inv (show (S1[l]?).bind (fun xs => (xs[xs.length - 1]?).map fun r => (E.d r, upS S1 l xs.dropLast)) = some (e, S') from q)
    obtain ⟨r, e5, q⟩ := om_inv q
    cases q
    refine one z g e1 fun u H1 B1 ρ1 t z1 g1 r1 => ?_
    obtain ⟨pp, h1, rfl⟩ := r1
    obtain ⟨vs, ds', h2, h3, h4, h5⟩ := z1.cell l pp h1
    rw [h2] at e4
    cases e4
    obtain ⟨y, h6, h7⟩ := h5.get e5
    rw [← h5.length] at h6
    refine ⟨tyV_lst h3, pp, vs, y, rfl, rfl, h3, h6, ?_⟩
    have x1 : Ext ρ1 B1 H1 ρ1 B1 (upd H1 pp (.lst vs.dropLast)) := Ext.wr h1 h3
    refine k _ _ _ _ (t.trans x1) (z1.wr h1 h3 (by rw [List.length_dropLast]; omega) h5.dropLast) (h7.ext x1 z1.inB)
theorem pe_mpopAt (ho : PE X eo (tE X.K cal o)) (ha : PE X ea (tE X.K cal a)) (hbase : attributeBase eo "pop" X.env (eval eo X.env) = eval eo X.env) (hline : (apos.endLine == cpos.line) = true) (he : starEach [ea] X.env = [(false, eval ea X.env)]) :
    PE X (.Call (.Attribute eo "pop" apos) [ea] [] cpos) (tE X.K cal (.popAt o a)) := by
  refine PEm (pe_bm PySem.F.plainAttrs_list PySem.F.slot_list_pop PySem.F.type_list_pop mt_popAt ho (pa_one ha he) hbase (few1 he) hline (by rw [he]; rfl) rfl) fun σ H Q ⟨B, ρ, S, Γ, e, S', z, g, q, k⟩ => ?_
  have q : bd (ev cal o Γ S) (fun x S1 => bd (ev cal a Γ S1) fun y S2 => (match x, y with
    | .ref l, .d (.int i) => (S2[l]?).bind fun xs => (L2.ixN xs.length i).bind fun k => (xs[k]?).map fun r => (E.d r, upS S2 l (xs.eraseIdx k))
    | _, _ => none)) = some (e, S') := by
    simp only [ev] at q
    exact q
  obtain ⟨y, S1, e1, q⟩ := bd_inv q
  obtain ⟨w, S2, e2, q⟩ := bd_inv q
  have q2 : ∃ l i, y = .ref l ∧ w = .d (.int i) ∧ ((S2[l]?).bind fun xs => (L2.ixN xs.length i).bind fun k => (xs[k]?).map fun r => (E.d r, upS S2 l (xs.eraseIdx k))) = some (e, S') := by
    cases y with
    | d y => cases w <;> cases q
    | ref l =>
      cases w with
      | ref w => cases q
      | d w =>
        cases w with
        | int i => exact ⟨l, i, rfl, rfl, q⟩
        | _ => cases q
  · obtain ⟨l, i, ey, ew, q⟩ := q2
    subst ey ew
    obtain ⟨ds, e4, q⟩ := ob_inv q
    obtain ⟨j, e5, q⟩ := ob_inv q
    obtain ⟨r, e6, q⟩ := om_inv q
    cases q
    refine one z g e1 fun u H1 B1 ρ1 t z1 g1 r1 => ?_
    obtain ⟨pp, h1, rfl⟩ := r1
    obtain ⟨vs0, ds0, h2, h3, h4, h5⟩ := z1.cell l pp h1
    refine ⟨tyV_lst h3, one z1 g1 e2 fun u2 H2 B2 ρ2 t2 z2 g2 r2 => ?_⟩
    cases (show Rp X.K B2 H2 u2 (.int i) from r2)
    obtain ⟨p2, h6, h7⟩ := (show RpE X.K B1 ρ1 H1 (.ref pp) (.ref l) from ⟨pp, h1, rfl⟩).ext t2 z1.inB
    cases h7
    obtain ⟨vs, ds', h8, h9, h10, h11⟩ := z2.cell l pp h6
    rw [h8] at e4
    cases e4
    obtain ⟨y, h12, h13⟩ := h11.get e6
    rw [← h11.length] at e5
    obtain ⟨i1, i2, i3, i4⟩ := ixN_seq e5
    have hz := sizeLine_eq
    have x1 : Ext ρ2 B2 H2 ρ2 B2 (upd H2 pp (.lst (vs.eraseIdx j))) := Ext.wr h6 h9
    refine ⟨pp, vs, i, j, y, rfl, rfl, h9, by omega, by omega, i1, h12, ?_⟩
    refine k _ _ _ _ ((t.trans t2).trans x1) (z2.wr h6 h9 (Nat.le_trans ?_ h10) (h11.eraseIdx j)) (h13.ext x1 z2.inB)
    rw [List.length_eraseIdx]
    split <;> omega
theorem findIdx_ok {ds : List PyData} {f : PyData → Bool} {j : Nat} (h : ds.findIdx? f = some j) : ∃ z, ds[j]? = some z ∧ f z = true ∧ ∀ (m : Nat) (z' : PyData), m < j → ds[m]? = some z' → f z' = false := by
  obtain ⟨h1, h2, h3⟩ := List.findIdx?_eq_some_iff_getElem.mp h
  refine ⟨ds[j], List.getElem?_eq_getElem h1, h2, fun m z' hm e => ?_⟩
  obtain ⟨h4, h5⟩ := List.getElem?_eq_some_iff.mp e
  rw [← h5]
  simpa using h3 m hm
theorem pe_mindex (hu : X.A.units + 65 < cLine) (ho : PE X eo (tE X.K cal o)) (ha : PE X ea (tE X.K cal a)) (hbase : attributeBase eo "index" X.env (eval eo X.env) = eval eo X.env) (hline : (apos.endLine == cpos.line) = true) (he : starEach [ea] X.env = [(false, eval ea X.env)]) :
    PE X (.Call (.Attribute eo "index" apos) [ea] [] cpos) (tE X.K cal (.index o a)) := by
  refine PEm (pe_index hu ho (pa_one ha he) hbase hline he) fun σ H Q ⟨B, ρ, S, Γ, e, S', z, g, q, k⟩ => ?_
  have q : bd (ev cal o Γ S) (fun x S1 => bd (ev cal a Γ S1) fun y S2 => (val S2 x).bind fun u => (val S2 y).bind fun v => (indexD u v).map fun r => (E.d r, S2)) = some (e, S') := by simpa only [ev] using q
  obtain ⟨y, S1, e1, q⟩ := bd_inv q
  obtain ⟨w, S2, e2, q⟩ := bd_inv q
  obtain ⟨du, e3, q⟩ := ob_inv q
  obtain ⟨dv, e4, q⟩ := ob_inv q
  obtain ⟨r, e5, q⟩ := om_inv q
  cases q
  obtain ⟨xs, e6, e7⟩ := ob_inv e5
  obtain ⟨⟨s1, s2⟩, e8⟩ := if_inv e7
  obtain ⟨j, e9, e10⟩ := om_inv e8
  cases e10
  obtain ⟨zz, f1, f2, f3⟩ := findIdx_ok e9
  refine one z g e1 fun u H1 B1 ρ1 t z1 g1 r1 => ?_
  -- what is asked of a list, of a tuple
  have fin : ∀ (R : V → List V → Hp → VK → Prop), (∀ H2 B2 ρ2 u2, Ext ρ1 B1 H1 ρ2 B2 H2 → Sr X.K B2 ρ2 _ H2 → RpE X.K B2 ρ2 H2 u y → RpE X.K B2 ρ2 H2 u2 w → R u [u2] H2 Q) → tCons (tE X.K cal a) tNil σ H1 fun ys H2 => R u ys H2 Q := fun R hR =>
    one z1 g1 e2 fun u2 H2 B2 ρ2 t2 z2 g2 r2 => hR H2 B2 ρ2 u2 t2 z2 (r1.ext t2 z1.inB) r2
  cases y with
  | ref l =>
    obtain ⟨pp, h1, rfl⟩ := r1
    obtain ⟨vs, ds, h2, h3, h4, h5⟩ := z1.cell l pp h1
    refine .inl ⟨pp, vs, rfl, .of h3, fin _ fun H2 B2 ρ2 u2 t2 z2 ra rb => ?_⟩
    have n1 := val_ok z2 ra e3
    have n2 := val_ok z2 rb e4
    have ed : du = .list xs := by
      obtain ⟨_, _, e⟩ := om_inv e3
      subst e
      cases e6
      rfl
    subst ed
    exact ⟨pp, u2, dv, xs, j, zz, rfl, rfl, n1.dp s2, n2.dp s1, s2, s1, f1, f2, f3, (k.on (t.trans t2)).now z2 (.int _)⟩
  | d y =>
    cases e3
    cases du with
    | list ds =>
      cases e6
      cases (show Rp X.K B1 H1 u (.list xs) from r1) with
      | lst h1 h2 h3 =>
        refine .inl ⟨_, _, rfl, h1.sq, fin _ fun H2 B2 ρ2 u2 t2 z2 ra rb => ?_⟩
        have n1 := val_ok (d := .list xs) z2 ra rfl
        have n2 := val_ok z2 rb e4
        exact ⟨_, u2, dv, xs, j, zz, rfl, rfl, n1.dp s2, n2.dp s1, s2, s1, f1, f2, f3, (k.on (t.trans t2)).now z2 (.int _)⟩
    | tuple ds =>
      cases e6
      cases (show Rp X.K B1 H1 u (.tuple xs) from r1) with
      | tup h1 h2 h3 =>
        refine .inr ⟨_, _, rfl, h1, fin _ fun H2 B2 ρ2 u2 t2 z2 ra rb => ?_⟩
        have n1 := val_ok (d := .tuple xs) z2 ra rfl
        have n2 := val_ok z2 rb e4
        exact ⟨_, u2, dv, xs, j, zz, rfl, rfl, n1.dp s2, n2.dp s1, s2, s1, f1, f2, f3, (k.on (t.trans t2)).now z2 (.int _)⟩
    | _ => cases e6
end
end Pv
set_option maxRecDepth 100000
set_option maxHeartbeats 4000000
/-! ## isinstance, calls of defs -/
namespace Pv
open PySem PySem.Spec PyProof.Rows L2
section
variable {X : Cx} {cal : Cal} {a b c o : M} {es : Ms} {l : List Expr} {ea eb ec eo : Expr} {pos p p2 apos cpos : Pos} {x : Str}
theorem RpN.ty {K : PySem.W.Frag} {B : List Addr} {H : Hp} {v : V} {d : PyData} (h : RpN K B H v d) : TyX K H v (.type (tyOf d)) := by
  cases h with
  | of h =>
    cases h with
    | non => exact .base .non
    | bl b => exact .base (.bl b)
    | int i => exact .base (.int i)
    | str s => exact .base (.str s)
    | tup h _ _ =>
      rcases h with ⟨ob, h, _⟩ | ⟨ob, ws, n, h1, h2, _⟩
      · exact .fTuple h
      · exact .kTuple h1 h2
    | lst h _ _ =>
      rcases h with ⟨h | ⟨ob, h⟩, _⟩ | ⟨ob, ws, n, h1, h2, _⟩
      · exact .base (.lst h)
      · exact .base (.frz h)
      · exact .kList h1 h2
    | dct h _ =>
      rcases h with h | ⟨ob, h⟩
      · exact .base (.dK h)
      · exact .fDict h
  | now h _ _ => exact .base (.lst h)
def isTyS (s : String) (t : Ty) : Bool := s == t.nm || (s == "bool" && t.nm == "int")
theorem isTy_eq (d : PyData) (t : Ty) : isTy d t = isTyS (tyOf d) t := by
  cases d <;> cases t <;> first | rfl | decide
theorem kit_all : ∀ s ∈ ["NoneType", "bool", "int", "str", "list", "tuple", "dict"], ∀ t ∈ [Ty.int, Ty.bool, Ty.str, Ty.list, Ty.tuple, Ty.dict], kitB s t.nm = some (isTyS s t) := by decide +kernel
theorem kit1 {K : PySem.W.Frag} (d : PyData) (t : Ty) : PySem.W.kitOne K (.type (tyOf d)) (.type t.nm) = some (isTy d t) := by
  rw [isTy_eq]
  refine kit_ty (kit_all _ ?_ _ ?_)
  · cases d <;> simp [tyOf]
  · cases t <;> simp
theorem kitN {K : PySem.W.Frag} (d : PyData) : ∀ ts : List Ty, PySem.W.kitAny K (.type (tyOf d)) (ts.map fun t => .type t.nm) = some (ts.any fun t => isTy d t)
  | [] => rfl
  | t :: ts => by
    show PySem.W.kitAny K (.type (tyOf d)) (.type t.nm :: ts.map fun t => .type t.nm) = _
    refine kitAny_cons (b := isTy d t) (kit1 d t) (fun e => ?_) fun e => ?_
    · rw [List.any_cons, e, Bool.false_or]
      exact kitN d ts
    · rw [List.any_cons, e, Bool.true_or]
/-- the classes of a tuple display -/
theorem cls_all : ∀ ts : List Ty, Paired ClsV (ts.map fun t => V.ty t.nm) (ts.map fun t => Value.type t.nm)
  | [] => .nil
  | t :: ts => .cons (.ty _) (cls_all ts)
theorem isin_go {K : PySem.W.Frag} {σ : L2.St} {H : Hp} {B ρ : List Addr} {S S' : Sto} {Γ : Ev} {e : E} {Q : VK} {ts : List Ty} (z : Sr K B ρ S H) (g : RpG K B ρ H σ Γ) (q : ev cal (.isin a ts) Γ S = some (e, S')) (k : Pst K B ρ H S' e Q)
    (R : V → Hp → Prop) (hR : ∀ u H1 B1 ρ1 d, Sr K B1 ρ1 S' H1 → RpN K B1 H1 u d → (∀ H', Same H1 H' → Q (.bl (ts.any fun t => isTy d t)) H') → R u H1) : tE K cal a σ H R := by
  have q : bd (ev cal a Γ S) (fun x S1 => (val S1 x).map fun u => (E.d (.bool (ts.any fun t => isTy u t)), S1)) = some (e, S') := by simpa only [ev] using q
  obtain ⟨y, S1, e1, q⟩ := bd_inv q
  obtain ⟨d, e2, q⟩ := om_inv q
  cases q
  exact one z g e1 fun u H1 B1 ρ1 t z1 g1 r1 => hR u H1 B1 ρ1 d z1 (val_ok z1 r1 e2) fun H' hs => k _ _ _ _ (t.trans (Ext.same hs)) (z1.same hs) (.bl _)
theorem pe_misin1 {t : Ty} {ty : Expr} (hg : Gl X "isinstance") (hm : X.mg "isinstance" = none) (ha : PE X ea (tE X.K cal a)) (ht : PE X ty (tC (.ty t.nm))) (he : starEach [ea, ty] X.env = [(false, eval ea X.env), (false, eval ty X.env)]) (he2 : starEach [ty] X.env = [(false, eval ty X.env)]) :
    PE X (.Call (.Name "isinstance" p) [ea, ty] [] pos) (tE X.K cal (.isin a [t])) := by
  refine PEm (pe_callB call_isi hg hm PyProof.Rows.boot_isinstance (pa_cons ha (pa_cons ht pa_nil (by rw [he2]; rfl)) (by rw [he, he2])) (by decide) (by decide) (by rw [he, he2]) (by rw [he2]; rfl)) fun σ H Q ⟨B, ρ, S, Γ, e, S', z, g, q, k⟩ => ?_
  refine isin_go z g q k _ fun u H1 B1 ρ1 d z1 n w => ?_
  refine ⟨u, .ty t.nm, .type (tyOf d), .type t.nm, isTy d t, rfl, .ty _, n.ty, kit1 d t, ?_⟩
  have := w H1 (Same.refl _)
  simpa using this
theorem pe_misinT {ts : List Ty} {tys : List Expr} {k0 : Nat} {p3 : Pos} (hl : ts.length ≤ 15) (hg : Gl X "isinstance") (hm : X.mg "isinstance" = none) (ha : PE X ea (tE X.K cal a)) (ht : PA X tys (fun _ H Q => Q (ts.map fun t => V.ty t.nm) H))
    (he : starEach [ea, .Tuple tys k0 p3] X.env = [(false, eval ea X.env), (false, eval (.Tuple tys k0 p3) X.env)]) :
    PE X (.Call (.Name "isinstance" p) [ea, .Tuple tys k0 p3] [] pos) (tE X.K cal (.isin a ts)) := by
  refine PEm (pe_callB call_isiT hg hm PyProof.Rows.boot_isinstance (pa_cons ha (pa_cons (pe_tup ht) pa_nil rfl) (by rw [he]; rfl)) (by decide) (by decide) (by rw [he]; rfl) rfl) fun σ H Q ⟨B, ρ, S, Γ, e, S', z, g, q, k⟩ => ?_
  refine isin_go z g q k _ fun u H1 B1 ρ1 d z1 n w => ?_
  refine ⟨by rw [List.length_map, sizeLine_eq]; omega, fun tp htp => ?_⟩
  have hs : Same H1 (upd H1 tp (.tup (ts.map fun t => V.ty t.nm))) := same_lay htp
  refine ⟨u, tp, ts.map fun t => V.ty t.nm, .type (tyOf d), ts.map fun t => .type t.nm, _, rfl, upd_same, cls_all ts, ?_, kitN d ts, w _ hs⟩
  have n2 : RpN X.K B1 (upd H1 tp (.tup (ts.map fun t => V.ty t.nm))) u d := by
    cases n with
    | of n => exact .of (n.ext (Ext.same (ρ := ρ1) hs) z1.inB)
    | now h1 h2 h3 => exact .now (hs _ _ h1) h2 (h3.ext (Ext.same (ρ := ρ1) hs) z1.inB)
  exact n2.ty
/-! ### calls of defs -/
/-- what a def promises: what cal tells -/
def spC (K : PySem.W.Frag) (cal : Cal) (n i : Nat) : Sp := fun vs H Q _ => ∃ B ρ S es r S', vs.length = n ∧ Sr K B ρ S H ∧ RpEs K B ρ H vs es ∧ cal i es S = some (r, S') ∧ Pst K B ρ H S' r Q
theorem call_len {es : Ms} {Γ : Ev} {S S' : Sto} {xs : List E} (h : evs cal es Γ S = some (xs, S')) : True := True.intro
theorem pe_mcall {i n k : Nat} {f : Addr} {fd : FuncData} {ps : List Str} (F : FnOk X.prog X.w X.K X.mg X.base CX0 k f fd ps (spC X.K cal n i)) (hr : Room k X.A) (hg : Gl X x) (hm : X.mg x = some (.ref f)) (hk : PySem.W.keepIn X.K (.ref f) = true) (hb : Binds X.K fd ps [])
    (ha : PA X (ea :: l) (tL X.K cal es)) (hn : ∀ Γ S xs S', evs cal es Γ S = some (xs, S') → xs.length = n) (hdb : (x == ("__debug__" : Str)) = false) (he : starEach (ea :: l) X.env = (false, eval ea X.env) :: starEach l X.env) (hpl : (backTo pos (starEach l X.env)).any (·.1) = false) :
    PE X (.Call (.Name x p) (ea :: l) [] pos) (tE X.K cal (.call i es)) := by
  refine PEm (pe_call F hr hg hm hk hb .nil pass0 ha hdb he hpl) fun σ H Q ⟨B, ρ, S, Γ, e, S', z, g, q, k⟩ => ?_
  have q : bd (evs cal es Γ S) (fun xs S1 => cal i xs S1) = some (e, S') := by simpa only [ev] using q
  obtain ⟨xs, S1, e1, q⟩ := bd_inv q
  refine oneA z g e1 fun us H1 B1 ρ1 t z1 g1 r => ?_
  refine ⟨B1, ρ1, S1, xs, e, S', ?_, z1, ?_, q, k.on t⟩
  · rw [List.append_nil, r.length]
    exact hn _ _ _ _ e1
  · rw [List.append_nil]
    exact r
theorem pe_mcall0 {i k : Nat} {f : Addr} {fd : FuncData} {ps : List Str} (F : FnOk X.prog X.w X.K X.mg X.base CX0 k f fd ps (spC X.K cal 0 i)) (hr : Room k X.A) (hg : Gl X x) (hm : X.mg x = some (.ref f)) (hk : PySem.W.keepIn X.K (.ref f) = true) (hb : Binds X.K fd ps [])
    (hdb : (x == ("__debug__" : Str)) = false) : PE X (.Call (.Name x p) [] [] pos) (tE X.K cal (.call i .nil)) := by
  refine PEm (pe_call0 F hr hg hm hk hb .nil pass0 hdb) fun σ H Q ⟨B, ρ, S, Γ, e, S', z, g, q, k⟩ => ?_
  have q : cal i [] S = some (e, S') := by simpa only [ev, evs, bd_some] using q
  exact ⟨B, ρ, S, [], e, S', rfl, z, .nil, q, k⟩
/-- keywords' values -/
structure MKs (X : Cx) (cal : Cal) (es : Ms) (kws : List Keyword) : Prop where
  pk : PK X kws (tL X.K cal es)
theorem PKm {kws : List Keyword} {t t' : TA} (h : PK X kws t) (k : ∀ σ H Q, t' σ H Q → t σ H Q) : PK X kws t' := ⟨fun pos pins s σ H Q I q => h.run pos pins s σ H Q I (k _ _ _ q)⟩
theorem pk_mnil : PK X [] (tL X.K cal .nil) := by
  refine PKm pk_nil fun σ H Q ⟨B, ρ, S, Γ, es, S', z, g, q, k⟩ => ?_
  have q : some (([] : List E), S) = some (es, S') := by simpa only [evs] using q
  cases q
  exact k _ _ _ _ Ext.refl z .nil
theorem pk_mcons {kws : List Keyword} {nm : Option Str} {kp : Pos} (h1 : PE X ea (tE X.K cal a)) (h2 : PK X kws (tL X.K cal es)) : PK X (⟨nm, ea, kp⟩ :: kws) (tL X.K cal (.cons a es)) := by
  refine PKm (pk_cons h1 h2) fun σ H Q ⟨B, ρ, S, Γ, zs, S', z, g, q, k⟩ => ?_
  have q : bd (ev cal a Γ S) (fun x S1 => bd (evs cal es Γ S1) fun xs S2 => some (x :: xs, S2)) = some (zs, S') := by simpa only [evs] using q
  obtain ⟨x, S1, e1, q⟩ := bd_inv q
  obtain ⟨xs, S2, e2, q⟩ := bd_inv q
  cases q
  exact one z g e1 fun u H1 B1 ρ1 t z1 g1 r => oneA z1 g1 e2 fun us H2 B2 ρ2 t2 z2 g2 r2 => k _ _ _ _ (t.trans t2) z2 (.cons (r.ext t2 z1.inB) r2)
/-- the parameters' values picked out of the keywords' -/
def pickL {α : Type} (xs : List α) : List Nat → List α
  | [] => []
  | i :: r => (match xs[i]? with
    | some v => v :: pickL xs r
    | none => pickL xs r)
theorem pick_rp {K : PySem.W.Frag} {B ρ : List Addr} {H : Hp} {vs : List V} {es : List E} (r : RpEs K B ρ H vs es) : ∀ {ix : List Nat} {ys : List E}, pick es ix = some ys → RpEs K B ρ H (pickL vs ix) ys ∧ ys.length = ix.length
  | [], _, e => by
    cases e
    exact ⟨.nil, rfl⟩
  | i :: ix, ys, e => by
    obtain ⟨y, e1, e2⟩ := ob_inv (show (es[i]?).bind (fun e => (pick es ix).map (e :: ·)) = some ys from e)
    obtain ⟨zs, e3, e4⟩ := om_inv e2
    cases e4
    have get : ∀ {vs : List V} {es : List E} {i : Nat}, RpEs K B ρ H vs es → es[i]? = some y → ∃ v, vs[i]? = some v ∧ RpE K B ρ H v y := by
      intro vs es i r
      induction r generalizing i with
      | nil => intro e; simp at e
      | cons h r ih =>
        intro e
        cases i with
        | zero => simp at e; subst e; exact ⟨_, rfl, h⟩
        | succ i => simpa using ih (by simpa using e)
    obtain ⟨v, h1, h2⟩ := get r e1
    obtain ⟨h3, h4⟩ := pick_rp r e3
    refine ⟨?_, by rw [List.length_cons, List.length_cons, h4]⟩
    simp only [pickL, h1]
    exact .cons h2 h3
theorem pe_mcallk {i n k : Nat} {f : Addr} {fd : FuncData} {ps ks : List Str} {ix : List Nat} {kws : List Keyword} {gK : List Value → List Value → List Value} (F : FnOk X.prog X.w X.K X.mg X.base CX0 k f fd ps (spC X.K cal n i)) (hr : Room k X.A) (hg : Gl X x) (hm : X.mg x = some (.ref f)) (hk : PySem.W.keepIn X.K (.ref f) = true)
    (hb : KBn X.K fd ps 0 ks gK fun _ zs => pickL zs ix) (hn : ∀ Γ S xs S', evs cal es Γ S = some (xs, S') → xs.length = ks.length) (hix : ix.length = n) (hkw : PK X kws (tL X.K cal es))
    (hall : (backToKw pos (keywordEach kws X.env)).all (·.1.isSome) = true) (hks : (backToKw pos (keywordEach kws X.env)).filterMap (·.1) = ks) (hdb : (x == ("__debug__" : Str)) = false)
    (hpl : ((backTo pos (starEach [] X.env)).any (·.1) || (backToKw pos (keywordEach kws X.env)).any (·.1.isNone)) = false) : PE X (.Call (.Name x p) [] kws pos) (tE X.K cal (.callk i ks ix es)) := by
  refine PEm (pe_callK0 F hr hg hm hk hb hkw hall hks hdb hpl) fun σ H Q ⟨B, ρ, S, Γ, e, S', z, g, q, k⟩ => ?_
  have q : bd (evs cal es Γ S) (fun xs S1 => (pick xs ix).bind fun ys => cal i ys S1) = some (e, S') := by simpa only [ev] using q
  obtain ⟨xs, S1, e1, q⟩ := bd_inv q
  obtain ⟨ys, e2, q⟩ := ob_inv q
  refine oneA z g e1 fun us H1 B1 ρ1 t z1 g1 r => ?_
  obtain ⟨h3, h4⟩ := pick_rp r e2
  exact ⟨r.length.trans (hn _ _ _ _ e1), B1, ρ1, S1, ys, e, S', by rw [h3.length, h4, hix], z1, h3, q, k.on t⟩
end
end Pv
set_option maxRecDepth 100000
set_option maxHeartbeats 4000000
/-! ## Targets, what is walked -/
namespace Pv
open PySem PySem.Spec PyProof.Rows L2
/-! ### slots -/
theorem setV_ok : ∀ {Γ : Ev} {i : Nat} {e : E} {Γ' : Ev}, setV Γ i e = some Γ' → Γ'.length = Γ.length ∧ i < Γ.length ∧ ∀ j, getV Γ' j = if j = i then some e else getV Γ j
  | _ :: r, 0, e, _, h => by
    cases h
    refine ⟨rfl, by simp, fun j => ?_⟩
    cases j with
    | zero => simp [getV]
    | succ j => simp [getV]
  | x :: r, i + 1, e, Γ', h => by
    obtain ⟨Γ1, h1, h2⟩ := om_inv (show (setV r i e).map (x :: ·) = some Γ' from h)
    subst h2
    obtain ⟨k1, k2, k3⟩ := setV_ok h1
    refine ⟨by simp [k1], by simpa using k2, fun j => ?_⟩
    cases j with
    | zero => simp [getV]
    | succ j =>
      show getV Γ1 j = _
      rw [k3 j]
      simp [getV]
theorem wipe1_get : ∀ (Γ : Ev) (i j : Nat), getV (wipe1 Γ i) j = if j = i then none else getV Γ j
  | [], i, j => by simp [wipe1, getV]
  | _ :: r, 0, j => by
    cases j with
    | zero => simp [wipe1, getV]
    | succ j => simp [wipe1, getV]
  | x :: r, i + 1, j => by
    cases j with
    | zero => simp [wipe1, getV]
    | succ j =>
      show getV (wipe1 r i) j = _
      rw [wipe1_get r i j]
      simp [getV]
theorem wipe1_len : ∀ (Γ : Ev) (i : Nat), (wipe1 Γ i).length = Γ.length
  | [], _ => rfl
  | _ :: _, 0 => rfl
  | _ :: r, i + 1 => by simp [wipe1, wipe1_len r i]
theorem wipeV_get (Γ : Ev) : ∀ (vs : List Nat) (j : Nat), getV (wipeV Γ vs) j = if j ∈ vs then none else getV Γ j
  | [], j => by simp [wipeV]
  | v :: vs, j => by
    show getV (wipe1 (wipeV Γ vs) v) j = _
    rw [wipe1_get, wipeV_get Γ vs j]
    by_cases h : j = v
    · simp [h]
    · simp [h]
theorem wipeV_len (Γ : Ev) : ∀ vs : List Nat, (wipeV Γ vs).length = Γ.length
  | [] => rfl
  | v :: vs => by
    show (wipe1 (wipeV Γ vs) v).length = _
    rw [wipe1_len, wipeV_len Γ vs]
theorem wipe_in {σ : L2.St} {i : Nat} : ∀ {vs : List Nat}, i ∈ vs → i < σ.length → (wipe σ vs)[i]? = some none
  | v :: vs, h, hl => by
    unfold wipe
    by_cases e : v = i
    · subst e
      rw [List.getElem?_set_self (by rw [wipe_length]; exact hl)]
    · rw [List.getElem?_set_ne e]
      rcases List.mem_cons.mp h with h | h
      · exact absurd h.symm e
      · exact wipe_in h hl
theorem wipe_eq {σ τ : L2.St} {vs : List Nat} (hl : τ.length = σ.length) (h : ∀ i, i ∉ vs → τ[i]? = σ[i]?) : wipe τ vs = wipe σ vs := by
  apply List.ext_getElem?
  intro i
  by_cases hi : i ∈ vs
  · by_cases hl2 : i < σ.length
    · rw [wipe_in hi hl2, wipe_in hi (hl ▸ hl2)]
    · rw [List.getElem?_eq_none (by rw [wipe_length, hl]; omega), List.getElem?_eq_none (by rw [wipe_length]; omega)]
  · rw [wipe_out hi, wipe_out hi]
    exact h i hi
theorem wipe_wipe (σ : L2.St) (vs : List Nat) : wipe (wipe σ vs) vs = wipe σ vs := wipe_eq (wipe_length _ _) fun i hi => wipe_out hi
section
variable {K : PySem.W.Frag} {B ρ : List Addr} {H : Hp} {σ : L2.St} {Γ Γ' : Ev} {v : V} {e : E} {i : Nat}
theorem RpG.set (g : RpG K B ρ H σ Γ) (h : setV Γ i e = some Γ') (r : RpE K B ρ H v e) : RpG K B ρ H (σ.set i (some v)) Γ' := by
  obtain ⟨k1, k2, k3⟩ := setV_ok h
  refine ⟨by simp [k1, g.1], fun j f hf => ?_⟩
  rw [k3 j] at hf
  by_cases hj : j = i
  · subst hj
    rw [if_pos rfl] at hf
    cases hf
    exact ⟨v, List.getElem?_set_self (by rw [g.1]; exact k2), r⟩
  · rw [if_neg hj] at hf
    rw [List.getElem?_set_ne (Ne.symm hj)]
    exact g.2 j f hf
theorem RpG.wipe (g : RpG K B ρ H σ Γ) (vs : List Nat) : RpG K B ρ H (L2.wipe σ vs) (wipeV Γ vs) := by
  refine ⟨by rw [wipe_length, wipeV_len, g.1], fun j f hf => ?_⟩
  rw [wipeV_get] at hf
  by_cases hj : j ∈ vs
  · rw [if_pos hj] at hf
    cases hf
  · rw [if_neg hj] at hf
    rw [wipe_out hj]
    exact g.2 j f hf
end
/-! ### targets of walks -/
def Tg.slots : Tg → List Nat
  | .nm i => [i]
  | .tp is => is
def gN (is : List Nat) : TGs := match is with
  | [] => gNil
  | i :: is => gCons (gName i) (gN is)
/-- a target's reading -/
def tG (K : PySem.W.Frag) (t : Tg) : TG := fun v σ H Q => ∃ B ρ S Γ d Γ', Sr K B ρ S H ∧ RpG K B ρ H σ Γ ∧ Rp K B H v d ∧ tgt t d Γ = some Γ' ∧
  ∀ σ', σ'.length = σ.length → (∀ i, i ∉ t.slots → σ'[i]? = σ[i]?) → RpG K B ρ H σ' Γ' → Q σ' H
theorem PGm {X : Cx} {e : Expr} {t t' : TG} (h : PG X e t) (k : ∀ v σ H Q, t' v σ H Q → t v σ H Q) : PG X e t' := ⟨fun pins s σ H v u Q I r q => h.run pins s σ H v u Q I r (k _ _ _ _ q)⟩
theorem gN_ok {K : PySem.W.Frag} {B ρ : List Addr} {H : Hp} : ∀ {is : List Nat} {σ : L2.St} {Γ Γ' : Ev} {vs : List V} {ds : List PyData} {Q : L2.St → Hp → Prop}, RpG K B ρ H σ Γ → RpL K B H vs ds → setsV Γ is ds = some Γ' →
    (∀ σ', σ'.length = σ.length → (∀ i, i ∉ is → σ'[i]? = σ[i]?) → RpG K B ρ H σ' Γ' → Q σ' H) → gN is vs σ H Q
  | [], σ, Γ, Γ', vs, ds, Q, g, r, h, k => by
    cases ds with
    | nil =>
      cases r
      cases h
      exact ⟨rfl, k σ rfl (fun _ _ => rfl) g⟩
    | cons d ds => cases h
  | i :: is, σ, Γ, Γ', vs, ds, Q, g, r, h, k => by
    cases ds with
    | nil => cases h
    | cons d ds =>
      obtain ⟨Γ1, h1, h2⟩ := ob_inv (show (setV Γ i (.d d)).bind (fun Γ' => setsV Γ' is ds) = some Γ' from h)
      cases r with
      | cons r1 r2 =>
        refine ⟨_, _, rfl, gN_ok (g.set h1 r1) r2 h2 fun σ' e1 e2 g' => k σ' (by rw [e1, List.length_set]) (fun j hj => ?_) g'⟩
        rw [e2 j fun m => hj (List.mem_cons_of_mem _ m), List.getElem?_set_ne fun e => hj (by rw [e]; exact List.mem_cons_self)]
section
variable {X : Cx} {pos : Pos} {x : Str}
theorem pg_mname {i : Nat} (h : PG X (.Name x pos) (gName i)) : PG X (.Name x pos) (tG X.K (.nm i)) := by
  refine PGm h fun v σ H Q ⟨B, ρ, S, Γ, d, Γ', z, g, r, q, k⟩ => ?_
  have q : setV Γ i (.d d) = some Γ' := q
  refine k _ (by rw [List.length_set]) (fun j hj => ?_) (g.set q r)
  rw [List.getElem?_set_ne fun e => hj (by rw [e]; exact List.mem_singleton.mpr rfl)]
theorem pg_mtup {is : List Nat} {es : List Expr} {k0 : Nat} (h : PG X (.Tuple es k0 pos) (gTup X.K is.length (gN is))) : PG X (.Tuple es k0 pos) (tG X.K (.tp is)) := by
  refine PGm h fun v σ H Q ⟨B, ρ, S, Γ, d, Γ', z, g, r, q, k⟩ => ?_
  cases d with
  | tuple ds =>
    have q : setsV Γ is ds = some Γ' := q
    cases r with
    | tup h1 h2 h3 =>
      have hl : ∀ {is : List Nat} {Γ Γ' : Ev} {ds : List PyData}, setsV Γ is ds = some Γ' → ds.length = is.length := by
        intro is
        induction is with
        | nil =>
          intro Γ Γ' ds h
          cases ds with
          | nil => rfl
          | cons _ _ => cases h
        | cons i is ih =>
          intro Γ Γ' ds h
          cases ds with
          | nil => cases h
          | cons d ds =>
            obtain ⟨Γ1, _, h2⟩ := ob_inv (show (setV Γ i (.d d)).bind (fun Γ' => setsV Γ' is ds) = some Γ' from h)
            rw [List.length_cons, List.length_cons, ih h2]
      exact ⟨_, _, rfl, h1.sq, by rw [h3.length, hl q], gN_ok g h3 q fun σ' e1 e2 g' => k σ' e1 e2 g'⟩
  | _ => cases q
end
/-! ### what is walked -/
def ItOk (K : PySem.W.Frag) (J : It) (xs : List PyData) (mon : Mon) (ρ0 B0 : List Addr) (H0 : Hp) : Prop :=
  xs.length ≤ sizeLine ∧ ∀ ρ B S H, Ext ρ0 B0 H0 ρ B H → Sr K B ρ S H → monOk mon S →
    J.stop xs.length H ∧ ∀ i d, xs[i]? = some d → J.go i H ∧ ∀ x H', J.yld i H x H' → Same H H' ∧ Rp K B H' x d
def tI (K : PySem.W.Frag) (cal : Cal) (m : Mi) : TI := fun σ H R => ∃ B ρ S Γ xs mon S', Sr K B ρ S H ∧ RpG K B ρ H σ Γ ∧ evI cal m Γ S = some ((xs, mon), S') ∧
  ∀ J H' B' ρ', Ext ρ B H ρ' B' H' → Sr K B' ρ' S' H' → ItOk K J xs mon ρ' B' H' → R J H'
theorem PIm {X : Cx} {tg e : Expr} {t t' : TI} (h : PI X tg e t) (k : ∀ σ H R, t' σ H R → t σ H R) : PI X tg e t' := ⟨fun pins s σ H R I q => h.run pins s σ H R I (k _ _ _ q)⟩
theorem pi_or {X : Cx} {tg e : Expr} {t t' : TI} (h : PI X tg e t) (h' : PI X tg e t') : PI X tg e fun σ H R => t σ H R ∨ t' σ H R :=
  ⟨fun pins s σ H R I q => q.elim (h.run pins s σ H R I) (h'.run pins s σ H R I)⟩
section
variable {X : Cx} {cal : Cal} {a b : M} {tg ea eb : Expr} {pos p : Pos}
theorem it_fz {K : PySem.W.Frag} {B0 ρ0 : List Addr} {S0 : Sto} {H0 : Hp} {q : Addr} {vs : List V} {ds : List PyData} (z0 : Sr K B0 ρ0 S0 H0) (h : Fz K B0 H0 q vs) (hl : vs.length ≤ sizeLine) (r : RpL K B0 H0 vs ds) : ItOk K (Itl K q) ds none ρ0 B0 H0 := by
  refine ⟨r.length ▸ hl, fun ρ B S H x z _ => ?_⟩
  have s := (h.ext x z0.inB).sq
  have r' := r.ext x z0.inB
  refine ⟨⟨vs, s, by rw [r.length]; exact Nat.le_refl _⟩, fun i d e => ?_⟩
  obtain ⟨v, h1, h2⟩ := r'.get e
  refine ⟨⟨vs, v, s, h1⟩, fun y H' ⟨e1, e2⟩ => ?_⟩
  subst e1
  have := e2 vs s
  rw [h1] at this
  cases this
  exact ⟨Same.refl _, h2⟩
theorem it_tz {K : PySem.W.Frag} {B0 ρ0 : List Addr} {S0 : Sto} {H0 : Hp} {q : Addr} {vs : List V} {ds : List PyData} (z0 : Sr K B0 ρ0 S0 H0) (h : Tz K H0 q vs) (hl : vs.length ≤ sizeLine) (r : RpL K B0 H0 vs ds) : ItOk K (Itt K q) ds none ρ0 B0 H0 := by
  refine ⟨r.length ▸ hl, fun ρ B S H x z _ => ?_⟩
  have s := (h.ext x).sq
  have r' := r.ext x z0.inB
  refine ⟨⟨vs, s, by rw [r.length]; exact Nat.le_refl _⟩, fun i d e => ?_⟩
  obtain ⟨v, h1, h2⟩ := r'.get e
  refine ⟨⟨vs, v, s, h1⟩, fun y H' ⟨e1, e2⟩ => ?_⟩
  subst e1
  have := e2 vs s
  rw [h1] at this
  cases this
  exact ⟨Same.refl _, h2⟩
theorem it_ref {K : PySem.W.Frag} {B0 ρ0 : List Addr} {S0 : Sto} {H0 : Hp} {q : Addr} {l : Nat} {ds : List PyData} (z0 : Sr K B0 ρ0 S0 H0) (h : ρ0[l]? = some q) (hd : S0[l]? = some ds) : ItOk K (Itl K q) ds (some (l, ds)) ρ0 B0 H0 := by
  obtain ⟨vs0, ds0, e1, e2, e3, e4⟩ := z0.cell l q h
  rw [hd] at e1
  cases e1
  refine ⟨e4.length ▸ e3, fun ρ B S H x z m => ?_⟩
  have hq : ρ[l]? = some q := by
    obtain ⟨more, e⟩ := x.pre
    rw [e, List.getElem?_append_left (List.getElem?_eq_some_iff.mp h).1]
    exact h
  obtain ⟨vs, ds', f1, f2, f3, f4⟩ := z.cell l q hq
  rw [show S[l]? = some ds from m] at f1
  cases f1
  refine ⟨⟨vs, .of f2, by rw [f4.length]; exact Nat.le_refl _⟩, fun i d e => ?_⟩
  obtain ⟨v, h1, h2⟩ := f4.get e
  refine ⟨⟨vs, v, .of f2, h1⟩, fun y H' ⟨e1, e2⟩ => ?_⟩
  subst e1
  have := e2 vs (.of f2)
  rw [h1] at this
  cases this
  exact ⟨Same.refl _, h2⟩
theorem pi_mval (ha : PE X ea (tE X.K cal a)) : PI X tg ea (tI X.K cal (.val a)) := by
  refine PIm (pi_or (pi_list ha) (pi_tup ha)) fun σ H R ⟨B, ρ, S, Γ, xs, mon, S', z, g, q, k⟩ => ?_
  have q : bd (ev cal a Γ S) (fun x S1 => (match x with
    | .d x => (elems x).map fun xs => ((xs, (none : Mon)), S1)
    | .ref l => (S1[l]?).map fun xs => ((xs, some (l, xs)), S1))) = some ((xs, mon), S') := by
    simp only [evI] at q
    exact q
  obtain ⟨y, S1, e1, q⟩ := bd_inv q
  cases y with
  | ref l =>
    obtain ⟨ds, e2, e3⟩ := om_inv (show (S1[l]?).map (fun xs => ((xs, some (l, xs)), S1)) = some ((xs, mon), S') from q)
    cases e3
    refine .inl (one z g e1 fun u H1 B1 ρ1 t z1 g1 r => ?_)
    obtain ⟨pp, h1, rfl⟩ := r
    obtain ⟨vs, ds', h2, h3, h4, h5⟩ := z1.cell l pp h1
    exact ⟨pp, rfl, ⟨vs, .of h3⟩, k _ _ _ _ t z1 (it_ref z1 h1 e2)⟩
  | d y =>
    obtain ⟨ds, e2, e3⟩ := om_inv (show (elems y).map (fun xs => ((xs, (none : Mon)), S1)) = some ((xs, mon), S') from q)
    cases e3
    cases y with
    | list ds =>
      cases e2
      refine .inl (one z g e1 fun u H1 B1 ρ1 t z1 g1 r => ?_)
      cases (show Rp X.K B1 H1 u (.list xs) from r) with
      | lst h1 h2 h3 => exact ⟨_, rfl, ⟨_, h1.sq⟩, k _ _ _ _ t z1 (it_fz z1 h1 h2 h3)⟩
    | tuple ds =>
      cases e2
      refine .inr (one z g e1 fun u H1 B1 ρ1 t z1 g1 r => ?_)
      cases (show Rp X.K B1 H1 u (.tuple xs) from r) with
      | tup h1 h2 h3 => exact ⟨_, rfl, ⟨_, h1.sq⟩, k _ _ _ _ t z1 (it_tz z1 h1 h2 h3)⟩
    | _ => cases e2
theorem it_rng {K : PySem.W.Frag} {B0 ρ0 : List Addr} {H0 : Hp} {lo : Int} {n : Nat} (hn : n ≤ sizeLine) : ItOk K (Itr lo n) ((List.range n).map fun (k : Nat) => PyData.int (lo + (k : Int))) none ρ0 B0 H0 := by
  refine ⟨by simpa using hn, fun ρ B S H x z _ => ⟨by show n ≤ _; simp, fun i d e => ?_⟩⟩
  rw [List.getElem?_map] at e
  by_cases hi : i < n
  · rw [List.getElem?_range hi] at e
    cases e
    refine ⟨hi, fun y H' ⟨e1, e2⟩ => ?_⟩
    subst e1 e2
    exact ⟨Same.refl _, .int _⟩
  · rw [List.getElem?_eq_none (by simpa using hi)] at e
    cases e
theorem pi_mrng (hg : Gl X "range") (hm : X.mg "range" = none) (ha : PE X ea (tE X.K cal a)) (he : starEach [ea] X.env = [(false, eval ea X.env)]) : PI X tg (.Call (.Name "range" p) [ea] [] pos) (tI X.K cal (.rng a)) := by
  refine PIm (pi_range1 hg hm (pa_one ha he) he) fun σ H R ⟨B, ρ, S, Γ, xs, mon, S', z, g, q, k⟩ => ?_
  simp only [evI] at q
  obtain ⟨y, S1, e1, q⟩ := bd_inv q
  split at q
  · rename_i n
    obtain ⟨h1, h2⟩ := if_inv q
    cases h2
    refine one z g e1 fun u H1 B1 ρ1 t z1 g1 r1 => ?_
    cases (show Rp X.K B1 H1 u (.int n) from r1)
    refine ⟨n, rfl, by omega, by omega, k _ _ _ _ t z1 ?_⟩
    have := it_rng (K := X.K) (B0 := B1) (ρ0 := ρ1) (H0 := H1) (lo := 0) (n := n.toNat) (by rw [sizeLine_eq]; omega)
    simpa only [Int.zero_add] using this
  · cases q
theorem pi_mrng2 (hg : Gl X "range") (hm : X.mg "range" = none) (ha : PE X ea (tE X.K cal a)) (hb : PE X eb (tE X.K cal b)) (he : starEach [ea, eb] X.env = [(false, eval ea X.env), (false, eval eb X.env)]) (he2 : starEach [eb] X.env = [(false, eval eb X.env)]) : PI X tg (.Call (.Name "range" p) [ea, eb] [] pos) (tI X.K cal (.rng2 a b)) := by
  refine PIm (pi_range2 hg hm (pa_cons ha (pa_one hb he2) (by rw [he, he2])) he he2) fun σ H R ⟨B, ρ, S, Γ, xs, mon, S', z, g, q, k⟩ => ?_
  simp only [evI] at q
  obtain ⟨y, S1, e1, q⟩ := bd_inv q
  obtain ⟨w, S2, e2, q⟩ := bd_inv q
  split at q
  · rename_i m n _
    obtain ⟨⟨h1, h1'⟩, h2⟩ := if_inv q
    cases h2
    refine two z g e1 e2 fun u v H1 B1 ρ1 t z1 g1 r1 r2 => ?_
    cases (show Rp X.K B1 H1 u (.int m) from r1)
    cases (show Rp X.K B1 H1 v (.int n) from r2)
    exact ⟨m, n, rfl, ⟨by omega, by omega, by omega, by omega⟩, k _ _ _ _ t z1 (it_rng (by rw [sizeLine_eq]; omega))⟩
  · cases q
theorem it_en {K : PySem.W.Frag} {B0 ρ0 : List Addr} {S0 : Sto} {H0 : Hp} {Sq : Hp → List V → Prop} {vs : List V} {ds : List PyData} (z0 : Sr K B0 ρ0 S0 H0) (hl : vs.length ≤ sizeLine) (r : RpL K B0 H0 vs ds) (hs : ∀ ρ B H, Ext ρ0 B0 H0 ρ B H → Sq H vs) :
    ItOk K (Itn Sq) (ds.zipIdx.map fun p => .tuple [.int p.2, p.1]) none ρ0 B0 H0 := by
  refine ⟨by simpa using r.length ▸ hl, fun ρ B S H x z _ => ?_⟩
  have s := hs _ _ _ x
  have r' := r.ext x z0.inB
  refine ⟨⟨vs, s, by simpa using r.length⟩, fun i d e => ?_⟩
  rw [List.getElem?_map, List.getElem?_zipIdx] at e
  cases h : ds[i]? with
  | none => rw [h] at e; cases e
  | some d0 =>
    rw [h] at e
    cases e
    obtain ⟨v, h1, h2⟩ := r'.get h
    refine ⟨⟨vs, v, s, h1⟩, fun y H' ⟨T, ob, w, e1, e2, e3, e4, e5⟩ => ?_⟩
    have := e5 vs s
    rw [h1] at this
    cases this
    subst e1 e4
    refine ⟨same_lay e2, ?_⟩
    have hr : RpL K B H [V.int (i : Nat), v] [PyData.int ((0 + i : Nat) : Int), d0] := .cons (by rw [Nat.zero_add]; exact .int _) (.cons h2 .nil)
    exact Rp.laidT z e2 e3 (by show 2 ≤ sizeLine; decide) hr
theorem pi_men {elts : List Expr} {kk : Nat} {tpos : Pos} (hg : Gl X "enumerate") (hm : X.mg "enumerate" = none) (hc : X.calm = true) (ha : PE X ea (tE X.K cal a)) (he : starEach [ea] X.env = [(false, eval ea X.env)]) :
    PI X (.Tuple elts kk tpos) (.Call (.Name "enumerate" p) [ea] [] pos) (tI X.K cal (.enum a)) := by
  refine PIm (pi_en hg hm hc (pa_one ha he) he) fun σ H R ⟨B, ρ, S, Γ, xs, mon, S', z, g, q, k⟩ => ?_
  simp only [evI] at q
  obtain ⟨y, S1, e1, q⟩ := bd_inv q
  cases y with
  | ref l => cases q
  | d d =>
    obtain ⟨ds, e2, e3⟩ := om_inv q
    cases e3
    refine one z g e1 fun u H1 B1 ρ1 t z1 g1 r => ?_
    cases d with
    | list es =>
      cases e2
      cases (show Rp X.K B1 H1 u (.list ds) from r) with
      | lst h1 h2 h3 => exact ⟨_, rfl, .inl ⟨_, h1.sq, k _ _ _ _ t z1 (it_en z1 h2 h3 fun ρ B H x => (h1.ext x z1.inB).sq)⟩⟩
    | tuple es =>
      cases e2
      cases (show Rp X.K B1 H1 u (.tuple ds) from r) with
      | tup h1 h2 h3 => exact ⟨_, rfl, .inr ⟨_, h1.sq, k _ _ _ _ t z1 (it_en z1 h2 h3 fun ρ B H x => (h1.ext x).sq)⟩⟩
    | _ => cases e2
end
end Pv
set_option maxRecDepth 100000
set_option maxHeartbeats 4000000
/-! ## Comprehensions -/
namespace Pv
open PySem PySem.Spec PyProof.Rows L2
/-- between two turns: the new list at D holds acc; the store is as long as it was -/
structure Lp (K : PySem.W.Frag) (ρ1 B1 : List Addr) (H1 : Hp) (D : Addr) (S : Sto) (H : Hp) (acc : List V) (accd : List PyData) : Prop where
  ext : Ext ρ1 B1 H1 ρ1 (D :: B1) H
  sr : Sr K (D :: B1) ρ1 S H
  hD : H D = some (.lst acc)
  r : RpL K (D :: B1) H acc accd
section
variable {K : PySem.W.Frag} {ρ1 B1 ρ4 B4 : List Addr} {H1 H H' H4 : Hp} {D : Addr} {S S1 S5 : Sto} {acc : List V} {accd : List PyData} {y : V} {d : PyData}
theorem Lp.start (z : Sr K B1 ρ1 S1 H1) (hD : H1 D = none) : Lp K ρ1 B1 H1 D S1 (upd H1 D (.lst [])) [] [] where
  ext := ⟨⟨[], by simp⟩, fun p h => List.mem_cons_of_mem _ h, fun p h => by
    rcases List.mem_cons.mp h with e | h
    · exact .inr (e ▸ hD)
    · exact .inl h, fun p h => .inl h, fun a o h _ => same_lay hD a o h, fun a h => (same_lay hD).free h⟩
  sr := by
    have z2 := z.same (same_lay (o := .lst []) hD)
    have x : Ext ρ1 B1 H1 ρ1 (D :: B1) (upd H1 D (.lst [])) := ⟨⟨[], by simp⟩, fun p h => List.mem_cons_of_mem _ h, fun p h => by
      rcases List.mem_cons.mp h with e | h
      · exact .inr (e ▸ hD)
      · exact .inl h, fun p h => .inl h, fun a o h _ => same_lay hD a o h, fun a h => (same_lay hD).free h⟩
    refine ⟨z.len, z.nd, fun p h => List.mem_cons_of_mem _ (z.inB p h), fun p h e => ?_, fun l p e => ?_⟩
    · rcases List.mem_cons.mp h with q | h
      · rw [q, upd_same] at e
        cases e
      · exact z2.live p h e
    · obtain ⟨vs, ds, e1, e2, e3, e4⟩ := z.cell l p e
      exact ⟨vs, ds, e1, same_lay hD _ _ e2, e3, e4.ext x z.inB⟩
  hD := upd_same
  r := .nil
theorem Lp.nin (z : Sr K B1 ρ1 S1 H1) (hD : H1 D = none) : D ∉ ρ1 ∧ D ∉ B1 := ⟨fun m => z.live D (z.inB D m) hD, fun m => z.live D m hD⟩
theorem Lp.same (x : Lp K ρ1 B1 H1 D S H acc accd) (h : Same H H') : Lp K ρ1 B1 H1 D S H' acc accd where
  ext := x.ext.trans (Ext.same h)
  sr := x.sr.same h
  hD := h _ _ x.hD
  r := x.r.ext (Ext.same (ρ := ρ1) h) x.sr.inB
/-- a turn has run: what it made is forgotten -/
theorem Lp.step (x : Lp K ρ1 B1 H1 D S H acc accd) (hn : D ∉ ρ1) (t : Ext ρ1 (D :: B1) H ρ4 B4 H4) (z : Sr K B4 ρ4 S5 H4) : Lp K ρ1 B1 H1 D (S5.take ρ1.length) H4 acc accd := by
  obtain ⟨more, e4⟩ := t.pre
  have t' : Ext ρ1 B1 H1 ρ1 (D :: B1) H4 := by
    refine ⟨⟨[], by simp⟩, x.ext.sub, x.ext.new, fun p h => .inl h, fun a o h k => t.keep a o (x.ext.keep a o h k) k, fun a h => x.ext.live a (t.live a h)⟩
  have hl : ρ4.length = S5.length := z.len
  have hle : ρ1.length ≤ S5.length := by rw [← hl, e4, List.length_append]; omega
  refine ⟨t', ⟨by rw [List.length_take]; omega, x.sr.nd, x.sr.inB, fun p h e => x.sr.live p h (t.live p e), fun l p e => ?_⟩, t.keep _ _ x.hD (.inr hn), ?_⟩
  · have hl1 : l < ρ1.length := (List.getElem?_eq_some_iff.mp e).1
    have e5 : ρ4[l]? = some p := by
      rw [e4, List.getElem?_append_left hl1]
      exact e
    obtain ⟨vs, ds, f1, f2, f3, f4⟩ := z.cell l p e5
    exact ⟨vs, ds, by rw [List.getElem?_take_of_lt hl1]; exact f1, f2, f3, f4.less t.sub⟩
  · exact (x.r.ext t x.sr.inB).less t.sub
theorem Lp.app (x : Lp K ρ1 B1 H1 D S H acc accd) (hn : D ∉ ρ1) (hd : H1 D = none) (r : Rp K (D :: B1) H y d) : Lp K ρ1 B1 H1 D S (upd H D (.lst (acc ++ [y]))) (acc ++ [y]) (accd ++ [d]) := by
  have w : Ext [D] (D :: B1) H [D] (D :: B1) (upd H D (.lst (acc ++ [y]))) := Ext.wr (l := 0) rfl x.hD
  have hs : ∀ p ∈ [D], p ∈ D :: B1 := fun p h => by
    rw [List.mem_singleton.mp h]
    exact List.mem_cons_self
  refine ⟨⟨⟨[], by simp⟩, x.ext.sub, x.ext.new, fun p h => .inl h, fun a o h k => ?_, fun a h => x.ext.live a (w.live a h)⟩, ⟨x.sr.len, x.sr.nd, x.sr.inB, fun p h e => x.sr.live p h (w.live p e), fun l p e => ?_⟩, upd_same, ?_⟩
  · rw [upd_ne (fun e => by rw [e, hd] at h; cases h)]
    exact x.ext.keep a o h k
  · obtain ⟨vs, ds, f1, f2, f3, f4⟩ := x.sr.cell l p e
    refine ⟨vs, ds, f1, ?_, f3, f4.ext w hs⟩
    rw [upd_ne (fun e' => hn (by rw [← e']; exact List.mem_of_getElem? e))]
    exact f2
  · exact (x.r.ext w hs).append (.cons (r.ext w hs) .nil)
theorem Lp.done (x : Lp K ρ1 B1 H1 D S H acc accd) (hn : D ∉ B1) (z : Sr K B1 ρ1 S1 H1) (hl : acc.length ≤ sizeLine) : Ext ρ1 B1 H1 ρ1 B1 H ∧ Sr K B1 ρ1 S H ∧ Rp K B1 H (.ref D) (.list accd) := by
  have hs : ∀ p ∈ B1, p ∈ D :: B1 := fun p h => List.mem_cons_of_mem _ h
  refine ⟨⟨⟨[], by simp⟩, fun p h => h, fun p h => .inl h, fun p h => .inl h, x.ext.keep, x.ext.live⟩, ⟨x.sr.len, x.sr.nd, z.inB, fun p h e => x.sr.live p (hs p h) e, fun l p e => ?_⟩, ?_⟩
  · obtain ⟨vs, ds, f1, f2, f3, f4⟩ := x.sr.cell l p e
    exact ⟨vs, ds, f1, f2, f3, f4.less hs⟩
  · exact .lst (.inl ⟨.inl x.hD, hn⟩) hl (x.r.less hs)
end
def tC (K : PySem.W.Frag) (cal : Cal) (c : Mo) : TT := fun σ H Q => ∃ B ρ S Γ k S', Sr K B ρ S H ∧ RpG K B ρ H σ Γ ∧ evC cal c Γ S = some (k, S') ∧ ∀ H' B' ρ', Ext ρ B H ρ' B' H' → Sr K B' ρ' S' H' → Q k H'
theorem PTsm {X : Cx} {e : List Expr} {t t' : TT} (h : PTs X e t) (k : ∀ σ H Q, t' σ H Q → t σ H Q) : PTs X e t' := ⟨fun pins s σ H Q I q => h.run pins s σ H Q I (k _ _ _ q)⟩
section
variable {X : Cx} {cal : Cal}
theorem pts_mno : PTs X [] (tC X.K cal .no) := by
  refine PTsm pts_nil fun σ H Q ⟨B, ρ, S, Γ, k0, S', z, g, q, k⟩ => ?_
  have q : some (true, S) = some (k0, S') := by simpa only [evC] using q
  cases q
  exact k _ _ _ Ext.refl z
theorem pts_myes {c : M} {ec : Expr} (h : PT X ec (tT X.K cal c)) : PTs X [ec] (tC X.K cal (.yes c)) := by
  refine PTsm (pts_one h) fun σ H Q ⟨B, ρ, S, Γ, k0, S', z, g, q, k⟩ => ?_
  have q : bd (ev cal c Γ S) (fun x S1 => (truE S1 x).map fun b => (b, S1)) = some (k0, S') := by simpa only [evC] using q
  obtain ⟨x, S1, e1, q⟩ := bd_inv q
  obtain ⟨b, e2, q⟩ := om_inv q
  cases q
  exact ⟨B, ρ, S, Γ, x, _, _, z, g, e1, e2, k⟩
open Classical in
theorem compL_nil {mon : Mon} {n : Nat} {body : PyData → Sto → Option (Option PyData × Sto)} {S S2 : Sto} {ds : List PyData} (h : compL mon n body [] S = some (ds, S2)) : monOk mon S ∧ ds = [] ∧ S2 = S := by
  unfold compL at h
  obtain ⟨h1, h2⟩ := if_inv h
  cases h2
  exact ⟨h1, rfl, rfl⟩
open Classical in
theorem compL_cons {mon : Mon} {n : Nat} {body : PyData → Sto → Option (Option PyData × Sto)} {S S2 : Sto} {x : PyData} {xs ds : List PyData} (h : compL mon n body (x :: xs) S = some (ds, S2)) :
    monOk mon S ∧ ∃ r S3 rs, body x S = some (r, S3) ∧ compL mon n body xs (S3.take n) = some (rs, S2) ∧ ds = r.toList ++ rs := by
  unfold compL at h
  obtain ⟨h1, h2⟩ := if_inv h
  obtain ⟨r, S3, h3, h4⟩ := bd_inv h2
  obtain ⟨rs, S4, h5, h6⟩ := bd_inv h4
  cases r with
  | some y =>
    cases h6
    exact ⟨h1, some y, S3, rs, h3, h5, rfl⟩
  | none =>
    cases h6
    exact ⟨h1, none, S3, _, h3, h5, rfl⟩
/-- one turn's body -/
noncomputable def bodyC (cal : Cal) (Γ : Ev) (vs : List Nat) (tg : Tg) (c : Mo) (e : M) (x : PyData) (S : Sto) : Option (Option PyData × Sto) :=
  (tgt tg x (wipeV Γ vs)).bind fun Γ1 => bd (evC cal c Γ1 S) fun k S2 => if k = true then bd (ev cal e Γ1 S2) fun y S3 => (dat y).map fun d => (some d, S3) else some (none, S2)
theorem ev_comp {own : List (Str × Nat)} {tg : Tg} {it : Mi} {c : Mo} {e : M} {Γ : Ev} {S : Sto} : ev cal (.comp own tg it c e) Γ S = bd (evI cal it Γ S) fun p S1 => bd (compL p.2 S1.length (bodyC cal Γ (own.map (·.2)) tg c e) p.1 S1) fun ds S2 => some (.d (.list ds), S2) := by
  simp only [ev]
  rfl
/-- the turn, from the target on -/
theorem turn_go {K : PySem.W.Frag} {ρ1 B1 : List Addr} {H1 H : Hp} {D : Addr} {S S1 S3 : Sto} {acc : List V} {accd : List PyData} {σ : L2.St} {Γ : Ev} {vs : List Nat} {tg : Tg} {c : Mo} {e : M} {x : V} {d : PyData} {r : Option PyData} {Nx : Hp → Prop} (z1 : Sr K B1 ρ1 S1 H1) (hD : H1 D = none)
    (p : Lp K ρ1 B1 H1 D S H acc accd) (g : RpG K B1 ρ1 H1 σ Γ) (rx : Rp K (D :: B1) H x d) (ht : ∀ i ∈ tg.slots, i ∈ vs) (hb : bodyC cal Γ vs tg c e d S = some (r, S3)) (hacc : acc.length < sizeLine)
    (hN : ∀ H' acc', acc'.length ≤ acc.length + 1 → Lp K ρ1 B1 H1 D (S3.take ρ1.length) H' acc' (accd ++ r.toList) → Nx H') :
    tG K tg x (wipe σ vs) H fun σ2 H2 => wipe σ2 vs = wipe σ vs ∧ tC K cal c σ2 H2 fun b H3 => if b = true then tE K cal e σ2 H3 fun y H4 => ∃ acc, H4 D = some (.lst acc) ∧ acc.length < sizeLine ∧ Nx (upd H4 D (.lst (acc ++ [y]))) else Nx H3 := by
  obtain ⟨Γ1, h1, h2⟩ := ob_inv hb
  obtain ⟨k, S2, h3, h4⟩ := bd_inv h2
  obtain ⟨n1, n2⟩ := Lp.nin z1 hD
  have g' : RpG K (D :: B1) ρ1 H σ Γ := g.ext p.ext z1.inB
  refine ⟨D :: B1, ρ1, S, wipeV Γ vs, d, Γ1, p.sr, g'.wipe vs, rx, h1, fun σ2 e1 e2 g2 => ⟨?_, ?_⟩⟩
  · rw [wipe_eq (σ := wipe σ vs) e1 fun i hi => e2 i fun m => hi (ht i m), wipe_wipe]
  · refine ⟨D :: B1, ρ1, S, Γ1, k, S2, p.sr, g2, h3, fun H3 B3 ρ3 t3 z3 => ?_⟩
    cases k with
    | false =>
      rw [if_neg (by decide)] at h4 ⊢
      cases h4
      have := p.step n1 t3 z3
      refine hN H3 acc (by omega) ?_
      rw [show (none : Option PyData).toList = [] from rfl, List.append_nil]
      exact this
    | true =>
      rw [if_pos rfl] at h4 ⊢
      obtain ⟨w, S4, h5, h6⟩ := bd_inv h4
      obtain ⟨dd, h7, h8⟩ := om_inv h6
      cases h8
      refine one z3 (g2.ext t3 p.sr.inB) h5 fun u H4 B4 ρ4 t4 z4 g4 r4 => ?_
      have tt := t3.trans t4
      have p4 := p.step n1 tt z4
      refine ⟨acc, p4.hD, hacc, ?_⟩
      have ru : Rp K (D :: B1) H4 u dd := by
        cases w with
        | d w =>
          cases h7
          exact Rp.less tt.sub r4
        | ref w => cases h7
      exact hN _ _ (by rw [List.length_append]; exact Nat.le_refl _) (p4.app n1 hD ru)
theorem lc_go {σ : L2.St} {H1 : Hp} {K : PySem.W.Frag} {B1 ρ1 : List Addr} {S1 S2 : Sto} {Γ : Ev} {vs : List Nat} {tg : Tg} {c : Mo} {e : M} {J : It} {xs ds : List PyData} {mon : Mon} {Q : VK} (z1 : Sr K B1 ρ1 S1 H1) (g1 : RpG K B1 ρ1 H1 σ Γ) (ht : ∀ i ∈ tg.slots, i ∈ vs) (ok : ItOk K J xs mon ρ1 B1 H1)
    (hq : compL mon S1.length (bodyC cal Γ vs tg c e) xs S1 = some (ds, S2)) (k : Pst K B1 ρ1 H1 S2 (.d (.list ds)) Q) :
    ∀ D, H1 D = none → ∃ W : Nat → Nat → Hp → Prop, (∃ m, W 0 m (upd H1 D (.lst []))) ∧ ∀ i m H, W i m H →
      (J.stop i H ∧ Q (.ref D) H) ∨ (J.go i H ∧ ∃ Nx : Hp → Prop, (∀ H', Nx H' → ∃ m', m' < m ∧ W (i + 1) m' H') ∧ ∀ x H', J.yld i H x H' → tG K tg x (wipe σ vs) H' fun σ2 H2 => wipe σ2 vs = wipe σ vs ∧ tC K cal c σ2 H2 fun b H3 =>
        if b = true then tE K cal e σ2 H3 fun y H4 => ∃ acc, H4 D = some (.lst acc) ∧ acc.length < sizeLine ∧ Nx (upd H4 D (.lst (acc ++ [y]))) else Nx H3) := by
  intro D hD
  obtain ⟨n1, n2⟩ := Lp.nin z1 hD
  refine ⟨fun i m H => m = xs.length - i ∧ i ≤ xs.length ∧ ∃ S acc accd rest, Lp K ρ1 B1 H1 D S H acc accd ∧ acc.length ≤ i ∧ compL mon S1.length (bodyC cal Γ vs tg c e) (xs.drop i) S = some (rest, S2) ∧ ds = accd ++ rest, ⟨xs.length, by simp, Nat.zero_le _, S1, [], [], ds, Lp.start z1 hD, Nat.le_refl _, by simpa using hq, rfl⟩, ?_⟩
  rintro i m H ⟨rfl, hi, S, acc, accd, rest, p, hacc, hc, hds⟩
  by_cases hlt : i < xs.length
  · have hx : xs.drop i = xs[i] :: xs.drop (i + 1) := List.drop_eq_getElem_cons hlt
    rw [hx] at hc
    obtain ⟨hm, r, S3, rs, hb, hrest, hr⟩ := compL_cons hc
    have p0 : Sr K (D :: B1) ρ1 S H := p.sr
    obtain ⟨hstop, hgo⟩ := ok.2 ρ1 (D :: B1) S H p.ext p.sr hm
    obtain ⟨go, yl⟩ := hgo i xs[i] (List.getElem?_eq_getElem hlt)
    refine .inr ⟨go, fun H' => i + 1 ≤ xs.length ∧ ∃ S acc accd rest, Lp K ρ1 B1 H1 D S H' acc accd ∧ acc.length ≤ i + 1 ∧ compL mon S1.length (bodyC cal Γ vs tg c e) (xs.drop (i + 1)) S = some (rest, S2) ∧ ds = accd ++ rest,
      fun H' h => ⟨xs.length - (i + 1), by omega, rfl, h.1, h.2⟩, fun x H' hy => ?_⟩
    obtain ⟨hs, rx⟩ := yl x H' hy
    have hz : acc.length < sizeLine := Nat.lt_of_le_of_lt hacc (Nat.lt_of_lt_of_le hlt ok.1)
    refine turn_go z1 hD (p.same hs) g1 rx ht hb hz fun H2 acc' hl p2 => ⟨hlt, _, acc', _, rs, p2, by omega, ?_, ?_⟩
    · rw [z1.len]
      exact hrest
    · rw [hds, hr, List.append_assoc]
  · have hi' : i = xs.length := by omega
    rw [List.drop_eq_nil_of_le (by omega)] at hc
    obtain ⟨hm, hr, hS⟩ := compL_nil hc
    obtain ⟨hstop, _⟩ := ok.2 ρ1 (D :: B1) S H p.ext p.sr hm
    refine .inl ⟨hi' ▸ hstop, ?_⟩
    rw [hr, List.append_nil] at hds
    subst hds
    subst hS
    obtain ⟨x1, x2, x3⟩ := p.done n2 z1 (Nat.le_trans hacc (hi' ▸ ok.1))
    exact k _ _ _ _ x1 x2 x3
theorem pe_mcomp {own : List (Str × Nat)} {tg : Tg} {it : Mi} {c : Mo} {e : M} {elt etg eit : Expr} {ifs : List Expr} {scope : Scope} {pos : Pos} (hc : X.calm = true) (hN : X.N.Nodup) (hi : PI X etg eit (tI X.K cal it)) (ok : BlkOk X.N X.env.scope scope own) (hs : ∀ i ∈ tg.slots, i ∈ own.map (·.2))
    (hg : ∀ (s : Shared) (H : Hp) (C : Addr) (cl : List (Str × Addr)) (fp : List Addr), PG (X.blk s H scope (compEnvC scope cl C X.env) fp) etg (tG X.K tg)) (ht : ∀ (s : Shared) (H : Hp) (C : Addr) (cl : List (Str × Addr)) (fp : List Addr), PTs (X.blk s H scope (compEnvC scope cl C X.env) fp) ifs (tC X.K cal c))
    (he : ∀ (s : Shared) (H : Hp) (C : Addr) (cl : List (Str × Addr)) (fp : List Addr), PE (X.blk s H scope (compEnvC scope cl C X.env) fp) elt (tE X.K cal e)) (hf : ∀ x, foldedSetIterable eit X.env x = pure x) : PE X (.ListComp elt [⟨etg, eit, ifs, 0⟩] scope pos) (tE X.K cal (.comp own tg it c e)) := by
  refine PEm (pe_lc hc hN hi ok hg ht he hf) fun σ H Q ⟨B, ρ, S, Γ, v, S', z, g, q, k⟩ => ?_
  rw [ev_comp] at q
  obtain ⟨⟨xs, mon⟩, S1, e1, q⟩ := bd_inv q
  obtain ⟨ds, S2, e2, q⟩ := bd_inv q
  cases q
  exact ⟨B, ρ, S, Γ, xs, mon, S1, z, g, e1, fun J H1 B1 ρ1 t z1 ok1 => lc_go z1 (g.ext t z.inB) hs ok1 e2 (k.on t)⟩
theorem ps_mcomp {i : Nat} {y : Str} {py spos : Pos} {own : List (Str × Nat)} {tg : Tg} {it : Mi} {c : Mo} {e : M} {elt etg eit : Expr} {ifs : List Expr} {scope : Scope} {pos : Pos} (hc : X.calm = true) (hN : X.N.Nodup) (hy : X.N[i]? = some y) (hyl : X.env.scope.names.lookup y = some .local)
    (hsw : swapsWith (.ListComp elt [⟨etg, eit, ifs, 0⟩] scope pos) (some (.Name y py)) spos.line X.env = pure true) (hi : PI X etg eit (tI X.K cal it)) (ok : BlkOk X.N X.env.scope scope own) (hs : ∀ i ∈ tg.slots, i ∈ own.map (·.2))
    (hg : ∀ (s : Shared) (H : Hp) (C : Addr) (cl : List (Str × Addr)) (fp : List Addr), PG (X.blk s H scope (compEnvC scope cl C X.env) fp) etg (tG X.K tg)) (ht : ∀ (s : Shared) (H : Hp) (C : Addr) (cl : List (Str × Addr)) (fp : List Addr), PTs (X.blk s H scope (compEnvC scope cl C X.env) fp) ifs (tC X.K cal c))
    (he : ∀ (s : Shared) (H : Hp) (C : Addr) (cl : List (Str × Addr)) (fp : List Addr), PE (X.blk s H scope (compEnvC scope cl C X.env) fp) elt (tE X.K cal e)) (hf : ∀ x, foldedSetIterable eit X.env x = pure x) :
    PS X (.Assign [.Name y py] (.ListComp elt [⟨etg, eit, ifs, 0⟩] scope pos) spos) (tAsg (tE X.K cal (.comp own tg it c e)) (gName i)) := by
  refine ⟨fun pins s σ H D I h => (ps_setLc hc hN hy hyl hsw hi ok hg ht he hf).run pins s σ H D I ?_⟩
  obtain ⟨B, ρ, S, Γ, v, S', z, g, q, k⟩ := h
  rw [ev_comp] at q
  obtain ⟨⟨xs, mon⟩, S1, e1, q⟩ := bd_inv q
  obtain ⟨ds, S2, e2, q⟩ := bd_inv q
  cases q
  exact ⟨B, ρ, S, Γ, xs, mon, S1, z, g, e1, fun J H1 B1 ρ1 t z1 ok1 => lc_go z1 (g.ext t z.inB) hs ok1 e2 (k.on t)⟩
end
end Pv
set_option maxRecDepth 100000
set_option maxHeartbeats 4000000
/-! ## Statements -/
namespace Pv
open PySem PySem.Spec PyProof.Rows L2
inductive At where
  | nm (i : Nat)
  | sub (o i : M)
mutual
inductive MS where
  | asg (t : At) (e : M)
  | unp (ts : List At) (e : M)
  | par (is : List Nat) (es : Ms)
  | parT (ts : List At) (es : Ms)
  | ret (e : M)
  | retN
  | ifs (c : M) (a b : MB)
  | exp (e : M)
  | forr (tg : Tg) (it : Mi) (b : MB)
  | pass
  | brk
  | cont
  | never
inductive MB where
  | nil
  | cons (s : MS) (b : MB)
end
inductive Fl where
  | nx (Γ : Ev)
  | rt (e : E)
  | bk (Γ : Ev)
  | ct (Γ : Ev)
def parE : Ev → List Nat → List E → Option Ev
  | Γ, [], [] => some Γ
  | Γ, i :: is, x :: xs => (setV Γ i x).bind fun Γ' => parE Γ' is xs
  | _, _, _ => none
section
variable (cal : Cal)
noncomputable def setA : At → E → Ev → Sto → Option (Ev × Sto)
  | .nm i, e, Γ, S => (setV Γ i e).map fun Γ' => (Γ', S)
  | .sub o i, e, Γ, S => bd (ev cal o Γ S) fun x S1 => bd (ev cal i Γ S1) fun y S2 => (dat e).bind fun v => (match x, y with
    | .ref l, .d (.int k) => (S2[l]?).bind fun xs => (L2.ixN xs.length k).bind fun j => some (Γ, upS S2 l (xs.set j v))
    | _, _ => none)
noncomputable def setsA : List At → List E → Ev → Sto → Option (Ev × Sto)
  | [], [], Γ, S => some (Γ, S)
  | t :: ts, e :: es, Γ, S => bd (setA cal t e Γ S) fun Γ1 S1 => setsA ts es Γ1 S1
  | _, _, _, _ => none
open Classical in
noncomputable def forL (mon : Mon) (tg : Tg) (body : Ev → Sto → Option (Fl × Sto)) : List PyData → Ev → Sto → Option (Fl × Sto)
  | [], Γ, S => if monOk mon S then some (.nx Γ, S) else none
  | x :: xs, Γ, S => if monOk mon S then (tgt tg x Γ).bind fun Γ1 => bd (body Γ1 S) fun f S1 => (match f with
    | .nx Γ2 => forL mon tg body xs Γ2 S1
    | .ct Γ2 => forL mon tg body xs Γ2 S1
    | .bk Γ2 => some (.nx Γ2, S1)
    | .rt e => some (.rt e, S1)) else none
mutual
noncomputable def exS : MS → Ev → Sto → Option (Fl × Sto)
  | .asg t e, Γ, S => bd (ev cal e Γ S) fun x S1 => bd (setA cal t x Γ S1) fun Γ' S2 => some (.nx Γ', S2)
  | .unp ts e, Γ, S => bd (ev cal e Γ S) fun x S1 => (match x with
    | .d (.tuple xs) => bd (setsA cal ts (xs.map E.d) Γ S1) fun Γ' S2 => some (.nx Γ', S2)
    | _ => none)
  | .par is es, Γ, S => bd (evs cal es Γ S) fun xs S1 => (parE Γ is xs).map fun Γ' => (.nx Γ', S1)
  | .parT ts es, Γ, S => bd (evs cal es Γ S) fun xs S1 => if xs.length ≤ lineN then bd (setsA cal ts xs Γ S1) fun Γ' S2 => some (.nx Γ', S2) else none
  | .ret e, Γ, S => bd (ev cal e Γ S) fun x S1 => some (.rt x, S1)
  | .retN, Γ, S => some (.rt (.d .none), S)
  | .ifs c a b, Γ, S => bd (ev cal c Γ S) fun x S1 => (truE S1 x).bind fun k => if k = true then exB a Γ S1 else exB b Γ S1
  | .exp e, Γ, S => bd (ev cal e Γ S) fun _ S1 => some (.nx Γ, S1)
  | .forr tg it b, Γ, S => bd (evI cal it Γ S) fun p S1 => forL p.2 tg (exB b) p.1 Γ S1
  | .pass, Γ, S => some (.nx Γ, S)
  | .brk, Γ, S => some (.bk Γ, S)
  | .cont, Γ, S => some (.ct Γ, S)
  | .never, _, _ => none
noncomputable def exB : MB → Ev → Sto → Option (Fl × Sto)
  | .nil, Γ, S => some (.nx Γ, S)
  | .cons s b, Γ, S => bd (exS s Γ S) fun f S1 => (match f with
    | .nx Γ1 => exB b Γ1 S1
    | .rt e => some (.rt e, S1)
    | .bk Γ1 => some (.bk Γ1, S1)
    | .ct Γ1 => some (.ct Γ1, S1))
end
end
/-! ### readings -/
def Pend (K : PySem.W.Frag) (B ρ : List Addr) (H : Hp) (S' : Sto) (f : Fl) (D : Ends) : Prop := ∀ H' B' ρ', Ext ρ B H ρ' B' H' → Sr K B' ρ' S' H' → (match f with
  | .nx Γ' => ∀ σ', RpG K B' ρ' H' σ' Γ' → D.nx σ' H'
  | .rt e => ∀ v, RpE K B' ρ' H' v e → D.rt v H'
  | .bk Γ' => ∀ σ', RpG K B' ρ' H' σ' Γ' → D.bk σ' H'
  | .ct Γ' => ∀ σ', RpG K B' ρ' H' σ' Γ' → D.ct σ' H')
def tS (K : PySem.W.Frag) (cal : Cal) (m : MS) : TS := fun D σ H => ∃ B ρ S Γ f S', Sr K B ρ S H ∧ RpG K B ρ H σ Γ ∧ exS cal m Γ S = some (f, S') ∧ Pend K B ρ H S' f D
def tSB (K : PySem.W.Frag) (cal : Cal) (m : MB) : TS := fun D σ H => ∃ B ρ S Γ f S', Sr K B ρ S H ∧ RpG K B ρ H σ Γ ∧ exB cal m Γ S = some (f, S') ∧ Pend K B ρ H S' f D
def tA (K : PySem.W.Frag) (cal : Cal) (t : At) : TG := fun v σ H Q => ∃ B ρ S Γ e Γ' S', Sr K B ρ S H ∧ RpG K B ρ H σ Γ ∧ RpE K B ρ H v e ∧ setA cal t e Γ S = some (Γ', S') ∧
  ∀ H' B' ρ' σ', Ext ρ B H ρ' B' H' → Sr K B' ρ' S' H' → RpG K B' ρ' H' σ' Γ' → Q σ' H'
def tAs (K : PySem.W.Frag) (cal : Cal) (ts : List At) : TGs := fun vs σ H Q => ∃ B ρ S Γ es Γ' S', Sr K B ρ S H ∧ RpG K B ρ H σ Γ ∧ RpEs K B ρ H vs es ∧ setsA cal ts es Γ S = some (Γ', S') ∧
  ∀ H' B' ρ' σ', Ext ρ B H ρ' B' H' → Sr K B' ρ' S' H' → RpG K B' ρ' H' σ' Γ' → Q σ' H'
section
variable {X : Cx} {cal : Cal} {pos : Pos}
theorem PSm {e : Stmt} {t t' : TS} (h : PS X e t) (k : ∀ D σ H, t' D σ H → t D σ H) : PS X e t' := ⟨fun pins s σ H D I q => h.run pins s σ H D I (k _ _ _ q)⟩
theorem PSsm {e : List Stmt} {t t' : TS} (h : PSs X e t) (k : ∀ D σ H, t' D σ H → t D σ H) : PSs X e t' := ⟨fun pins s σ H D I q => h.run pins s σ H D I (k _ _ _ q)⟩
theorem PGsm {e : List Expr} {t t' : TGs} (h : PGs X e t) (k : ∀ v σ H Q, t' v σ H Q → t v σ H Q) : PGs X e t' := ⟨fun pins s σ H v u Q I r q => h.run pins s σ H v u Q I r (k _ _ _ _ q)⟩
theorem Pend.on {K : PySem.W.Frag} {B ρ B1 ρ1 : List Addr} {H H1 : Hp} {S' : Sto} {f : Fl} {D : Ends} (h : Pend K B ρ H S' f D) (t : Ext ρ B H ρ1 B1 H1) : Pend K B1 ρ1 H1 S' f D := fun H' B' ρ' t' z => h H' B' ρ' (t.trans t') z
/-! ### targets -/
theorem pg_anm {i : Nat} {x : Str} (h : PG X (.Name x pos) (gName i)) : PG X (.Name x pos) (tA X.K cal (.nm i)) := by
  refine PGm h fun v σ H Q ⟨B, ρ, S, Γ, e, Γ', S', z, g, r, q, k⟩ => ?_
  obtain ⟨Γ1, h1, h2⟩ := om_inv (show (setV Γ i e).map (fun Γ' => (Γ', S)) = some (Γ', S') from q)
  cases h2
  exact k _ _ _ _ Ext.refl z (g.set h1 r)
theorem pg_asub {o i : M} {eo ei : Expr} (ho : PE X eo (tE X.K cal o)) (hi : PE X ei (tE X.K cal i))
    (ha : ∀ v, assign (.Subscript eo ei pos) X.env v = (do
      let ov ← holding [v] (eval eo X.env)
      let iv ← holding [v, ov] (eval ei X.env)
      standAt pos
      holding [v, ov, iv] (setItem ov iv v)
      release [v, ov, iv] [])) : PG X (.Subscript eo ei pos) (tA X.K cal (.sub o i)) := by
  refine PGm (pg_sub ho hi set_list ha) fun v σ H Q ⟨B, ρ, S, Γ, e, Γ', S', z, g, r, q, k⟩ => ?_
  have q : bd (ev cal o Γ S) (fun x S1 => bd (ev cal i Γ S1) fun y S2 => (dat e).bind fun v => (match x, y with
    | .ref l, .d (.int k) => (S2[l]?).bind fun xs => (L2.ixN xs.length k).bind fun j => some (Γ, upS S2 l (xs.set j v))
    | _, _ => none)) = some (Γ', S') := q
  obtain ⟨x, S1, e1, q⟩ := bd_inv q
  obtain ⟨y, S2, e2, q⟩ := bd_inv q
  obtain ⟨d, e3, q⟩ := ob_inv q
  have q2 : ∃ l j, x = .ref l ∧ y = .d (.int j) ∧ ((S2[l]?).bind fun xs => (L2.ixN xs.length j).bind fun m => some (Γ, upS S2 l (xs.set m d))) = some (Γ', S') := by
    cases x with
    | d x => cases y <;> cases q
    | ref l =>
      cases y with
      | ref w => cases q
      | d w =>
        cases w with
        | int j => exact ⟨l, j, rfl, rfl, q⟩
        | _ => cases q
  obtain ⟨l, j, ex, ey, q⟩ := q2
  subst ex ey
  obtain ⟨ds, e4, q⟩ := ob_inv q
  obtain ⟨m, e5, q⟩ := ob_inv q
  cases q
  refine two z g e1 e2 fun u w H1 B1 ρ1 t z1 g1 r1 r2 => ?_
  obtain ⟨pp, h1, rfl⟩ := r1
  cases (show Rp X.K B1 H1 w (.int j) from r2)
  obtain ⟨vs, ds', h2, h3, h4, h5⟩ := z1.cell l pp h1
  rw [h2] at e4
  cases e4
  rw [← h5.length] at e5
  have rv : Rp X.K B H v d := by
    cases e with
    | d e => cases e3; exact r
    | ref e => cases e3
  have x1 : Ext ρ1 B1 H1 ρ1 B1 (upd H1 pp (.lst (vs.set m v))) := Ext.wr h1 h3
  exact ⟨pp, vs, j, m, rfl, rfl, h3, e5, k _ _ _ _ (t.trans x1) (z1.wr h1 h3 (by rw [List.length_set]; exact h4) (h5.set m (rv.ext t z.inB))) (g1.ext x1 z1.inB)⟩
theorem pgs_anil : PGs X [] (tAs X.K cal []) := by
  refine PGsm pgs_nil fun vs σ H Q ⟨B, ρ, S, Γ, es, Γ', S', z, g, r, q, k⟩ => ?_
  cases es with
  | nil =>
    cases r
    cases (show some (Γ, S) = some (Γ', S') from q)
    exact ⟨rfl, k _ _ _ _ Ext.refl z g⟩
  | cons e es => cases q
theorem pgs_acons {t : At} {ts : List At} {e : Expr} {es : List Expr} (h1 : PG X e (tA X.K cal t)) (h2 : PGs X es (tAs X.K cal ts)) (hs : (assignEach (e :: es) X.env).map (·.2) = assign e X.env :: (assignEach es X.env).map (·.2)) : PGs X (e :: es) (tAs X.K cal (t :: ts)) := by
  refine PGsm (pgs_cons h1 h2 hs) fun vs σ H Q ⟨B, ρ, S, Γ, xs, Γ', S', z, g, r, q, k⟩ => ?_
  cases xs with
  | nil => cases q
  | cons x xs =>
    obtain ⟨Γ1, S1, e1, q⟩ := bd_inv (show bd (setA cal t x Γ S) (fun Γ1 S1 => setsA cal ts xs Γ1 S1) = some (Γ', S') from q)
    cases r with
    | cons r1 r2 =>
      exact ⟨_, _, rfl, B, ρ, S, Γ, x, Γ1, S1, z, g, r1, e1, fun H' B' ρ' σ' t z' g' => ⟨B', ρ', S1, Γ1, xs, Γ', S', z', g', r2.ext t z.inB, q, fun H2 B2 ρ2 σ2 t2 z2 g2 => k _ _ _ _ (t.trans t2) z2 g2⟩⟩
/-! ### statements -/
variable {e : M} {ee : Expr}
theorem asg_go {K : PySem.W.Frag} {t : At} {D : Ends} {σ : L2.St} {H : Hp} (h : tS K cal (.asg t e) D σ H) : tAsg (tE K cal e) (tA K cal t) D σ H := by
  obtain ⟨B, ρ, S, Γ, f, S', z, g, q, k⟩ := h
  have q : bd (ev cal e Γ S) (fun x S1 => bd (setA cal t x Γ S1) fun Γ' S2 => some (Fl.nx Γ', S2)) = some (f, S') := by simpa only [exS] using q
  obtain ⟨x, S1, e1, q⟩ := bd_inv q
  obtain ⟨Γ', S2, e2, q⟩ := bd_inv q
  cases q
  exact one z g e1 fun u H1 B1 ρ1 tt z1 g1 r => ⟨B1, ρ1, S1, Γ, x, Γ', _, z1, g1, r, e2, fun H' B' ρ' σ' t2 z2 g2 => k _ _ _ (tt.trans t2) z2 σ' g2⟩
/-- name = value, from a reading by the name's slot -/
theorem nm_go {K : PySem.W.Frag} {i : Nat} {D : Ends} {σ : L2.St} {H : Hp} (h : tS K cal (.asg (.nm i) e) D σ H) : tAsg (tE K cal e) (gName i) D σ H := by
  obtain ⟨B, ρ, S, Γ, f, S', z, g, q, k⟩ := h
  have q : bd (ev cal e Γ S) (fun x S1 => bd (setA cal (.nm i) x Γ S1) fun Γ' S2 => some (Fl.nx Γ', S2)) = some (f, S') := by simpa only [exS] using q
  obtain ⟨x, S1, e1, q⟩ := bd_inv q
  obtain ⟨Γ', S2, e2, q⟩ := bd_inv q
  cases q
  obtain ⟨Γ1, h1, h2⟩ := om_inv (show (setV Γ i x).map (fun Γ' => (Γ', S1)) = some (Γ', _) from e2)
  cases h2
  exact one z g e1 fun u H1 B1 ρ1 tt z1 g1 r => k _ _ _ tt z1 _ (g1.set h1 r)
theorem ps_masg {t : At} {tg : Expr} (he : PE X ee (tE X.K cal e)) (hg : PG X tg (tA X.K cal t)) (hs : swapsWithSole [tg] ee pos.line X.env = pure false) (hw : swappedStores [tg] ee X.env = pure none) (h1 : (assignEach [tg] X.env).map (·.2) = [assign tg X.env]) : PS X (.Assign [tg] ee pos) (tS X.K cal (.asg t e)) :=
  PSm (ps_asg he hg hs hw h1) fun D σ H h => asg_go h
theorem RpL.es {K : PySem.W.Frag} {B ρ : List Addr} {H : Hp} : ∀ {vs : List V} {ds : List PyData}, RpL K B H vs ds → RpEs K B ρ H vs (ds.map E.d)
  | _, _, .nil => .nil
  | _, _, .cons h r => .cons h (RpL.es r)
theorem setsA_len : ∀ {ts : List At} {es : List E} {Γ Γ' : Ev} {S S' : Sto}, setsA cal ts es Γ S = some (Γ', S') → es.length = ts.length
  | [], [], _, _, _, _, _ => rfl
  | [], _ :: _, _, _, _, _, h => by cases h
  | _ :: _, [], _, _, _, _, h => by cases h
  | t :: ts, e :: es, Γ, Γ', S, S', h => by
    obtain ⟨Γ1, S1, _, h2⟩ := bd_inv (show bd (setA cal t e Γ S) (fun Γ1 S1 => setsA cal ts es Γ1 S1) = some (Γ', S') from h)
    rw [List.length_cons, List.length_cons, setsA_len h2]
theorem ps_munp {ts : List At} {es : List Expr} {k0 : Nat} {p : Pos} (he : PE X ee (tE X.K cal e)) (hg : PG X (.Tuple es k0 p) (gTup X.K ts.length (tAs X.K cal ts))) (hs : swapsWithSole [.Tuple es k0 p] ee pos.line X.env = pure false) (hw : swappedStores [.Tuple es k0 p] ee X.env = pure none) :
    PS X (.Assign [.Tuple es k0 p] ee pos) (tS X.K cal (.unp ts e)) := by
  refine PSm (ps_asg he hg hs hw rfl) fun D σ H ⟨B, ρ, S, Γ, f, S', z, g, q, k⟩ => ?_
  have q : bd (ev cal e Γ S) (fun x S1 => (match x with
    | .d (.tuple xs) => bd (setsA cal ts (xs.map E.d) Γ S1) fun Γ' S2 => some (Fl.nx Γ', S2)
    | _ => none)) = some (f, S') := by
    simp only [exS] at q
    exact q
  obtain ⟨x, S1, e1, q⟩ := bd_inv q
  cases x with
  | ref l => cases q
  | d d =>
    cases d with
    | tuple ds =>
      obtain ⟨Γ', S2, e2, q⟩ := bd_inv q
      cases q
      refine one z g e1 fun u H1 B1 ρ1 tt z1 g1 r => ?_
      cases (show Rp X.K B1 H1 u (.tuple ds) from r) with
      | tup h1 h2 h3 =>
        have hl := setsA_len e2
        rw [List.length_map] at hl
        exact ⟨_, _, rfl, h1.sq, by rw [h3.length, hl], B1, ρ1, S1, Γ, _, Γ', _, z1, g1, h3.es, e2, fun H' B' ρ' σ' t2 z2 g2 => k _ _ _ (tt.trans t2) z2 σ' g2⟩
    | _ => cases q
theorem ps_mparT {ts : List At} {es : List Expr} {ms : Ms} {vs : List Expr} {k0 k1 : Nat} {p p2 : Pos} (he : PA X vs (tL X.K cal ms)) (hg : PG X (.Tuple es k0 p) (gTup X.K ts.length (tAs X.K cal ts))) (hw : swappedStores [.Tuple es k0 p] (.Tuple vs k1 p2) X.env = pure none) :
    PS X (.Assign [.Tuple es k0 p] (.Tuple vs k1 p2) pos) (tS X.K cal (.parT ts ms)) := by
  refine PSm (ps_asg (pe_tup he) hg rfl hw rfl) fun D σ H ⟨B, ρ, S, Γ, f, S', z, g, q, k⟩ => ?_
  have q : bd (evs cal ms Γ S) (fun xs S1 => if xs.length ≤ lineN then bd (setsA cal ts xs Γ S1) fun Γ' S2 => some (Fl.nx Γ', S2) else none) = some (f, S') := by simpa only [exS] using q
  obtain ⟨xs, S1, e1, q⟩ := bd_inv q
  obtain ⟨hl, q⟩ := if_inv q
  obtain ⟨Γ', S2, e2, q⟩ := bd_inv q
  cases q
  refine oneA z g e1 fun us H1 B1 ρ1 tt z1 g1 r => ?_
  rw [lineN_eq, ← r.length] at hl
  refine ⟨hl, fun q hq => ?_⟩
  have hs : Same H1 (upd H1 q (.tup us)) := same_lay hq
  have x1 : Ext ρ1 B1 H1 ρ1 B1 (upd H1 q (.tup us)) := Ext.same hs
  exact ⟨q, us, rfl, .of upd_same, by rw [r.length, setsA_len e2], B1, ρ1, S1, Γ, xs, Γ', _, z1.same hs, g1.ext x1 z1.inB, r.ext x1 z1.inB, e2, fun H' B' ρ' σ' t2 z2 g2 => k _ _ _ ((tt.trans x1).trans t2) z2 σ' g2⟩
theorem parE2 {K : PySem.W.Frag} {B ρ : List Addr} {H : Hp} {σ : L2.St} {Γ Γ' : Ev} {vs : List V} {es : List E} {i j : Nat} (g : RpG K B ρ H σ Γ) (r : RpEs K B ρ H vs es) (h : parE Γ [i, j] es = some Γ') : ∃ v w, vs = [v, w] ∧ RpG K B ρ H ((σ.set i (some v)).set j (some w)) Γ' := by
  cases r with
  | nil => cases h
  | cons r1 r =>
    obtain ⟨Γ1, h1, h⟩ := ob_inv h
    cases r with
    | nil => cases h
    | cons r2 r =>
      obtain ⟨Γ2, h2, h⟩ := ob_inv h
      cases r with
      | nil =>
        cases h
        exact ⟨_, _, rfl, (g.set h1 r1).set h2 r2⟩
      | cons r3 r => cases h
theorem parE3 {K : PySem.W.Frag} {B ρ : List Addr} {H : Hp} {σ : L2.St} {Γ Γ' : Ev} {vs : List V} {es : List E} {i j l : Nat} (g : RpG K B ρ H σ Γ) (r : RpEs K B ρ H vs es) (h : parE Γ [i, j, l] es = some Γ') : ∃ u v w, vs = [u, v, w] ∧ RpG K B ρ H (((σ.set i (some u)).set j (some v)).set l (some w)) Γ' := by
  cases r with
  | nil => cases h
  | cons r1 r =>
    obtain ⟨Γ1, h1, h⟩ := ob_inv h
    obtain ⟨v, w, e, g2⟩ := parE2 (g.set h1 r1) r h
    subst e
    exact ⟨_, v, w, rfl, g2⟩
theorem ps_mpar2 {i j : Nat} {ms : Ms} {st : Stmt} {ta : TA} (h : PS X st (tPar i j (tL X.K cal ms))) : PS X st (tS X.K cal (.par [i, j] ms)) := by
  refine PSm h fun D σ H ⟨B, ρ, S, Γ, f, S', z, g, q, k⟩ => ?_
  have q : bd (evs cal ms Γ S) (fun xs S1 => (parE Γ [i, j] xs).map fun Γ' => (Fl.nx Γ', S1)) = some (f, S') := by simpa only [exS] using q
  obtain ⟨xs, S1, e1, q⟩ := bd_inv q
  obtain ⟨Γ', e2, q⟩ := om_inv q
  cases q
  refine oneA z g e1 fun us H1 B1 ρ1 tt z1 g1 r => ?_
  obtain ⟨v, w, e, g2⟩ := parE2 g1 r e2
  exact ⟨v, w, e, k _ _ _ tt z1 _ g2⟩
theorem ps_mpar3 {i j l : Nat} {ms : Ms} {st : Stmt} {ta : TA} (h : PS X st (tPar3 i j l (tL X.K cal ms))) : PS X st (tS X.K cal (.par [i, j, l] ms)) := by
  refine PSm h fun D σ H ⟨B, ρ, S, Γ, f, S', z, g, q, k⟩ => ?_
  have q : bd (evs cal ms Γ S) (fun xs S1 => (parE Γ [i, j, l] xs).map fun Γ' => (Fl.nx Γ', S1)) = some (f, S') := by simpa only [exS] using q
  obtain ⟨xs, S1, e1, q⟩ := bd_inv q
  obtain ⟨Γ', e2, q⟩ := om_inv q
  cases q
  refine oneA z g e1 fun us H1 B1 ρ1 tt z1 g1 r => ?_
  obtain ⟨u, v, w, e, g2⟩ := parE3 g1 r e2
  exact ⟨u, v, w, e, k _ _ _ tt z1 _ g2⟩
theorem ps_mret (he : PE X ee (tE X.K cal e)) : PS X (.Return (some ee) pos) (tS X.K cal (.ret e)) := by
  refine PSm (ps_ret he) fun D σ H ⟨B, ρ, S, Γ, f, S', z, g, q, k⟩ => ?_
  have q : bd (ev cal e Γ S) (fun x S1 => some (Fl.rt x, S1)) = some (f, S') := by simpa only [exS] using q
  obtain ⟨x, S1, e1, q⟩ := bd_inv q
  cases q
  exact one z g e1 fun u H1 B1 ρ1 tt z1 g1 r => k _ _ _ tt z1 u r
theorem ps_mretN : PS X (.Return none pos) (tS X.K cal .retN) := by
  refine PSm ps_retN fun D σ H ⟨B, ρ, S, Γ, f, S', z, g, q, k⟩ => ?_
  have q : some (Fl.rt (.d .none), S) = some (f, S') := by simpa only [exS] using q
  cases q
  exact k _ _ _ Ext.refl z .non .non
theorem ps_mexp (he : PE X ee (tE X.K cal e)) (hs : swapsWith ee none pos.line X.env = pure false) : PS X (.Expr ee pos) (tS X.K cal (.exp e)) := by
  refine PSm (ps_expr he hs) fun D σ H ⟨B, ρ, S, Γ, f, S', z, g, q, k⟩ => ?_
  have q : bd (ev cal e Γ S) (fun _ S1 => some (Fl.nx Γ, S1)) = some (f, S') := by simpa only [exS] using q
  obtain ⟨x, S1, e1, q⟩ := bd_inv q
  cases q
  exact one z g e1 fun u H1 B1 ρ1 tt z1 g1 r => k _ _ _ tt z1 σ g1
theorem ps_mpass : PS X (.Pass pos) (tS X.K cal .pass) := by
  refine PSm ps_pass fun D σ H ⟨B, ρ, S, Γ, f, S', z, g, q, k⟩ => ?_
  have q : some (Fl.nx Γ, S) = some (f, S') := by simpa only [exS] using q
  cases q
  exact k _ _ _ Ext.refl z σ g
theorem ps_mbrk : PS X (.Break pos) (tS X.K cal .brk) := by
  refine PSm ps_break fun D σ H ⟨B, ρ, S, Γ, f, S', z, g, q, k⟩ => ?_
  have q : some (Fl.bk Γ, S) = some (f, S') := by simpa only [exS] using q
  cases q
  exact k _ _ _ Ext.refl z σ g
theorem ps_mcont : PS X (.Continue pos) (tS X.K cal .cont) := by
  refine PSm ps_continue fun D σ H ⟨B, ρ, S, Γ, f, S', z, g, q, k⟩ => ?_
  have q : some (Fl.ct Γ, S) = some (f, S') := by simpa only [exS] using q
  cases q
  exact k _ _ _ Ext.refl z σ g
theorem ps_mnever {st : Stmt} : PS X st (tS X.K cal .never) := by
  refine PSm ps_never fun D σ H ⟨B, ρ, S, Γ, f, S', z, g, q, k⟩ => ?_
  simp only [exS, reduceCtorEq] at q
theorem ps_mif {c : M} {ec : Expr} {a b : MB} {sa sb : List Stmt} (hc : PT X ec (tT X.K cal c)) (ha : PSs X sa (tSB X.K cal a)) (hb : PSs X sb (tSB X.K cal b)) : PS X (.If ec sa sb pos) (tS X.K cal (.ifs c a b)) := by
  refine PSm (ps_if hc ha hb) fun D σ H ⟨B, ρ, S, Γ, f, S', z, g, q, k⟩ => ?_
  have q : bd (ev cal c Γ S) (fun x S1 => (truE S1 x).bind fun k => if k = true then exB cal a Γ S1 else exB cal b Γ S1) = some (f, S') := by simpa only [exS] using q
  obtain ⟨x, S1, e1, q⟩ := bd_inv q
  obtain ⟨r, e2, q⟩ := ob_inv q
  refine ⟨B, ρ, S, Γ, x, S1, r, z, g, e1, e2, fun H1 B1 ρ1 t z1 => ?_⟩
  cases r with
  | true =>
    rw [if_pos rfl] at q ⊢
    exact ⟨B1, ρ1, S1, Γ, f, S', z1, g.ext t z.inB, q, k.on t⟩
  | false =>
    rw [if_neg (by decide)] at q ⊢
    exact ⟨B1, ρ1, S1, Γ, f, S', z1, g.ext t z.inB, q, k.on t⟩
theorem pss_mnil : PSs X [] (tSB X.K cal .nil) := by
  refine PSsm pss_nil fun D σ H ⟨B, ρ, S, Γ, f, S', z, g, q, k⟩ => ?_
  have q : some (Fl.nx Γ, S) = some (f, S') := by simpa only [exB] using q
  cases q
  exact k _ _ _ Ext.refl z σ g
theorem pss_mcons {m : MS} {b : MB} {st : Stmt} {sts : List Stmt} (h1 : PS X st (tS X.K cal m)) (h2 : PSs X sts (tSB X.K cal b)) : PSs X (st :: sts) (tSB X.K cal (.cons m b)) := by
  refine PSsm (pss_cons h1 h2) fun D σ H ⟨B, ρ, S, Γ, f, S', z, g, q, k⟩ => ?_
  have q : bd (exS cal m Γ S) (fun f S1 => (match f with
    | .nx Γ1 => exB cal b Γ1 S1
    | .rt e => some (Fl.rt e, S1)
    | .bk Γ1 => some (Fl.bk Γ1, S1)
    | .ct Γ1 => some (Fl.ct Γ1, S1))) = some (f, S') := by
    simp only [exB] at q
    exact q
  obtain ⟨f1, S1, e1, q⟩ := bd_inv q
  refine ⟨B, ρ, S, Γ, f1, S1, z, g, e1, fun H1 B1 ρ1 t z1 => ?_⟩
  cases f1 with
  | nx Γ1 => exact fun σ' g' => ⟨B1, ρ1, S1, Γ1, f, S', z1, g', q, k.on t⟩
  | rt e =>
    cases q
    exact fun v r => k _ _ _ t z1 v r
  | bk Γ1 =>
    cases q
    exact fun σ' r => k _ _ _ t z1 σ' r
  | ct Γ1 =>
    cases q
    exact fun σ' r => k _ _ _ t z1 σ' r
open Classical in
theorem forL_nil {mon : Mon} {tg : Tg} {body : Ev → Sto → Option (Fl × Sto)} {Γ : Ev} {S S2 : Sto} {f : Fl} (h : forL mon tg body [] Γ S = some (f, S2)) : monOk mon S ∧ f = .nx Γ ∧ S2 = S := by
  unfold forL at h
  obtain ⟨h1, h2⟩ := if_inv h
  cases h2
  exact ⟨h1, rfl, rfl⟩
open Classical in
theorem forL_cons {mon : Mon} {tg : Tg} {body : Ev → Sto → Option (Fl × Sto)} {Γ : Ev} {S S2 : Sto} {f : Fl} {x : PyData} {xs : List PyData} (h : forL mon tg body (x :: xs) Γ S = some (f, S2)) :
    monOk mon S ∧ ∃ Γ1 f1 S1, tgt tg x Γ = some Γ1 ∧ body Γ1 S = some (f1, S1) ∧ (match f1 with
      | .nx Γ2 => forL mon tg body xs Γ2 S1 = some (f, S2)
      | .ct Γ2 => forL mon tg body xs Γ2 S1 = some (f, S2)
      | .bk Γ2 => f = .nx Γ2 ∧ S2 = S1
      | .rt e => f = .rt e ∧ S2 = S1) := by
  unfold forL at h
  obtain ⟨h1, h2⟩ := if_inv h
  obtain ⟨Γ1, h3, h4⟩ := ob_inv h2
  obtain ⟨f1, S1, h5, h6⟩ := bd_inv h4
  refine ⟨h1, Γ1, f1, S1, h3, h5, ?_⟩
  cases f1 with
  | nx Γ2 => exact h6
  | ct Γ2 => exact h6
  | bk Γ2 =>
    cases h6
    exact ⟨rfl, rfl⟩
  | rt e =>
    cases h6
    exact ⟨rfl, rfl⟩
theorem ps_mfor {tg : Tg} {it : Mi} {b : MB} {etg eit : Expr} {sts : List Stmt} (hp : PassesOwn (model X.prog X.w) X.A X.env X.xe) (hc : X.calm = true) (hi : PI X etg eit (tI X.K cal it)) (hg : PG X etg (tG X.K tg)) (hb : PSs X sts (tSB X.K cal b)) (hs : ∀ x, foldedSetIterable eit X.env x = pure x) :
    PS X (.For etg eit sts [] pos) (tS X.K cal (.forr tg it b)) := by
  refine PSm (ps_for hp hc hi hg hb hs) fun D σ H ⟨B, ρ, S, Γ, f, S', z, g, q, k⟩ => ?_
  have q : bd (evI cal it Γ S) (fun p S1 => forL p.2 tg (exB cal b) p.1 Γ S1) = some (f, S') := by simpa only [exS] using q
  obtain ⟨⟨xs, mon⟩, S1, e1, q⟩ := bd_inv q
  refine ⟨B, ρ, S, Γ, xs, mon, S1, z, g, e1, fun J H1 B1 ρ1 t z1 ok => ?_⟩
  have k1 := k.on t
  refine ⟨fun i m σ H => m = xs.length - i ∧ i ≤ xs.length ∧ ∃ B ρ S Γ, Ext ρ1 B1 H1 ρ B H ∧ Sr X.K B ρ S H ∧ RpG X.K B ρ H σ Γ ∧ forL mon tg (exB cal b) (xs.drop i) Γ S = some (f, S'), ⟨xs.length, by simp, Nat.zero_le _, B1, ρ1, S1, Γ, Ext.refl, z1, g.ext t z.inB, by simpa using q⟩, ?_⟩
  rintro i m σ H ⟨rfl, hi, B, ρ, S, Γ, t2, z2, g2, hf⟩
  by_cases hlt : i < xs.length
  · have hx : xs.drop i = xs[i] :: xs.drop (i + 1) := List.drop_eq_getElem_cons hlt
    rw [hx] at hf
    obtain ⟨hm, Γ1, f1, S3, h3, h4, h5⟩ := forL_cons hf
    obtain ⟨_, hgo⟩ := ok.2 ρ B S H t2 z2 hm
    obtain ⟨go, yl⟩ := hgo i xs[i] (List.getElem?_eq_getElem hlt)
    refine .inr ⟨go, fun σ' H' => i + 1 ≤ xs.length ∧ ∃ B ρ S Γ, Ext ρ1 B1 H1 ρ B H' ∧ Sr X.K B ρ S H' ∧ RpG X.K B ρ H' σ' Γ ∧ forL mon tg (exB cal b) (xs.drop (i + 1)) Γ S = some (f, S'),
      fun σ' H' h => ⟨xs.length - (i + 1), by omega, rfl, h.1, h.2⟩, fun x H' hy => ?_⟩
    obtain ⟨hs, rx⟩ := yl x H' hy
    have x1 : Ext ρ B H ρ B H' := Ext.same hs
    refine ⟨B, ρ, S, Γ, xs[i], Γ1, z2.same hs, g2.ext x1 z2.inB, rx, h3, fun σ2 _ _ g3 => ⟨B, ρ, S, Γ1, f1, S3, z2.same hs, g3, h4, fun H4 B4 ρ4 t4 z4 => ?_⟩⟩
    have tt := (t2.trans x1).trans t4
    cases f1 with
    | nx Γ2 => exact fun σ' g' => ⟨hlt, B4, ρ4, S3, Γ2, tt, z4, g', h5⟩
    | ct Γ2 => exact fun σ' g' => ⟨hlt, B4, ρ4, S3, Γ2, tt, z4, g', h5⟩
    | bk Γ2 =>
      obtain ⟨e1, e2⟩ := h5
      subst e1 e2
      exact fun σ' g' => k1 _ _ _ tt z4 σ' g'
    | rt e =>
      obtain ⟨e1, e2⟩ := h5
      subst e1 e2
      exact fun v r => k1 _ _ _ tt z4 v r
  · have hi' : i = xs.length := by omega
    rw [List.drop_eq_nil_of_le (by omega)] at hf
    obtain ⟨hm, e1, e2⟩ := forL_nil hf
    subst e1 e2
    obtain ⟨hstop, _⟩ := ok.2 ρ B _ H t2 z2 hm
    exact .inl ⟨hi' ▸ hstop, k1 _ _ _ t2 z2 σ g2⟩
end
end Pv
set_option maxRecDepth 100000
set_option maxHeartbeats 4000000
/-! ## M tells the text: the check, and what it is worth -/
namespace Pv
open PySem PySem.Spec PyProof.Rows L2
structure Df where
  name : Str
  st : Stmt
  N : List Str
  ps : List Str
  body : MB
  mutR : Bool
structure Tab where
  defs : List Df
  frees : List Str
  cons : List (Str × PyData)
  kws : List (Nat × List Str × List Nat)
def visB (sc : Scope) (x : Str) : Bool := match sc.names.lookup x with
  | some .local => true
  | some .cell => true
  | some .free => true
  | _ => false
def locB (sc : Scope) (x : Str) : Bool := match sc.names.lookup x with
  | some .local => true
  | some .cell => true
  | _ => false
def glB (sc : Scope) (x : Str) : Bool := decide (sc.names.lookup x = some .globalImplicit)
def okN (x : Str) : Bool := !(x == ("__debug__" : Str)) && !(x == ("__classdict__" : Str)) && !(x == ("__name__" : Str))
def nst : Expr → Bool
  | .Starred .. => false
  | _ => true
def isSet : Expr → Bool
  | .Set .. => true
  | _ => false
def isSli : Expr → Bool
  | .Slice .. => true
  | _ => false
def plb : Expr → Bool
  | .Call .. => false
  | _ => true
def flatEq : PyData → PyData → Bool
  | .none, .none => true
  | .bool a, .bool b => decide (a = b)
  | .int a, .int b => decide (a = b)
  | .str a, .str b => decide (a = b)
  | _, _ => false
theorem flatEq_ok {a b : PyData} (h : flatEq a b = true) : a = b := by
  cases a <;> cases b <;> first | rfl | (cases h; done) | (simp only [flatEq, decide_eq_true_eq] at h; rw [h])
def Bf.nm : Bf → Str
  | .len => "len"
  | .list => "list"
  | .tuple => "tuple"
  | .int => "int"
  | .bool => "bool"
  | .abs => "abs"
  | .max2 => "max"
  | .min2 => "min"
  | .sum => "sum"
  | .sorted => "sorted"
  | .all => "all"
  | .any => "any"
  | .min1 => "min"
  | .max1 => "max"
  | .divmod => "divmod"
theorem boot_bf (f : Bf) : bootBuiltins f.nm = some f.v := by
  cases f <;> decide +kernel
def Ms.len : Ms → Nat
  | .nil => 0
  | .cons _ es => es.len + 1
def free (T : Tab) (sc : Scope) (x : Str) : Bool := glB sc x && decide (x ∈ T.frees)
def tyN (T : Tab) (sc : Scope) (t : Ty) : Expr → Bool
  | .Name x _ => decide (x = Str.ofString t.nm) && free T sc x
  | _ => false
def tyNs (T : Tab) (sc : Scope) : List Ty → List Expr → Bool
  | [], [] => true
  | t :: ts, e :: es => tyN T sc t e && tyNs T sc ts es
  | _, _ => false
def slB (N : List Str) (sc : Scope) (fn : Str → Bool) (i : Nat) (x : Str) : Bool := decide (N[i]? = some x) && locB sc x && (fn x || decide (sc.names.lookup x = some .local))
def chkNs (N : List Str) (sc : Scope) (fn : Str → Bool) : List Nat → List Expr → Bool
  | [], [] => true
  | i :: is, .Name x _ :: es => slB N sc fn i x && chkNs N sc fn is es
  | _, _ => false
def chkG (N : List Str) (sc : Scope) (fn : Str → Bool) : Tg → Expr → Bool
  | .nm i, .Name x _ => slB N sc fn i x
  | .tp is, .Tuple es _ _ => chkNs N sc fn is es
  | _, _ => false
mutual
/-- may stand as a test -/
def tst : M → Bool
  | .ife .. => false
  | .not a => tst a
  | .boo _ es => tstL es
  | _ => true
def tstL : Ms → Bool
  | .nil => true
  | .cons a es => tst a && tstL es
end
def isTup : Expr → Bool
  | .Tuple .. => true
  | _ => false
section
variable (T : Tab) (N : List Str)
mutual
def chk : M → Scope → Expr → Bool
  | .var i, sc, e => (match e with
    | .Name x _ => decide (N[i]? = some x) && visB sc x && okN x
    | _ => false)
  | .con c, _, e => (match e with
    | .Constant .none _ _ => flatEq c .none
    | .Constant (.bool b) _ _ => flatEq c (.bool b)
    | .Constant (.int i) _ _ => flatEq c (.int i)
    | .Constant (.str s) _ _ => flatEq c (.str s)
    | _ => false)
  | .glob n c, sc, e => (match e with
    | .Name x _ => decide (x = n) && glB sc x && okN x && T.cons.any fun p => decide (p.1 = x) && flatEq p.2 c
    | _ => false)
  | .tup es, sc, e => (match e with
    | .Tuple l _ _ => chkL es sc l
    | _ => false)
  | .lst es, sc, e => (match e with
    | .List l _ => chkL es sc l
    | _ => false)
  | .lstM es, sc, e => (match e with
    | .List l _ => chkL es sc l
    | _ => false)
  | .dic0, _, e => (match e with
    | .Dict [] [] _ => true
    | _ => false)
  | .bin op a b, sc, e => (match e with
    | .BinOp x op' y _ => decide (op = op') && chk a sc x && chk b sc y
    | _ => false)
  | .neg a, sc, e => (match e with
    | .UnaryOp .USub x _ => chk a sc x
    | _ => false)
  | .not a, sc, e => (match e with
    | .UnaryOp .Not x _ => chk a sc x
    | _ => false)
  | .boo k es, sc, e => (match e with
    | .BoolOp op l _ => decide (op = bop k) && chkL es sc l
    | _ => false)
  | .ife c a b, sc, e => (match e with
    | .IfExp t x y _ => tst c && chk c sc t && chk a sc x && chk b sc y
    | _ => false)
  | .cmp op a b, sc, e => (match e with
    | .Compare x [op'] [y] _ => decide (op = op') && !isSet y && chk a sc x && chk b sc y
    | _ => false)
  | .chain op op2 a b c, sc, e => (match e with
    | .Compare x [p, q] [y, z] _ => decide (op = p) && decide (op2 = q) && !isSet z && chk a sc x && chk b sc y && chk c sc z
    | _ => false)
  | .isin a ts, sc, e => (match e with
    | .Call (.Name f _) [x, t] [] _ => decide (f = ("isinstance" : Str)) && free T sc f && nst x && chk a sc x && (match t with
      | .Tuple tys _ _ => tyNs T sc ts tys && decide (ts.length ≤ 15)
      | t => (match ts with
        | [t0] => tyN T sc t0 t
        | _ => false))
    | _ => false)
  | .blt f es, sc, e => (match e with
    | .Call (.Name g _) l [] _ => decide (g = f.nm) && free T sc g && (match l with
      | [] => false
      | x :: l => chkL es sc (x :: l))
    | _ => false)
  | .listRng a, sc, e => (match e with
    | .Call (.Name g _) [.Call (.Name r _) [x] [] _] [] _ => decide (g = ("list" : Str)) && free T sc g && decide (r = ("range" : Str)) && free T sc r && nst x && chk a sc x
    | _ => false)
  | .listM a, sc, e => (match e with
    | .Call (.Name g _) [x] [] _ => decide (g = ("list" : Str)) && free T sc g && nst x && chk a sc x
    | _ => false)
  | .listRngM a, sc, e => (match e with
    | .Call (.Name g _) [.Call (.Name r _) [x] [] _] [] _ => decide (g = ("list" : Str)) && free T sc g && decide (r = ("range" : Str)) && free T sc r && nst x && chk a sc x
    | _ => false)
  | .call i es, sc, e => (match e with
    | .Call (.Name g _) l [] _ => (match T.defs[i]? with
      | some d => decide (d.name = g) && decide (es.len = d.ps.length) && glB sc g && okN g && chkL es sc l
      | none => false)
    | _ => false)
  | .callk i ks ix es, sc, e => (match e with
    | .Call (.Name g _) [] kws _ => (match T.defs[i]? with
      | some d => decide (d.name = g) && decide ((i, ks, ix) ∈ T.kws) && glB sc g && okN g && chkK es sc ks kws
      | none => false)
    | _ => false)
  | .index o a, sc, e => (match e with
    | .Call (.Attribute x m ap) [y] [] cp => decide (m = ("index" : Str)) && plb x && (ap.endLine == cp.line) && nst y && chk o sc x && chk a sc y
    | _ => false)
  | .append o a, sc, e => (match e with
    | .Call (.Attribute x m ap) [y] [] cp => decide (m = ("append" : Str)) && plb x && (ap.endLine == cp.line) && nst y && chk o sc x && chk a sc y
    | _ => false)
  | .popAt o a, sc, e => (match e with
    | .Call (.Attribute x m ap) [y] [] cp => decide (m = ("pop" : Str)) && plb x && (ap.endLine == cp.line) && nst y && chk o sc x && chk a sc y
    | _ => false)
  | .pop o, sc, e => (match e with
    | .Call (.Attribute x m ap) [] [] cp => decide (m = ("pop" : Str)) && plb x && (ap.endLine == cp.line) && chk o sc x
    | _ => false)
  | .idx a i, sc, e => (match e with
    | .Subscript x y _ => !isSli y && chk a sc x && chk i sc y
    | _ => false)
  | .sl a lo hi, sc, e => (match e with
    | .Subscript x (.Slice l h none _) _ => chk a sc x && chkO lo sc l && chkO hi sc h
    | _ => false)
  | .rev a, sc, e => (match e with
    | .Subscript x (.Slice none none (some (.UnaryOp .USub (.Constant (.int 1) _ _) _)) _) _ => chk a sc x
    | _ => false)
  | .two k a, sc, e => (match e with
    | .Subscript x (.Slice lo none (some (.Constant (.int 2) _ _)) _) _ => chk a sc x && (match lo with
      | none => decide (k = 0)
      | some (.Constant (.int 1) _ _) => decide (k = 1)
      | _ => false)
    | _ => false)
  | .comp own tg it c m, sc, e => (match e with
    | .ListComp elt [⟨etg, eit, ifs, asy⟩] scope _ => decide (asy = 0) && blkC N sc scope own && (tg.slots.all fun i => decide (i ∈ own.map (·.2))) && !isSet eit && chkG N (relS scope sc) (fun x => scope.names.lookup x == some .cell) tg etg &&
        chkI it sc (isTup etg) eit && chkC c (relS scope sc) ifs && chk m (relS scope sc) elt
    | _ => false)
  | .comp2 _ _ _ _ _ _ _ _ _, _, _ => false
def chkL : Ms → Scope → List Expr → Bool
  | .nil, _, l => (match l with
    | [] => true
    | _ => false)
  | .cons m es, sc, l => (match l with
    | x :: l => nst x && chk m sc x && chkL es sc l
    | _ => false)
def chkK : Ms → Scope → List Str → List Keyword → Bool
  | .nil, _, ks, l => (match ks, l with
    | [], [] => true
    | _, _ => false)
  | .cons m es, sc, ks, l => (match ks, l with
    | k :: ks, ⟨some n, x, _⟩ :: l => decide (n = k) && chk m sc x && chkK es sc ks l
    | _, _ => false)
def chkO : Mo → Scope → Option Expr → Bool
  | .no, _, e => (match e with
    | none => true
    | _ => false)
  | .yes m, sc, e => (match e with
    | some x => chk m sc x
    | _ => false)
def chkC : Mo → Scope → List Expr → Bool
  | .no, _, e => (match e with
    | [] => true
    | _ => false)
  | .yes m, sc, e => (match e with
    | [x] => tst m && chk m sc x
    | _ => false)
def chkI : Mi → Scope → Bool → Expr → Bool
  | .val m, sc, _, e => chk m sc e
  | .rng m, sc, _, e => (match e with
    | .Call (.Name r _) [x] [] _ => decide (r = ("range" : Str)) && free T sc r && nst x && chk m sc x
    | _ => false)
  | .rng2 a b, sc, _, e => (match e with
    | .Call (.Name r _) [x, y] [] _ => decide (r = ("range" : Str)) && free T sc r && nst x && nst y && chk a sc x && chk b sc y
    | _ => false)
  | .enum m, sc, tp, e => (match e with
    | .Call (.Name r _) [x] [] _ => tp && decide (r = ("enumerate" : Str)) && free T sc r && nst x && chk m sc x
    | _ => false)
  | .zip _ _, _, _, _ => false
end
end
/-! ### the context -/
structure CalOk (P : Program) (w : World) (K : PySem.W.Frag) (mg : Str → Option Value) (base : Heap) (T : Tab) (k : Nat) (cal : Cal) : Prop where
  defs : ∀ i d, T.defs[i]? = some d → ∃ f fd, mg d.name = some (.ref f) ∧ PySem.W.keepIn K (.ref f) = true ∧ Binds K fd d.ps [] ∧ FnOk P w K mg base CX0 k f fd d.ps (spC K cal d.ps.length i) ∧
    ∀ ks ix, (i, ks, ix) ∈ T.kws → ix.length = d.ps.length ∧ ∃ gK, KBn K fd d.ps 0 ks gK fun _ zs => pickL zs ix
  free : ∀ x ∈ T.frees, mg x = none
  cons : ∀ x c, (x, c) ∈ T.cons → ∃ v u, mg x = some u ∧ RelV v u ∧ ∀ B H, Rp K B H v c
structure XS (T : Tab) (N : List Str) (k : Nat) (cal : Cal) (fn : Str → Bool) (X : Cx) : Prop where
  cal : CalOk X.prog X.w X.K X.mg X.base T k cal
  N : X.N = N
  nd : X.N.Nodup
  calm : X.calm = true
  room : Room k X.A
  kind : X.env.scope.kind = .function
  fn : X.fn = fn
section
variable {T : Tab} {N : List Str} {k : Nat} {cal : Cal} {fn : Str → Bool} {X : Cx}
theorem XS.hu (x : XS T N k cal fn X) : X.A.units + 65 < cLine := by
  have := x.room.un
  omega
theorem XS.blk (x : XS T N k cal fn X) {scope : Scope} {own : List (Str × Nat)} (ok : BlkOk X.N X.env.scope scope own) (s : Shared) (H : Hp) (C : Addr) (cl : List (Str × Addr)) (fp : List Addr) :
    XS T N k cal (fun y => scope.names.lookup y == some .cell) (X.blk s H scope (compEnvC scope cl C X.env) fp) :=
  ⟨x.cal, x.N, x.nd, x.calm, x.room, ok.kind, rfl⟩
theorem vis_ok {sc : Scope} {x : Str} (h : visB sc x = true) : Vis sc x := by
  unfold visB at h
  split at h
  · rename_i e; exact .inl e
  · rename_i e; exact .inr (.inl e)
  · rename_i e; exact .inr (.inr e)
  · cases h
theorem loc_ok {sc : Scope} {x : Str} (h : locB sc x = true) : Loc sc x := by
  unfold locB at h
  split at h
  · rename_i e; exact .inl e
  · rename_i e; exact .inr e
  · cases h
theorem okN_ok {x : Str} (h : okN x = true) : (x == ("__debug__" : Str)) = false ∧ (x == ("__classdict__" : Str)) = false ∧ x ≠ "__name__" := by
  simp only [okN, Bool.and_eq_true, Bool.not_eq_true'] at h
  exact ⟨h.1.1, h.1.2, fun e => by rw [e] at h; exact absurd h.2 (by decide)⟩
theorem free_ok (x : XS T N k cal fn X) {y : Str} (h : free T X.env.scope y = true) : Gl X y ∧ X.mg y = none := by
  simp only [free, glB, Bool.and_eq_true, decide_eq_true_eq] at h
  exact ⟨h.1, x.cal.free y h.2⟩
theorem star1 {e : Expr} {l : List Expr} {env : Env} (h : nst e = true) : starEach (e :: l) env = (false, eval e env) :: starEach l env := by
  cases e <;> first | rfl | cases h
theorem set0 {op : CmpOp} {e : Expr} (h : isSet e = false) : behindInMarks op e = false := by
  cases e <;> first | rfl | cases h
theorem fold0 {e : Expr} {env : Env} (h : isSet e = false) : ∀ x, foldedSetIterable e env x = pure x := by
  intro x
  cases e <;> first | rfl | cases h
theorem base0 {e : Expr} {m : Str} {env : Env} (h : plb e = true) : attributeBase e m env (eval e env) = eval e env := by
  cases e <;> first | rfl | cases h
theorem slot_ok (x : XS T N k cal fn X) {i : Nat} {y : Str} {pos : Pos} (h : slB N X.env.scope fn i y = true) : PG X (.Name y pos) (gName i) := by
  simp only [slB, Bool.and_eq_true, decide_eq_true_eq, Bool.or_eq_true] at h
  obtain ⟨⟨h1, h2⟩, h3⟩ := h
  exact pg_name x.nd (by rw [x.N]; exact h1) (loc_ok h2) (by rw [x.fn]; exact h3)
theorem pgs_names (x : XS T N k cal fn X) : ∀ {is : List Nat} {es : List Expr}, chkNs N X.env.scope fn is es = true → PGs X es (gN is) ∧ (assignEach es X.env).length = is.length ∧ (assignEach es X.env).findIdx? (·.1) = none
  | [], [], _ => ⟨pgs_nil, rfl, rfl⟩
  | [], _ :: _, h => by cases h
  | i :: is, [], h => by cases h
  | i :: is, e :: es, h => by
    cases e with
    | Name y p =>
      simp only [chkNs, Bool.and_eq_true] at h
      obtain ⟨h1, h2, h3⟩ := pgs_names x h.2
      refine ⟨pgs_cons (slot_ok x h.1) h1 rfl, ?_, ?_⟩
      · show (assignEach es X.env).length + 1 = is.length + 1
        rw [h2]
      · show List.findIdx? (·.1) ((false, assign (.Name y p) X.env) :: assignEach es X.env) = none
        rw [List.findIdx?_cons]
        simp [h3]
    | _ => cases h
theorem chkG_ok (x : XS T N k cal fn X) {tg : Tg} {e : Expr} (h : chkG N X.env.scope fn tg e = true) : PG X e (tG X.K tg) := by
  cases tg with
  | nm i =>
    cases e with
    | Name y p => exact pg_mname (slot_ok x h)
    | _ => cases h
  | tp is =>
    cases e with
    | Tuple es k0 p =>
      obtain ⟨h1, h2, h3⟩ := pgs_names x (show chkNs N X.env.scope fn is es = true from h)
      exact pg_mtup (pg_tup x.calm h1 h2 h3)
    | _ => cases h
theorem ty_ok (x : XS T N k cal fn X) {t : Ty} {e : Expr} (h : tyN T X.env.scope t e = true) : PE X e (L2.tC (.ty t.nm)) ∧ nst e = true := by
  cases e with
  | Name y p =>
    simp only [tyN, Bool.and_eq_true, decide_eq_true_eq] at h
    obtain ⟨h1, h2⟩ := h
    obtain ⟨hg, hm⟩ := free_ok x h2
    subst h1
    refine ⟨pe_bltn hg hm (u := .type t.nm) ?_ rfl ?_ ?_, rfl⟩
    · cases t <;> decide +kernel
    · cases t <;> decide +kernel
    · cases t <;> decide +kernel
  | _ => cases h
theorem tys_ok (x : XS T N k cal fn X) : ∀ {ts : List Ty} {es : List Expr}, tyNs T X.env.scope ts es = true → PA X es (fun _ H Q => Q (ts.map fun t => V.ty t.nm) H)
  | [], [], _ => PAm pa_nil fun σ H Q h => h
  | [], _ :: _, h => by cases h
  | _ :: _, [], h => by cases h
  | t :: ts, e :: es, h => by
    simp only [tyNs, Bool.and_eq_true] at h
    obtain ⟨h1, h2⟩ := ty_ok x h.1
    exact PAm (pa_cons h1 (tys_ok x h.2) (star1 h2)) fun σ H Q h => h
theorem chkL_stars : ∀ {es : Ms} {sc : Scope} {l : List Expr} {pos : Pos} {env : Env}, chkL T N es sc l = true → (backTo pos (starEach l env)).any (·.1) = false ∧ l.length = es.len
  | .nil, sc, [], _, _, _ => ⟨rfl, rfl⟩
  | .nil, sc, _ :: _, _, _, h => by simp [chkL] at h
  | .cons m es, sc, [], _, _, h => by simp [chkL] at h
  | .cons m es, sc, x :: l, pos, env, h => by
    simp only [chkL, Bool.and_eq_true] at h
    obtain ⟨h1, h2⟩ := chkL_stars (pos := pos) (env := env) h.2
    rw [star1 h.1.1]
    refine ⟨?_, by rw [List.length_cons, h2]; rfl⟩
    show ((false, _) :: backTo pos (starEach l env)).any (·.1) = false
    rw [List.any_cons, h1]
    rfl
theorem evs_len : ∀ {es : Ms} {Γ : Ev} {S S' : Sto} {xs : List E}, evs cal es Γ S = some (xs, S') → xs.length = es.len
  | .nil, Γ, S, S', xs, h => by
    have h : some (([] : List E), S) = some (xs, S') := by simpa only [evs] using h
    cases h
    rfl
  | .cons m es, Γ, S, S', xs, h => by
    have h : bd (ev cal m Γ S) (fun x S1 => bd (evs cal es Γ S1) fun xs S2 => some (x :: xs, S2)) = some (xs, S') := by simpa only [evs] using h
    obtain ⟨x, S1, e1, h⟩ := bd_inv h
    obtain ⟨ys, S2, e2, h⟩ := bd_inv h
    cases h
    rw [List.length_cons, evs_len e2]
    rfl
theorem chkK_names : ∀ {es : Ms} {sc : Scope} {ks : List Str} {l : List Keyword} {pos : Pos} {env : Env}, chkK T N es sc ks l = true →
    (backToKw pos (keywordEach l env)).all (·.1.isSome) = true ∧ (backToKw pos (keywordEach l env)).filterMap (·.1) = ks ∧ (backToKw pos (keywordEach l env)).any (·.1.isNone) = false
  | .nil, sc, [], [], _, _, _ => ⟨rfl, rfl, rfl⟩
  | .nil, sc, _ :: _, [], _, _, h => by simp [chkK] at h
  | .nil, sc, [], _ :: _, _, _, h => by simp [chkK] at h
  | .nil, sc, _ :: _, _ :: _, _, _, h => by simp [chkK] at h
  | .cons m es, sc, [], [], _, _, h => by simp [chkK] at h
  | .cons m es, sc, [], _ :: _, _, _, h => by simp [chkK] at h
  | .cons m es, sc, _ :: _, [], _, _, h => by simp [chkK] at h
  | .cons m es, sc, k :: ks, ⟨none, x, p⟩ :: l, _, _, h => by simp [chkK] at h
  | .cons m es, sc, k :: ks, ⟨some n, x, p⟩ :: l, pos, env, h => by
    simp only [chkK, Bool.and_eq_true, decide_eq_true_eq] at h
    obtain ⟨h1, h2, h3⟩ := chkK_names (pos := pos) (env := env) h.2
    show ((some n, _) :: backToKw pos (keywordEach l env)).all (·.1.isSome) = true ∧ ((some n, _) :: backToKw pos (keywordEach l env)).filterMap (·.1) = k :: ks ∧ ((some n, _) :: backToKw pos (keywordEach l env)).any (·.1.isNone) = false
    rw [List.all_cons, h1, List.any_cons, h3, List.filterMap_cons, h2, h.1.1]
    exact ⟨rfl, rfl, rfl⟩
theorem chkK_len : ∀ {es : Ms} {sc : Scope} {ks : List Str} {l : List Keyword}, chkK T N es sc ks l = true → ks.length = es.len
  | .nil, sc, [], [], _ => rfl
  | .nil, sc, _ :: _, [], h => by simp [chkK] at h
  | .nil, sc, [], _ :: _, h => by simp [chkK] at h
  | .nil, sc, _ :: _, _ :: _, h => by simp [chkK] at h
  | .cons m es, sc, [], [], h => by simp [chkK] at h
  | .cons m es, sc, [], _ :: _, h => by simp [chkK] at h
  | .cons m es, sc, _ :: _, [], h => by simp [chkK] at h
  | .cons m es, sc, k :: ks, ⟨none, x, p⟩ :: l, h => by simp [chkK] at h
  | .cons m es, sc, k :: ks, ⟨some n, x, p⟩ :: l, h => by
    simp only [chkK, Bool.and_eq_true, decide_eq_true_eq] at h
    rw [List.length_cons, chkK_len h.2]
    rfl
end
end Pv
set_option maxRecDepth 100000
set_option maxHeartbeats 4000000
/-! ## The check is worth the readings -/
namespace Pv
open PySem PySem.Spec PyProof.Rows L2
section
variable {T : Tab} {N : List Str} {k : Nat} {cal : Cal}
theorem gl_ok {X : Cx} {g : Str} (h : glB X.env.scope g = true) : Gl X g := of_decide_eq_true (p := X.env.scope.names.lookup g = some .globalImplicit) h
theorem lm_ok {op op2 : CmpOp} {u v : Expr} (h : isSet v = false) : lastMarks [op, op2] [u, v] = false := set0 (op := op2) h
theorem pl {X : Cx} {m : M} {e : Expr} (h : PE X e (tE X.K cal m)) (he : ∀ whole, isTrue e X.env whole = (do let v ← whole; standAt e.pos; holding [v] (truthy v))) : PE X e (tE X.K cal m) ∧ (tst m = true → PT X e (tT X.K cal m)) := ⟨h, fun _ => pt_plain h he⟩
mutual
theorem sM : ∀ (m : M) {fn : Str → Bool} {X : Cx} {e : Expr}, XS T N k cal fn X → chk T N m X.env.scope e = true → PE X e (tE X.K cal m) ∧ (tst m = true → PT X e (tT X.K cal m))
  | .var i, fn, X, e, x, h => by
    simp only [chk] at h
    split at h
    · simp only [Bool.and_eq_true, decide_eq_true_eq] at h
      obtain ⟨h1, h2, _⟩ := okN_ok h.2
      exact pl (pe_v (pe_var (by rw [x.N]; exact h.1.1) (vis_ok h.1.2) h1 h2)) fun _ => rfl
    · cases h
  | .con c, fn, X, e, x, h => by
    simp only [chk] at h
    split at h
    · rw [flatEq_ok h]
      exact pl (pe_con pe_non fun _ _ => .non) fun _ => rfl
    · rw [flatEq_ok h]
      exact pl (pe_con pe_bl fun _ _ => .bl _) fun _ => rfl
    · rw [flatEq_ok h]
      exact pl (pe_con pe_int fun _ _ => .int _) fun _ => rfl
    · rw [flatEq_ok h]
      exact pl (pe_con pe_str fun _ _ => .str _) fun _ => rfl
    · cases h
  | .glob n c, fn, X, e, x, h => by
    simp only [chk] at h
    split at h
    · simp only [Bool.and_eq_true, decide_eq_true_eq, List.any_eq_true] at h
      obtain ⟨⟨⟨e1, h1⟩, h2⟩, ⟨y, d⟩, hm, e2, e3⟩ := h
      obtain ⟨h3, _, _⟩ := okN_ok h2
      cases e2
      have e3 := flatEq_ok e3
      obtain ⟨v, u, h4, h5, h6⟩ := x.cal.cons _ _ hm
      simp only at e3
      rw [e3] at h6
      exact pl (pe_glo (pe_glob (show X.env.scope.names.lookup y = some .globalImplicit from of_decide_eq_true h1) h4 h5 h3) h6) fun _ => rfl
    · cases h
  | .tup es, fn, X, e, x, h => by
    simp only [chk] at h
    split at h
    · exact pl (pe_mtup (sL es x h).1) fun _ => rfl
    · cases h
  | .lst es, fn, X, e, x, h => by
    simp only [chk] at h
    split at h
    · exact pl (pe_mlst (sL es x h).1) fun _ => rfl
    · cases h
  | .lstM es, fn, X, e, x, h => by
    simp only [chk] at h
    split at h
    · exact pl (pe_mlstM (sL es x h).1) fun _ => rfl
    · cases h
  | .dic0, fn, X, e, x, h => by
    simp only [chk] at h
    split at h
    · exact pl pe_mdic0 fun _ => rfl
    · cases h
  | .bin op a b, fn, X, e, x, h => by
    simp only [chk] at h
    split at h
    · simp only [Bool.and_eq_true, decide_eq_true_eq] at h
      obtain ⟨⟨e1, h1⟩, h2⟩ := h
      cases e1
      exact pl (pe_mbin (sM a x h1).1 (sM b x h2).1) fun _ => rfl
    · cases h
  | .neg a, fn, X, e, x, h => by
    simp only [chk] at h
    split at h
    · exact pl (pe_mneg (sM a x h).1) fun _ => rfl
    · cases h
  | .not a, fn, X, e, x, h => by
    simp only [chk] at h
    split at h
    · have hh := sM a x h
      exact ⟨pe_mnot hh.1, fun ht => pt_mnot (hh.2 (by simpa only [tst] using ht))⟩
    · cases h
  | .boo kk es, fn, X, e, x, h => by
    simp only [chk] at h
    split at h
    · simp only [Bool.and_eq_true, decide_eq_true_eq] at h
      obtain ⟨e1, h1⟩ := h
      cases e1
      rename_i l pos
      have hl : l ≠ [] ∨ l = [] := by
        cases l with
        | nil => exact .inr rfl
        | cons _ _ => exact .inl (by simp)
      rcases hl with hl | hl
      · obtain ⟨h2, h3⟩ := (sL es x h1).2 kk pos hl
        exact ⟨pe_boo h2, fun ht => pt_boo (h3 (by simpa only [tst] using ht))⟩
      · subst hl
        have he : es = .nil := by
          cases es with
          | nil => rfl
          | cons _ _ => simp [chkL] at h1
        subst he
        refine ⟨⟨fun pins s σ H Q I ⟨B, ρ, S, Γ, e, S', z, g, q, _⟩ => ?_⟩, fun _ => ⟨fun pins s σ H Q I ⟨B, ρ, S, Γ, e, S', k0, z, g, q, _⟩ => ?_⟩⟩
        · simp only [ev, evB, reduceCtorEq] at q
        · simp only [ev, evB, reduceCtorEq] at q
    · cases h
  | .ife c a b, fn, X, e, x, h => by
    simp only [chk] at h
    split at h
    · simp only [Bool.and_eq_true] at h
      obtain ⟨⟨⟨h0, h1⟩, h2⟩, h3⟩ := h
      exact ⟨pe_mife ((sM c x h1).2 h0) (sM a x h2).1 (sM b x h3).1, fun ht => by simp [tst] at ht⟩
    · cases h
  | .cmp op a b, fn, X, e, x, h => by
    simp only [chk] at h
    split at h
    · simp only [Bool.and_eq_true, decide_eq_true_eq, Bool.not_eq_true'] at h
      obtain ⟨⟨⟨e1, h0⟩, h1⟩, h2⟩ := h
      cases e1
      exact ⟨pe_mcmp x.hu (sM a x h1).1 (sM b x h2).1 (set0 h0), fun _ => pt_mcmp x.hu (sM a x h1).1 (sM b x h2).1 (set0 h0)⟩
    · cases h
  | .chain op op2 a b c, fn, X, e, x, h => by
    simp only [chk] at h
    split at h
    · simp only [Bool.and_eq_true, decide_eq_true_eq, Bool.not_eq_true'] at h
      obtain ⟨⟨⟨⟨⟨e1, e2⟩, h0⟩, h1⟩, h2⟩, h3⟩ := h
      cases e1
      cases e2
      exact ⟨pe_mchain x.hu (sM a x h1).1 (sM b x h2).1 (sM c x h3).1 (lm_ok h0), fun _ => pt_mchain x.hu (sM a x h1).1 (sM b x h2).1 (sM c x h3).1 (lm_ok h0)⟩
    · cases h
  | .isin a ts, fn, X, e, x, h => by
    simp only [chk] at h
    split at h
    · simp only [Bool.and_eq_true, decide_eq_true_eq] at h
      obtain ⟨⟨⟨⟨e1, h1⟩, h2⟩, h3⟩, h4⟩ := h
      subst e1
      obtain ⟨hg, hm⟩ := free_ok x h1
      have ha := (sM a x h3).1
      split at h4
      · simp only [Bool.and_eq_true, decide_eq_true_eq] at h4
        exact pl (pe_misinT h4.2 hg hm ha (tys_ok x h4.1) (by rw [star1 h2]; rfl)) fun _ => rfl
      · split at h4
        · obtain ⟨h5, h6⟩ := ty_ok x h4
          exact pl (pe_misin1 hg hm ha h5 (by rw [star1 h2, star1 h6]; rfl) (by rw [star1 h6]; rfl)) fun _ => rfl
        · cases h4
    · cases h
  | .blt f es, fn, X, e, x, h => by
    simp only [chk] at h
    split at h
    · simp only [Bool.and_eq_true, decide_eq_true_eq] at h
      obtain ⟨⟨e1, h1⟩, h2⟩ := h
      subst e1
      split at h2
      · cases h2
      · have hl := (sL es x h2).1
        obtain ⟨hg, hm⟩ := free_ok x h1
        have hb := boot_bf f
        have hn : f.nm ≠ "__name__" := by cases f <;> decide
        have hd : (f.nm == ("__debug__" : Str)) = false := by cases f <;> decide
        rename_i y l
        cases es with
        | nil => simp [chkL] at h2
        | cons m es =>
          have h3 : nst y = true ∧ chkL T N es X.env.scope l = true := by
            simp only [chkL, Bool.and_eq_true] at h2
            exact ⟨h2.1.1, h2.2⟩
          cases hv : f.v with
          | builtin id =>
            rw [hv] at hb
            exact pl (pe_mbltB hv x.calm hg hm hb hl hn hd (star1 h3.1) (chkL_stars h3.2).1) fun _ => rfl
          | type id =>
            rw [hv] at hb
            exact pl (pe_mbltT hv x.calm hg hm hb hl hn hd (star1 h3.1) (chkL_stars h3.2).1) fun _ => rfl
          | _ => cases f <;> cases hv
    · cases h
  | .listM a, fn, X, e, x, h => by
    simp only [chk] at h
    split at h
    · simp only [Bool.and_eq_true, decide_eq_true_eq] at h
      obtain ⟨⟨⟨e1, h1⟩, h2⟩, h3⟩ := h
      subst e1
      exact pl (pe_mlistM (free_ok x h1).1 (free_ok x h1).2 (sM a x h3).1 (by rw [star1 h2]; rfl)) fun _ => rfl
    · cases h
  | .listRng a, fn, X, e, x, h => by
    simp only [chk] at h
    split at h
    · simp only [Bool.and_eq_true, decide_eq_true_eq] at h
      obtain ⟨⟨⟨⟨⟨e1, h1⟩, e2⟩, h2⟩, h3⟩, h4⟩ := h
      subst e1 e2
      exact pl (pe_mlistRng x.calm (free_ok x h1).1 (free_ok x h1).2 (free_ok x h2).1 (free_ok x h2).2 (sM a x h4).1 (by rw [star1 h3]; rfl)) fun _ => rfl
    · cases h
  | .listRngM a, fn, X, e, x, h => by
    simp only [chk] at h
    split at h
    · simp only [Bool.and_eq_true, decide_eq_true_eq] at h
      obtain ⟨⟨⟨⟨⟨e1, h1⟩, e2⟩, h2⟩, h3⟩, h4⟩ := h
      subst e1 e2
      exact pl (pe_mlistRngM x.calm (free_ok x h1).1 (free_ok x h1).2 (free_ok x h2).1 (free_ok x h2).2 (sM a x h4).1 (by rw [star1 h3]; rfl)) fun _ => rfl
    · cases h
  | .call i es, fn, X, e, x, h => by
    simp only [chk] at h
    split at h
    · split at h
      · rename_i d hd
        simp only [Bool.and_eq_true, decide_eq_true_eq] at h
        obtain ⟨⟨⟨⟨e1, e2⟩, h1⟩, h2⟩, h3⟩ := h
        obtain ⟨f, fd, c1, c2, c3, c4, c5⟩ := x.cal.defs i d hd
        rw [e1] at c1
        obtain ⟨h4, h6, h7⟩ := okN_ok h2
        have hg := gl_ok h1
        have hl := (sL es x h3).1
        cases es with
        | nil =>
          have e3 : d.ps.length = 0 := e2.symm
          rw [e3] at c4
          simp only [chkL] at h3
          split at h3
          · exact pl (pe_mcall0 c4 x.room hg c1 c2 c3 h4) fun _ => rfl
          · cases h3
        | cons m es =>
          rename_i l _ _
          cases l with
          | nil => simp [chkL] at h3
          | cons y l =>
            have h5 : nst y = true ∧ chkL T N es X.env.scope l = true := by
              simp only [chkL, Bool.and_eq_true] at h3
              exact ⟨h3.1.1, h3.2⟩
            exact pl (pe_mcall c4 x.room hg c1 c2 c3 hl (fun Γ S xs S' he => (evs_len he).trans e2) h4 (star1 h5.1) (chkL_stars h5.2).1) fun _ => rfl
      · cases h
    · cases h
  | .callk i ks ix es, fn, X, e, x, h => by
    simp only [chk] at h
    split at h
    · split at h
      · rename_i d hd
        simp only [Bool.and_eq_true, decide_eq_true_eq] at h
        obtain ⟨⟨⟨⟨e1, e2⟩, h1⟩, h2⟩, h3⟩ := h
        obtain ⟨f, fd, c1, c2, c3, c4, c5⟩ := x.cal.defs i d hd
        rw [e1] at c1
        obtain ⟨h4, _, _⟩ := okN_ok h2
        have hg := gl_ok h1
        obtain ⟨e4, gK, c6⟩ := c5 ks ix e2
        obtain ⟨n1, n2, n3⟩ := chkK_names (pos := _) (env := X.env) h3
        exact pl (pe_mcallk c4 x.room hg c1 c2 c6 (fun Γ S xs S' q => (evs_len q).trans (chkK_len h3).symm) e4 (sK es x h3) n1 n2 h4 (by rw [n3]; rfl)) fun _ => rfl
      · cases h
    · cases h
  | .index o a, fn, X, e, x, h => by
    simp only [chk] at h
    split at h
    · simp only [Bool.and_eq_true, decide_eq_true_eq] at h
      obtain ⟨⟨⟨⟨⟨e1, h1⟩, h2⟩, h3⟩, h4⟩, h5⟩ := h
      subst e1
      exact pl (pe_mindex x.hu (sM o x h4).1 (sM a x h5).1 (base0 h1) h2 (by rw [star1 h3]; rfl)) fun _ => rfl
    · cases h
  | .append o a, fn, X, e, x, h => by
    simp only [chk] at h
    split at h
    · simp only [Bool.and_eq_true, decide_eq_true_eq] at h
      obtain ⟨⟨⟨⟨⟨e1, h1⟩, h2⟩, h3⟩, h4⟩, h5⟩ := h
      subst e1
      exact pl (pe_mappend (sM o x h4).1 (sM a x h5).1 (base0 h1) h2 (by rw [star1 h3]; rfl)) fun _ => rfl
    · cases h
  | .popAt o a, fn, X, e, x, h => by
    simp only [chk] at h
    split at h
    · simp only [Bool.and_eq_true, decide_eq_true_eq] at h
      obtain ⟨⟨⟨⟨⟨e1, h1⟩, h2⟩, h3⟩, h4⟩, h5⟩ := h
      subst e1
      exact pl (pe_mpopAt (sM o x h4).1 (sM a x h5).1 (base0 h1) h2 (by rw [star1 h3]; rfl)) fun _ => rfl
    · cases h
  | .pop o, fn, X, e, x, h => by
    simp only [chk] at h
    split at h
    · simp only [Bool.and_eq_true, decide_eq_true_eq] at h
      obtain ⟨⟨⟨e1, h1⟩, h2⟩, h3⟩ := h
      subst e1
      exact pl (pe_mpop (sM o x h3).1 (base0 h1) h2) fun _ => rfl
    · cases h
  | .idx a i, fn, X, e, x, h => by
    simp only [chk] at h
    split at h
    · simp only [Bool.and_eq_true, Bool.not_eq_true'] at h
      obtain ⟨⟨h1, h2⟩, h3⟩ := h
      refine pl (pe_midx (sM a x h2).1 (sM i x h3).1 fun o j => ?_) fun _ => rfl
      rename_i y _
      cases y <;> first | rfl | cases h1
    · cases h
  | .sl a lo hi, fn, X, e, x, h => by
    simp only [chk] at h
    split at h
    · simp only [Bool.and_eq_true] at h
      obtain ⟨⟨h1, h2⟩, h3⟩ := h
      exact pl (pe_msl (sM a x h1).1 (sO lo x h2) (sO hi x h3)) fun _ => rfl
    · cases h
  | .rev a, fn, X, e, x, h => by
    simp only [chk] at h
    split at h
    · exact pl (pe_mrev (p4 := ⟨0, 0, 0, 0⟩) (sM a x h).1) fun _ => rfl
    · cases h
  | .two kk a, fn, X, e, x, h => by
    simp only [chk] at h
    split at h
    · simp only [Bool.and_eq_true] at h
      obtain ⟨h1, h2⟩ := h
      split at h2
      · exact pl (pe_mtwo (p4 := ⟨0, 0, 0, 0⟩) (.inl ⟨of_decide_eq_true h2, .inl rfl⟩) po_nil (sM a x h1).1) fun _ => rfl
      · exact pl (pe_mtwo (p4 := ⟨0, 0, 0, 0⟩) (.inr ⟨of_decide_eq_true h2, rfl⟩) po_lit (sM a x h1).1) fun _ => rfl
      · cases h2
    · cases h
  | .comp own tg it c m, fn, X, e, x, h => by
    simp only [chk] at h
    split at h
    · simp only [Bool.and_eq_true, decide_eq_true_eq, Bool.not_eq_true', List.all_eq_true] at h
      obtain ⟨⟨⟨⟨⟨⟨⟨e1, h1⟩, h2⟩, h3⟩, h4⟩, h5⟩, h6⟩, h7⟩ := h
      subst e1
      have ok : BlkOk X.N X.env.scope _ own := blkOk_by (by rw [x.N]; exact h1)
      exact pl (pe_mcomp x.calm x.nd (sI it x h5) ok h2 (fun s H C cl fp => chkG_ok (x.blk ok s H C cl fp) h4) (fun s H C cl fp => sC c (x.blk ok s H C cl fp) h6) (fun s H C cl fp => (sM m (x.blk ok s H C cl fp) h7).1) (fold0 h3)) fun _ => rfl
    · cases h
  | .comp2 _ _ _ _ _ _ _ _ _, fn, X, e, x, h => by simp [chk] at h
theorem sL : ∀ (es : Ms) {fn : Str → Bool} {X : Cx} {l : List Expr}, XS T N k cal fn X → chkL T N es X.env.scope l = true →
    PA X l (tL X.K cal es) ∧ ∀ (kk : Bool) (pos : Pos), l ≠ [] → PE X (.BoolOp (bop kk) l pos) (tB' X.K cal kk es) ∧ (tstL es = true → PW X (.BoolOp (bop kk) l pos) (tBT X.K cal kk es))
  | .nil, fn, X, l, x, h => by
    simp only [chkL] at h
    split at h
    · exact ⟨pa_mnil, fun _ _ hl => absurd rfl hl⟩
    · cases h
  | .cons m es, fn, X, l, x, h => by
    simp only [chkL] at h
    split at h
    · simp only [Bool.and_eq_true] at h
      obtain ⟨⟨h1, h2⟩, h3⟩ := h
      have hm := sM m x h2
      have hl := sL es x h3
      refine ⟨pa_mcons hm.1 hl.1 (star1 h1), fun kk pos _ => ?_⟩
      cases es with
      | nil =>
        rename_i l _
        have hl0 : l = [] := by
          cases l with
          | nil => rfl
          | cons _ _ => simp [chkL] at h3
        subst hl0
        exact ⟨pe_boo1 hm.1, fun ht => pw_boo1 (hm.2 (by simp only [tstL, Bool.and_eq_true] at ht; exact ht.1))⟩
      | cons f fs =>
        rename_i l _
        cases l with
        | nil => simp [chkL] at h3
        | cons y l =>
          obtain ⟨h4, h5⟩ := hl.2 kk pos (by simp)
          exact ⟨pe_boo2 hm.1 h4, fun ht => by
            have ht : tst m = true ∧ tstL (.cons f fs) = true := by
              rw [tstL] at ht
              exact (Bool.and_eq_true _ _).mp ht
            exact pw_boo2 (hm.2 ht.1) (h5 ht.2)⟩
    · cases h
theorem sK : ∀ (es : Ms) {fn : Str → Bool} {X : Cx} {ks : List Str} {l : List Keyword}, XS T N k cal fn X → chkK T N es X.env.scope ks l = true → PK X l (tL X.K cal es)
  | .nil, fn, X, ks, l, x, h => by
    simp only [chkK] at h
    split at h
    · exact pk_mnil
    · cases h
  | .cons m es, fn, X, ks, l, x, h => by
    simp only [chkK] at h
    split at h
    · simp only [Bool.and_eq_true] at h
      exact pk_mcons (sM m x h.1.2).1 (sK es x h.2)
    · cases h
theorem sO : ∀ (m : Mo) {fn : Str → Bool} {X : Cx} {e : Option Expr}, XS T N k cal fn X → chkO T N m X.env.scope e = true → PO X e (tO X.K cal m)
  | .no, fn, X, e, x, h => by
    simp only [chkO] at h
    split at h
    · exact po_mno
    · cases h
  | .yes m, fn, X, e, x, h => by
    simp only [chkO] at h
    split at h
    · exact po_myes (sM m x h).1
    · cases h
theorem sC : ∀ (m : Mo) {fn : Str → Bool} {X : Cx} {e : List Expr}, XS T N k cal fn X → chkC T N m X.env.scope e = true → PTs X e (tC X.K cal m)
  | .no, fn, X, e, x, h => by
    simp only [chkC] at h
    split at h
    · exact pts_mno
    · cases h
  | .yes m, fn, X, e, x, h => by
    simp only [chkC] at h
    split at h
    · simp only [Bool.and_eq_true] at h
      exact pts_myes ((sM m x h.2).2 h.1)
    · cases h
theorem sI : ∀ (m : Mi) {fn : Str → Bool} {X : Cx} {etg e : Expr}, XS T N k cal fn X → chkI T N m X.env.scope (isTup etg) e = true → PI X etg e (tI X.K cal m)
  | .val m, fn, X, etg, e, x, h => by
    simp only [chkI] at h
    exact pi_mval (sM m x h).1
  | .rng m, fn, X, etg, e, x, h => by
    simp only [chkI] at h
    split at h
    · simp only [Bool.and_eq_true, decide_eq_true_eq] at h
      obtain ⟨⟨⟨e1, h1⟩, h2⟩, h3⟩ := h
      subst e1
      exact pi_mrng (free_ok x h1).1 (free_ok x h1).2 (sM m x h3).1 (by rw [star1 h2]; rfl)
    · cases h
  | .rng2 a b, fn, X, etg, e, x, h => by
    simp only [chkI] at h
    split at h
    · simp only [Bool.and_eq_true, decide_eq_true_eq] at h
      obtain ⟨⟨⟨⟨⟨e1, h1⟩, h2⟩, h3⟩, h4⟩, h5⟩ := h
      subst e1
      exact pi_mrng2 (free_ok x h1).1 (free_ok x h1).2 (sM a x h4).1 (sM b x h5).1 (by rw [star1 h2, star1 h3]; rfl) (by rw [star1 h3]; rfl)
    · cases h
  | .enum m, fn, X, etg, e, x, h => by
    simp only [chkI] at h
    split at h
    · simp only [Bool.and_eq_true, decide_eq_true_eq] at h
      obtain ⟨⟨⟨⟨ht, e1⟩, h1⟩, h2⟩, h3⟩ := h
      subst e1
      cases etg with
      | Tuple elts k0 tp => exact pi_men (free_ok x h1).1 (free_ok x h1).2 x.calm (sM m x h3).1 (by rw [star1 h2]; rfl)
      | _ => cases ht
    · cases h
  | .zip _ _, fn, X, etg, e, x, h => by simp [chkI] at h
end
end
end Pv
set_option maxRecDepth 100000
set_option maxHeartbeats 4000000
/-! ## The check of statements -/
namespace Pv
open PySem PySem.Spec PyProof.Rows L2
def swB (sc : Scope) (v : Expr) (y : Str) (py : Pos) : Bool := match v with
  | .ListComp _ _ s p => decide (sc.names.lookup y = some .local) && (py.line == p.line) && !(s.names.any fun (n, k) => n == y && (k == .local || k == .cell))
  | _ => false
def isComp : Expr → Bool
  | .ListComp .. => true
  | .SetComp .. => true
  | .DictComp .. => true
  | _ => false
def swNames (sc : Scope) (ts : List Expr) : List Str :=
  ts.filterMap fun
    | .Name id pos => if sc.names.lookup id == some .local && pos.line == (ts.head?.map (·.pos.line)).getD 0 then some id else none
    | _ => none
/-- the targets are stored one by one, in their order -/
def noSw (sc : Scope) (ts vs : List Expr) : Bool := !(ts.length == 2 || ts.length == 3) || vs.length != ts.length || (swNames sc ts).length != ts.length || (swNames sc ts).eraseDups.length != (swNames sc ts).length || vs.all (foldedForSure 8)
/-- from behind -/
def yesSw (sc : Scope) (ts vs : List Expr) : Bool := (ts.length == 2 || ts.length == 3) && vs.length == ts.length && (swNames sc ts).length == ts.length && (swNames sc ts).eraseDups.length == (swNames sc ts).length && !vs.all (foldedForSure 8) && !vs.all (constantsAlone 8)
def nmOf (N : List Str) (sc : Scope) : List Nat → List Expr → Bool
  | [], [] => true
  | i :: is, .Name x _ :: es => decide (N[i]? = some x) && decide (sc.names.lookup x = some .local) && nmOf N sc is es
  | _, _ => false
section
variable (T : Tab) (N : List Str) (fn : Str → Bool)
def chkA : At → Scope → Expr → Bool
  | .nm i, sc, e => (match e with
    | .Name x _ => slB N sc fn i x
    | _ => false)
  | .sub o i, sc, e => (match e with
    | .Subscript x y _ => !isSli y && chk T N o sc x && chk T N i sc y
    | _ => false)
def chkAs : List At → Scope → List Expr → Bool
  | [], _, [] => true
  | t :: ts, sc, e :: es => nst e && chkA T N fn t sc e && chkAs ts sc es
  | _, _, _ => false
mutual
def chkS : MS → Scope → Stmt → Bool
  | .asg t m, sc, s => (match s with
    | .Assign [tg] v _ => chkA T N fn t sc tg && chk T N m sc v
    | _ => false)
  | .unp ts m, sc, s => (match s with
    | .Assign [.Tuple es _ _] v _ => chkAs T N fn ts sc es && chk T N m sc v && !isTup v
    | _ => false)
  | .par is es, sc, s => (match s with
    | .Assign [.Tuple ns _ _] (.Tuple vs _ _) _ => nmOf N sc is ns && decide is.Nodup && chkL T N es sc vs && yesSw sc ns vs && decide (ns.length = is.length) && decide (swNames sc ns = is.filterMap fun i => N[i]?)
    | _ => false)
  | .parT ts es, sc, s => (match s with
    | .Assign [.Tuple ns _ _] (.Tuple vs _ _) _ => chkAs T N fn ts sc ns && chkL T N es sc vs && noSw sc ns vs
    | _ => false)
  | .ret m, sc, s => (match s with
    | .Return (some v) _ => chk T N m sc v
    | _ => false)
  | .retN, _, s => (match s with
    | .Return none _ => true
    | _ => false)
  | .ifs c a b, sc, s => (match s with
    | .If t x y _ => tst c && chk T N c sc t && chkB a sc x && chkB b sc y
    | _ => false)
  | .exp m, sc, s => (match s with
    | .Expr v _ => chk T N m sc v && !isComp v
    | _ => false)
  | .forr tg it b, sc, s => (match s with
    | .For etg eit sts [] _ => chkG N sc fn tg etg && chkI T N it sc (isTup etg) eit && !isSet eit && chkB b sc sts
    | _ => false)
  | .pass, _, s => (match s with
    | .Pass _ => true
    | _ => false)
  | .brk, _, s => (match s with
    | .Break _ => true
    | _ => false)
  | .cont, _, s => (match s with
    | .Continue _ => true
    | _ => false)
  | .never, _, _ => true
def chkB : MB → Scope → List Stmt → Bool
  | .nil, _, s => (match s with
    | [] => true
    | _ => false)
  | .cons m b, sc, s => (match s with
    | x :: l => chkS m sc x && chkB b sc l
    | _ => false)
end
end
section
variable {T : Tab} {N : List Str} {k : Nat} {cal : Cal} {fn : Str → Bool} {X : Cx}
theorem bkF {env : Env} (h : env.scope.kind = .function) : env.blockKind = .function := by
  unfold Env.blockKind
  rw [h]
  rfl
theorem sw_no {v : Expr} {y : Str} {py : Pos} {l : Nat} {env : Env} (hk : env.scope.kind = .function) (h : swB env.scope v y py = false) (hv : isComp v = true → ∃ a b c d, v = .ListComp a b c d) : swapsWith v (some (.Name y py)) l env = pure false := by
  cases v with
  | ListComp elt gs s p =>
    have hb := bkF hk
    unfold swapsWith
    simp only [hb]
    have e : (env.kindOf y == some NameKind.local) = decide (env.scope.names.lookup y = some .local) := by
      show (env.scope.names.lookup y == some NameKind.local) = _
      rw [Bool.eq_iff_iff]
      simp
    rw [e]
    have h : (decide (env.scope.names.lookup y = some .local) && (py.line == p.line) && !(s.names.any fun (n, k) => n == y && (k == .local || k == .cell))) = false := h
    show (pure ((ScopeKind.function == ScopeKind.function) && decide (env.scope.names.lookup y = some .local) && py.line == p.line && !(s.names.any fun (n, k) => n == y && (k == .local || k == .cell))) : Sem Bool) = pure false
    rw [show (ScopeKind.function == ScopeKind.function) = true from rfl, Bool.true_and, h]
  | SetComp _ _ _ _ => obtain ⟨a, b, c, d, e⟩ := hv rfl; cases e
  | DictComp _ _ _ _ _ => obtain ⟨a, b, c, d, e⟩ := hv rfl; cases e
  | _ => rfl
theorem chk_comp {m : M} {sc : Scope} {v : Expr} (h : chk T N m sc v = true) (hc : isComp v = true) : ∃ a b c d, v = .ListComp a b c d := by
  cases v with
  | ListComp a b c d => exact ⟨a, b, c, d, rfl⟩
  | SetComp a b c d => cases m <;> simp [chk] at h
  | DictComp a b c d e => cases m <;> simp [chk] at h
  | _ => cases hc
theorem nosw_ok {ts vs : List Expr} {env : Env} {k0 k1 : Nat} {p1 p2 : Pos} (h : noSw env.scope ts vs = true) (hv : vs.all nst = true) : swappedStores [.Tuple ts k0 p1] (.Tuple vs k1 p2) env = pure none := by
  unfold swappedStores
  simp only
  split
  · rfl
  · rename_i c1
    split
    · rfl
    · split
      · rfl
      · rename_i c3
        split
        · rfl
        · rename_i c4
          exfalso
          simp only [noSw, Bool.or_eq_true] at h
          rcases h with (((h | h) | h) | h) | h
          · exact c1 (by rw [h]; rfl)
          · exact c1 (by rw [h, Bool.or_true]; rfl)
          · exact c3 ((Bool.or_eq_true _ _).mpr (.inl h))
          · exact c3 ((Bool.or_eq_true _ _).mpr (.inr h))
          · exact c4 h
theorem star_any : ∀ {vs : List Expr}, vs.all nst = true → (vs.any fun x => match x with
    | .Starred .. => true
    | _ => false) = false
  | [], _ => rfl
  | v :: vs, h => by
    rw [List.all_cons, Bool.and_eq_true] at h
    rw [List.any_cons, star_any h.2, Bool.or_false]
    cases v <;> first | rfl | (cases h.1; done)
theorem yessw_ok {ts vs : List Expr} {env : Env} {k0 k1 : Nat} {p1 p2 : Pos} (hk : env.scope.kind = .function) (h : yesSw env.scope ts vs = true) (hv : vs.all nst = true) : swappedStores [.Tuple ts k0 p1] (.Tuple vs k1 p2) env = pure (some (swNames env.scope ts)) := by
  have hb := bkF hk
  simp only [yesSw, Bool.and_eq_true, Bool.not_eq_true', beq_iff_eq] at h
  obtain ⟨⟨⟨⟨⟨h1, h2⟩, h3⟩, h4⟩, h5⟩, h6⟩ := h
  have h1 : (ts.length == 2 || ts.length == 3) = true := by
    simpa only [Bool.or_eq_true, beq_iff_eq] using h1
  unfold swappedStores
  simp only
  rw [if_neg (by rw [h1, h2, hb]; simp), if_neg (by
    have q := star_any hv
    intro z
    have z2 := q.symm.trans z
    cases z2)]
  rw [if_neg (by
    intro z
    rcases (Bool.or_eq_true _ _).mp z with z | z
    · have z : ((swNames env.scope ts).length != ts.length) = true := z
      rw [h3] at z
      simp at z
    · have z : ((swNames env.scope ts).eraseDups.length != (swNames env.scope ts).length) = true := z
      rw [h4] at z
      simp at z), if_neg (by rw [h5]; exact Bool.false_ne_true), if_neg (by rw [h6]; exact Bool.false_ne_true)]
  rfl
theorem chkL_nst : ∀ {es : Ms} {sc : Scope} {l : List Expr}, chkL T N es sc l = true → l.all nst = true
  | .nil, sc, [], _ => rfl
  | .nil, sc, _ :: _, h => by simp [chkL] at h
  | .cons m es, sc, [], h => by simp [chkL] at h
  | .cons m es, sc, x :: l, h => by
    simp only [chkL, Bool.and_eq_true] at h
    rw [List.all_cons, h.1.1, chkL_nst h.2]
    rfl
theorem nm1 {sc : Scope} {i : Nat} {is : List Nat} {ns : List Expr} (h : nmOf N sc (i :: is) ns = true) : ∃ x px es, ns = .Name x px :: es ∧ N[i]? = some x ∧ sc.names.lookup x = some .local ∧ nmOf N sc is es = true := by
  cases ns with
  | nil => simp [nmOf] at h
  | cons e es =>
    cases e with
    | Name x px =>
      simp only [nmOf, Bool.and_eq_true, decide_eq_true_eq] at h
      exact ⟨x, px, es, rfl, h.1.1, h.1.2, h.2⟩
    | _ => simp [nmOf] at h
theorem nm0 {sc : Scope} {ns : List Expr} (h : nmOf N sc [] ns = true) : ns = [] := by
  cases ns with
  | nil => rfl
  | cons e es => simp [nmOf] at h
theorem nm2 {sc : Scope} {i j : Nat} {ns : List Expr} (h : nmOf N sc [i, j] ns = true) : ∃ x y px py, ns = [.Name x px, .Name y py] ∧ N[i]? = some x ∧ N[j]? = some y ∧ sc.names.lookup x = some .local ∧ sc.names.lookup y = some .local := by
  obtain ⟨x, px, e1, rfl, a1, a2, h⟩ := nm1 h
  obtain ⟨y, py, e2, rfl, b1, b2, h⟩ := nm1 h
  cases nm0 h
  exact ⟨x, y, px, py, rfl, a1, b1, a2, b2⟩
theorem nm3 {sc : Scope} {i j l : Nat} {ns : List Expr} (h : nmOf N sc [i, j, l] ns = true) : ∃ x y z px py pz, ns = [.Name x px, .Name y py, .Name z pz] ∧ N[i]? = some x ∧ N[j]? = some y ∧ N[l]? = some z ∧ sc.names.lookup x = some .local ∧ sc.names.lookup y = some .local ∧ sc.names.lookup z = some .local := by
  obtain ⟨x, px, e1, rfl, a1, a2, h⟩ := nm1 h
  obtain ⟨y, py, e2, rfl, b1, b2, h⟩ := nm1 h
  obtain ⟨z, pz, e3, rfl, c1, c2, h⟩ := nm1 h
  cases nm0 h
  exact ⟨x, y, z, px, py, pz, rfl, a1, b1, c1, a2, b2, c2⟩
theorem chkA_ok (x : XS T N k cal fn X) {t : At} {e : Expr} (h : chkA T N fn t X.env.scope e = true) : PG X e (tA X.K cal t) ∧ isTup e = false ∧ (∀ l b, e ≠ .List l b) ∧ nst e = true := by
  cases t with
  | nm i =>
    cases e with
    | Name y p => exact ⟨pg_anm (slot_ok x h), rfl, (fun _ _ z => by cases z), rfl⟩
    | _ => cases h
  | sub o i =>
    cases e with
    | Subscript a b p =>
      simp only [chkA, Bool.and_eq_true, Bool.not_eq_true'] at h
      obtain ⟨⟨h1, h2⟩, h3⟩ := h
      exact ⟨pg_asub (sM o x h2).1 (sM i x h3).1 (fun v => by cases b <;> first | rfl | cases h1), rfl, (fun _ _ z => by cases z), rfl⟩
    | _ => cases h
theorem chkAs_ok (x : XS T N k cal fn X) : ∀ {ts : List At} {es : List Expr}, chkAs T N fn ts X.env.scope es = true → PGs X es (tAs X.K cal ts) ∧ (assignEach es X.env).length = ts.length ∧ (assignEach es X.env).findIdx? (·.1) = none
  | [], [], _ => ⟨pgs_anil, rfl, rfl⟩
  | [], _ :: _, h => by cases h
  | _ :: _, [], h => by cases h
  | t :: ts, e :: es, h => by
    simp only [chkAs, Bool.and_eq_true] at h
    obtain ⟨⟨h1, h2⟩, h3⟩ := h
    obtain ⟨h4, h5, h6⟩ := chkAs_ok x h3
    obtain ⟨h7, _⟩ := chkA_ok x h2
    have he : assignEach (e :: es) X.env = (false, assign e X.env) :: assignEach es X.env := by
      cases e <;> first | rfl | cases h1
    refine ⟨pgs_acons h7 h4 (by rw [he]; rfl), by rw [he, List.length_cons, h5]; rfl, ?_⟩
    rw [he, List.findIdx?_cons]
    simp [h6]
/-- a tuple display on the right side keeps its own form -/
theorem notup {v : Expr} {es : List Expr} {k0 : Nat} {p : Pos} {env : Env} (h : isTup v = false) : swappedStores [.Tuple es k0 p] v env = pure none := by
  cases v <;> first | rfl | cases h
theorem notup2 {tg v : Expr} {env : Env} (h : isTup tg = false) (h2 : ∀ l b, tg ≠ .List l b) : swappedStores [tg] v env = pure none := by
  cases tg <;> first | (cases v <;> rfl) | (cases h; done) | exact absurd rfl (h2 _ _)
theorem swtup {v : Expr} {es : List Expr} {k0 : Nat} {p : Pos} {l : Nat} {env : Env} : swapsWithSole [.Tuple es k0 p] v l env = pure false := by
  cases v <;> rfl
theorem swsub {v : Expr} {a b : Expr} {p : Pos} {l : Nat} {env : Env} : swapsWithSole [.Subscript a b p] v l env = pure false := by
  cases v <;> rfl
/-- name = value -/
theorem ps_nm (x : XS T N k cal fn X) {i : Nat} {y : Str} {py pos : Pos} {m : M} {v : Expr} (h1 : slB N X.env.scope fn i y = true) (h2 : chk T N m X.env.scope v = true) : PS X (.Assign [.Name y py] v pos) (tS X.K cal (.asg (.nm i) m)) := by
  have hh := h1
  simp only [slB, Bool.and_eq_true, decide_eq_true_eq, Bool.or_eq_true] at hh
  obtain ⟨⟨e1, e2⟩, e3⟩ := hh
  have hN : X.N[i]? = some y := by rw [x.N]; exact e1
  cases hs : swB X.env.scope v y py with
  | false =>
    exact PSm (ps_set x.nd hN (loc_ok e2) (sM m x h2).1 (sw_no x.kind hs (chk_comp h2)) (by rw [x.fn]; exact e3)) fun D σ H h => nm_go h
  | true =>
    cases v with
    | ListComp elt gs scope p =>
      simp only [swB, Bool.and_eq_true, decide_eq_true_eq, Bool.not_eq_true'] at hs
      obtain ⟨⟨s1, s2⟩, s3⟩ := hs
      cases m with
      | comp own tg it c m =>
        simp only [chk] at h2
        split at h2
        · rename_i heq
          cases heq
          simp only [Bool.and_eq_true, decide_eq_true_eq, Bool.not_eq_true', List.all_eq_true] at h2
          obtain ⟨⟨⟨⟨⟨⟨⟨e1, h1⟩, h2⟩, h3⟩, h4⟩, h5⟩, h6⟩, h7⟩ := h2
          subst e1
          have ok : BlkOk X.N X.env.scope _ own := blkOk_by (by rw [x.N]; exact h1)
          have hq : py.line = p.line := by simpa using s2
          by_cases hl : (py.line == pos.line) = true
          · exact PSm (ps_mcomp x.calm x.nd hN s1 (sw_true x.kind s1 (by simpa using hq) s3) (sI it x h5) ok h2 (fun s H C cl fp => chkG_ok (x.blk ok s H C cl fp) h4) (fun s H C cl fp => sC c (x.blk ok s H C cl fp) h6) (fun s H C cl fp => (sM m (x.blk ok s H C cl fp) h7).1) (fold0 h3)) fun D σ H h => nm_go h
          · exact PSm (ps_mcomp x.calm x.nd hN s1 (sw_true x.kind s1 (by simpa using hq) s3) (sI it x h5) ok h2 (fun s H C cl fp => chkG_ok (x.blk ok s H C cl fp) h4) (fun s H C cl fp => sC c (x.blk ok s H C cl fp) h6) (fun s H C cl fp => (sM m (x.blk ok s H C cl fp) h7).1) (fold0 h3)) fun D σ H h => nm_go h
        · cases h2
      | _ => simp [chk] at h2
    | _ => cases hs
mutual
theorem sS : ∀ (m : MS) {fn : Str → Bool} {X : Cx} {s : Stmt}, XS T N k cal fn X → X.xe = (fun _ _ => False) → chkS T N fn m X.env.scope s = true → PS X s (tS X.K cal m)
  | .asg t m, fn, X, s, x, hx, h => by
    simp only [chkS] at h
    split at h
    · simp only [Bool.and_eq_true] at h
      obtain ⟨h1, h2⟩ := h
      cases t with
      | nm i =>
        rename_i tg v pos
        cases tg with
        | Name y py => exact ps_nm x h1 h2
        | _ => cases h1
      | sub o i =>
        rename_i tg v pos
        cases tg with
        | Subscript a b p => exact ps_masg (sM m x h2).1 (chkA_ok x h1).1 swsub (by cases v <;> rfl) rfl
        | _ => cases h1
    · cases h
  | .unp ts m, fn, X, s, x, hx, h => by
    simp only [chkS] at h
    split at h
    · simp only [Bool.and_eq_true, Bool.not_eq_true'] at h
      obtain ⟨⟨h1, h2⟩, h3⟩ := h
      obtain ⟨h4, h5, h6⟩ := chkAs_ok x h1
      exact ps_munp (sM m x h2).1 (pg_tup x.calm h4 h5 h6) swtup (notup h3)
    · cases h
  | .par is es, fn, X, s, x, hx, h => by
    simp only [chkS] at h
    split at h
    · rename_i ns k1 p1 vs k2 p2 p3
      simp only [Bool.and_eq_true, decide_eq_true_eq] at h
      obtain ⟨⟨⟨⟨⟨h1, h2⟩, h3⟩, h4⟩, h5⟩, h6⟩ := h
      have hl := (sL es x h3).1
      have hw := yessw_ok (k0 := 0) (k1 := 0) (p1 := ⟨0, 0, 0, 0⟩) (p2 := ⟨0, 0, 0, 0⟩) x.kind h4 (chkL_nst h3)
      have h4' := h4
      simp only [yesSw, Bool.and_eq_true, Bool.not_eq_true', beq_iff_eq, Bool.or_eq_true] at h4'
      obtain ⟨⟨⟨⟨⟨q1, q2⟩, q3⟩, q4⟩, q5⟩, q6⟩ := h4'
      match is, h1, h2, h5 with
      | [], h1, h2, h5 => exact absurd h5 (by rcases q1 with q | q <;> rw [q] <;> simp)
      | [i], h1, h2, h5 => exact absurd h5 (by rcases q1 with q | q <;> rw [q] <;> simp)
      | [i, j], h1, h2, h5 =>
        obtain ⟨y, z, py, pz, e, n1, n2, l1, l2⟩ := nm2 h1
        subst e
        match vs, q2, hl, hw with
        | [va, vb], q2, hl, hw =>
          rw [h6] at hw
          simp only [List.filterMap_cons, List.filterMap_nil, n1, n2] at hw
          exact ps_mpar2 (ta := tL X.K cal es) (ps_par x.calm x.nd (by rw [x.N]; exact n1) (by rw [x.N]; exact n2) (by simpa using h2) l1 l2 hl hw rfl)
      | [i, j, l], h1, h2, h5 =>
        obtain ⟨y, z, w, py, pz, pw, e, n1, n2, n3, l1, l2, l3⟩ := nm3 h1
        subst e
        match vs, q2, hl, hw with
        | [va, vb, vc], q2, hl, hw =>
          rw [h6] at hw
          simp only [List.filterMap_cons, List.filterMap_nil, n1, n2, n3] at hw
          have hd : i ≠ j ∧ i ≠ l ∧ j ≠ l := by
            simp only [List.nodup_cons, List.mem_cons, not_or] at h2
            exact ⟨h2.1.1, h2.1.2.1, h2.2.1.1⟩
          exact ps_mpar3 (ta := tL X.K cal es) (ps_par3 x.calm x.nd (by rw [x.N]; exact n1) (by rw [x.N]; exact n2) (by rw [x.N]; exact n3) hd.1 hd.2.1 hd.2.2 l1 l2 l3 hl hw rfl)
      | _ :: _ :: _ :: _ :: _, h1, h2, h5 => exact absurd h5 (by rcases q1 with q | q <;> rw [q] <;> simp <;> omega)
    · cases h
  | .parT ts es, fn, X, s, x, hx, h => by
    simp only [chkS] at h
    split at h
    · simp only [Bool.and_eq_true] at h
      obtain ⟨⟨h1, h2⟩, h3⟩ := h
      obtain ⟨h4, h5, h6⟩ := chkAs_ok x h1
      exact ps_mparT (sL es x h2).1 (pg_tup x.calm h4 h5 h6) (nosw_ok h3 (chkL_nst h2))
    · cases h
  | .ret m, fn, X, s, x, hx, h => by
    simp only [chkS] at h
    split at h
    · exact ps_mret (sM m x h).1
    · cases h
  | .retN, fn, X, s, x, hx, h => by
    simp only [chkS] at h
    split at h
    · exact ps_mretN
    · cases h
  | .ifs c a b, fn, X, s, x, hx, h => by
    simp only [chkS] at h
    split at h
    · simp only [Bool.and_eq_true] at h
      obtain ⟨⟨⟨h0, h1⟩, h2⟩, h3⟩ := h
      exact ps_mif ((sM c x h1).2 h0) (sB a x hx h2) (sB b x hx h3)
    · cases h
  | .exp m, fn, X, s, x, hx, h => by
    simp only [chkS] at h
    split at h
    · simp only [Bool.and_eq_true, Bool.not_eq_true'] at h
      obtain ⟨h1, h2⟩ := h
      refine ps_mexp (sM m x h1).1 ?_
      rename_i v _
      cases v <;> first | rfl | cases h2
    · cases h
  | .forr tg it b, fn, X, s, x, hx, h => by
    simp only [chkS] at h
    split at h
    · simp only [Bool.and_eq_true, Bool.not_eq_true'] at h
      obtain ⟨⟨⟨h1, h2⟩, h3⟩, h4⟩ := h
      exact ps_mfor (by rw [hx]; exact PassesOwn.never) x.calm (sI it x h2) (chkG_ok x h1) (sB b x hx h4) (fold0 h3)
    · cases h
  | .pass, fn, X, s, x, hx, h => by
    simp only [chkS] at h
    split at h
    · exact ps_mpass
    · cases h
  | .brk, fn, X, s, x, hx, h => by
    simp only [chkS] at h
    split at h
    · exact ps_mbrk
    · cases h
  | .cont, fn, X, s, x, hx, h => by
    simp only [chkS] at h
    split at h
    · exact ps_mcont
    · cases h
  | .never, fn, X, s, x, hx, h => ps_mnever
theorem sB : ∀ (m : MB) {fn : Str → Bool} {X : Cx} {s : List Stmt}, XS T N k cal fn X → X.xe = (fun _ _ => False) → chkB T N fn m X.env.scope s = true → PSs X s (tSB X.K cal m)
  | .nil, fn, X, s, x, hx, h => by
    simp only [chkB] at h
    split at h
    · exact pss_mnil
    · cases h
  | .cons m b, fn, X, s, x, hx, h => by
    simp only [chkB] at h
    split at h
    · simp only [Bool.and_eq_true] at h
      exact pss_mcons (sS m x hx h.1) (sB b x hx h.2)
    · cases h
end
end
end Pv
set_option maxRecDepth 100000
set_option maxHeartbeats 4000000
/-! ## Defs, the fuel -/
namespace Pv
open PySem PySem.Spec PyProof.Rows L2
/-- what a call gives back: the store as it was, a new list told -/
def fin (mutR : Bool) (n : Nat) (e : E) (S : Sto) : Option (E × Sto) := match e with
  | .d x => some (.d x, S.take n)
  | .ref l => if l < n then some (.ref l, S.take n) else (match S[l]? with
    | none => none
    | some xs => if mutR = true then some (.ref n, S.take n ++ [xs]) else some (.d (.list xs), S.take n))
noncomputable def run (cal : Cal) (d : Df) (es : List E) (S : Sto) : Option (E × Sto) := if es.length = d.ps.length then
    bd (exB cal d.body (es.map some ++ List.replicate (d.N.length - es.length) none) S) fun f S1 => (match f with
      | .rt e => fin d.mutR S.length e S1
      | .nx _ => some (.d .none, S1.take S.length)
      | _ => none)
  else none
noncomputable def calN (T : Tab) : Nat → Cal
  | 0 => fun _ _ _ => none
  | k + 1 => fun i es S => match T.defs[i]? with
    | some d => run (calN T k) d es S
    | none => none
section
variable {K : PySem.W.Frag} {B ρ B' ρ' : List Addr} {S S' S2 : Sto} {H H' : Hp}
theorem back_ext (x : Ext ρ B H ρ' B' H') : Ext ρ B H ρ B H' := ⟨⟨[], by simp⟩, fun _ h => h, fun _ h => .inl h, fun _ h => .inl h, x.keep, x.live⟩
theorem back_sr (z : Sr K B ρ S H) (x : Ext ρ B H ρ' B' H') (z2 : Sr K B' ρ' S' H') : Sr K B ρ (S'.take S.length) H' := by
  obtain ⟨more, e4⟩ := x.pre
  have hl : ρ'.length = S'.length := z2.len
  have hn := z.len
  have hle : ρ.length ≤ S'.length := by rw [← hl, e4, List.length_append]; omega
  refine ⟨by rw [List.length_take]; omega, z.nd, z.inB, fun p h e => z.live p h (x.live p e), fun l p e => ?_⟩
  have hl1 : l < ρ.length := (List.getElem?_eq_some_iff.mp e).1
  have e5 : ρ'[l]? = some p := by
    rw [e4, List.getElem?_append_left hl1]
    exact e
  obtain ⟨vs, ds, f1, f2, f3, f4⟩ := z2.cell l p e5
  exact ⟨vs, ds, by rw [List.getElem?_take_of_lt (by omega)]; exact f1, f2, f3, f4.less x.sub⟩
theorem fin_ok (z : Sr K B ρ S H) (x : Ext ρ B H ρ' B' H') (z2 : Sr K B' ρ' S' H') {v : V} {e e2 : E} {m : Bool} (r : RpE K B' ρ' H' v e) (h : fin m S.length e S' = some (e2, S2)) :
    ∃ B2 ρ2, Ext ρ B H ρ2 B2 H' ∧ Sr K B2 ρ2 S2 H' ∧ RpE K B2 ρ2 H' v e2 := by
  have hn := z.len
  cases e with
  | d y =>
    have h : some (E.d y, S'.take S.length) = some (e2, S2) := h
    cases h
    exact ⟨B, ρ, back_ext x, back_sr z x z2, Rp.less x.sub r⟩
  | ref l =>
    obtain ⟨p, e1, rfl⟩ := r
    obtain ⟨more, e4⟩ := x.pre
    have h : (if l < S.length then some (E.ref l, S'.take S.length) else (match S'[l]? with
      | none => none
      | some xs => if m = true then some (.ref S.length, S'.take S.length ++ [xs]) else some (.d (.list xs), S'.take S.length))) = some (e2, S2) := h
    split at h
    · rename_i hl
      cases h
      exact ⟨B, ρ, back_ext x, back_sr z x z2, p, by rw [e4, List.getElem?_append_left (by omega)] at e1; exact e1, rfl⟩
    · rename_i hl
      obtain ⟨vs, ds, f1, f2, f3, f4⟩ := z2.cell l p e1
      have hp : p ∉ ρ := fun hm => by
        obtain ⟨j, hj, e⟩ := List.getElem_of_mem hm
        have e5 : ρ'[j]? = some p := by
          rw [e4, List.getElem?_append_left hj, List.getElem?_eq_getElem hj, e]
        have hj2 : j < ρ'.length := (List.getElem?_eq_some_iff.mp e5).1
        have := (List.getElem?_inj hj2 z2.nd).mp (e5.trans e1.symm)
        omega
      have hH : H p = none := (x.newr p (List.mem_of_getElem? e1)).resolve_left hp
      have hB : p ∉ B := fun hm => z.live p hm hH
      rw [f1] at h
      simp only at h
      split at h
      · cases h
        refine ⟨p :: B, ρ ++ [p], ?_, ?_, p, ?_, rfl⟩
        · refine ⟨⟨[p], rfl⟩, fun q hq => List.mem_cons_of_mem _ hq, fun q hq => ?_, fun q hq => ?_, x.keep, x.live⟩
          · rcases List.mem_cons.mp hq with e | hq
            · exact .inr (e ▸ hH)
            · exact .inl hq
          · rcases List.mem_append.mp hq with hq | hq
            · exact .inl hq
            · exact .inr ((List.mem_singleton.mp hq) ▸ hH)
        · have b := back_sr z x z2
          have hs : ∀ q ∈ p :: B, q ∈ B' := fun q hq => by
            rcases List.mem_cons.mp hq with e | hq
            · rw [e]
              exact z2.inB p (List.mem_of_getElem? e1)
            · exact x.sub q hq
          refine ⟨?_, ?_, ?_, ?_, ?_⟩
          · rw [List.length_append, List.length_append, b.len]
            rfl
          · rw [List.nodup_append]
            refine ⟨z.nd, by simp, fun a ha c hc => ?_⟩
            rw [List.mem_singleton.mp hc]
            exact fun e => hp (e ▸ ha)
          · intro q hq
            rcases List.mem_append.mp hq with hq | hq
            · exact List.mem_cons_of_mem _ (z.inB q hq)
            · rw [List.mem_singleton.mp hq]
              exact List.mem_cons_self
          · intro q hq e
            rcases List.mem_cons.mp hq with e' | hq
            · rw [e', f2] at e
              cases e
            · exact z.live q hq (x.live q e)
          · intro j q hj
            by_cases hjl : j < ρ.length
            · rw [List.getElem?_append_left hjl] at hj
              have e5 : ρ'[j]? = some q := by
                rw [e4, List.getElem?_append_left hjl]
                exact hj
              obtain ⟨vs', ds', g1, g2, g3, g4⟩ := z2.cell j q e5
              refine ⟨vs', ds', ?_, g2, g3, g4.less hs⟩
              have hb : (S'.take S.length).length = ρ.length := b.len.symm
              rw [List.getElem?_append_left (by omega), List.getElem?_take_of_lt (by omega)]
              exact g1
            · rw [List.getElem?_append_right (by omega)] at hj
              have hj0 : j - ρ.length = 0 := by
                have := (List.getElem?_eq_some_iff.mp hj).1
                simpa using this
              rw [hj0] at hj
              have hj : some p = some q := hj
              cases hj
              refine ⟨vs, ds, ?_, f2, f3, f4.less hs⟩
              have hb : (S'.take S.length).length = ρ.length := b.len.symm
              rw [List.getElem?_append_right (by omega), hb, hj0]
              rfl
        · rw [List.getElem?_append_right (by omega)]
          rw [show S.length - ρ.length = 0 by omega]
          rfl
      · cases h
        exact ⟨B, ρ, back_ext x, back_sr z x z2, .lst (.inl ⟨.inl f2, hB⟩) f3 (f4.less x.sub)⟩
end
/-- the facts about a def that are told by looking -/
def dfB (T : Tab) (d : Df) : Bool := (match (defScope d.st).kind with | .function => true | _ => false) && !(defScope d.st).isCoroutine && !(defScope d.st).isGenerator && decide d.N.Nodup && decide (d.N.take d.ps.length = d.ps) &&
  (d.ps.all fun x => (match (defScope d.st).names.lookup x with | some .local => true | some .cell => true | _ => false)) && ((defScope d.st).names.all fun y => (match y.2 with | .free => false | _ => true)) &&
  chkB T d.N (fun _ => true) d.body (defScope d.st) (defBody d.st)
theorem df_scope {T : Tab} {d : Df} (h : dfB T d = true) : FnScope d.N d.ps (defScope d.st) ∧ chkB T d.N (fun _ => true) d.body (defScope d.st) (defBody d.st) = true := by
  simp only [dfB, Bool.and_eq_true, Bool.not_eq_true', decide_eq_true_eq, List.all_eq_true] at h
  obtain ⟨⟨⟨⟨⟨⟨⟨h1, h2⟩, h3⟩, h4⟩, h5⟩, h6⟩, h7⟩, h8⟩ := h
  refine ⟨⟨?_, h2, h3, h4, h5, fun x hx => ?_, fun y hy e => ?_⟩, h8⟩
  · generalize (defScope d.st).kind = kd at h1
    cases kd <;> first | rfl | cases h1
  · have q := h6 x hx
    split at q
    · rename_i e; exact .inl e
    · rename_i e; exact .inr e
    · cases q
  · have q := h7 y hy
    rw [e] at q
    cases q
theorem RpEs.env {K : PySem.W.Frag} {B ρ : List Addr} {H : Hp} : ∀ {vs : List V} {es : List E} (n : Nat), RpEs K B ρ H vs es → RpG K B ρ H (vs.map some ++ List.replicate n none) (es.map some ++ List.replicate n none)
  | _, _, n, .nil => by
    refine ⟨by simp, fun i e h => ?_⟩
    exfalso
    simp only [List.map_nil, List.nil_append] at h
    revert i
    induction n with
    | zero => intro i h; simp [getV] at h
    | succ n ih =>
      intro i h
      rw [List.replicate_succ] at h
      cases i with
      | zero => simp [getV] at h
      | succ i => exact ih i h
  | _, _, n, .cons (v := v) (e := e) (vs := vs) (es := es) h r => by
    obtain ⟨g1, g2⟩ := RpEs.env n r
    refine ⟨by simp only [List.map_cons, List.cons_append, List.length_cons, g1], fun i e' h' => ?_⟩
    cases i with
    | zero =>
      have h' : some e = some e' := h'
      cases h'
      exact ⟨v, rfl, h⟩
    | succ i =>
      obtain ⟨w, q1, q2⟩ := g2 i e' h'
      exact ⟨w, by simpa using q1, q2⟩
section
variable {P : Program} {w : World} {K : PySem.W.Frag} {mg : Str → Option Value} {base : Heap} {T : Tab}
/-- a def keeps what run tells -/
theorem df_ok {k i : Nat} {d : Df} {f : Addr} {fd : FuncData} (hd : T.defs[i]? = some d) (hb : dfB T d = true) (C : CalOk P w K mg base T k (calN T k)) (F : FunD K d.name d.name (defArgs d.st) (defBody d.st) (defScope d.st) [] [] f fd) :
    FnOk P w K mg base CX0 (k + 1) f fd d.ps (spC K (calN T (k + 1)) d.ps.length i) := by
  obtain ⟨sc, hc⟩ := df_scope hb
  refine F.ok sc (fun vs H Q E ⟨_, _, _, _, _, _, h, _⟩ => h) (fun cdv A outer s H vs Q E hr h => ⟨tSB K (calN T k) d.body, PSs.nox ?_, ?_⟩)
  · refine sB (T := T) (N := d.N) (k := k) (cal := calN T k) (fn := fun _ => true) d.body (X := (cxOf CX0 P w K mg base d.N d.name (defScope d.st) f cdv A outer s H E).nox) ⟨C, rfl, sc.nd, rfl, hr, sc.kind, rfl⟩ rfl hc
  · obtain ⟨B, ρ, S, es, r, S', hl, z, re, hq, hP⟩ := h
    have hq : (match T.defs[i]? with
      | some d => Pv.run (calN T k) d es S
      | none => none) = some (r, S') := hq
    rw [hd] at hq
    have hq : Pv.run (calN T k) d es S = some (r, S') := hq
    unfold Pv.run at hq
    split at hq
    · obtain ⟨fl, S1, e1, hq⟩ := bd_inv hq
      have hle : vs.length = es.length := re.length
      refine ⟨B, ρ, S, _, fl, S1, z, ?_, e1, fun H' B' ρ' x z2 => ?_⟩
      · unfold L2.start
        rw [hle]
        exact re.env _
      · cases fl with
        | nx Γ' =>
          have hq : some (Pv.E.d .none, S1.take S.length) = some (r, S') := hq
          cases hq
          exact fun σ' g => hP _ _ _ _ (back_ext x) (back_sr z x z2) .non
        | rt e =>
          intro v rv
          obtain ⟨B2, ρ2, x2, z3, r3⟩ := fin_ok z x z2 rv hq
          exact hP _ _ _ _ x2 z3 r3
        | bk Γ' => cases hq
        | ct Γ' => cases hq
    · cases hq
/-- what the top holds -/
structure TopOk (K : PySem.W.Frag) (mg : Str → Option Value) (T : Tab) : Prop where
  defs : ∀ i d, T.defs[i]? = some d → dfB T d = true ∧ ∃ f fd, mg d.name = some (.ref f) ∧ FunD K d.name d.name (defArgs d.st) (defBody d.st) (defScope d.st) [] [] f fd ∧ Binds K fd d.ps [] ∧
    ∀ ks ix, (i, ks, ix) ∈ T.kws → ix.length = d.ps.length ∧ ∃ gK, KBn K fd d.ps 0 ks gK fun _ zs => pickL zs ix
  free : ∀ x ∈ T.frees, mg x = none
  cons : ∀ x c, (x, c) ∈ T.cons → ∃ v u, mg x = some u ∧ RelV v u ∧ ∀ B H, Rp K B H v c
theorem cal_ok (t : TopOk K mg T) : ∀ k, CalOk P w K mg base T k (calN T k)
  | 0 => ⟨(fun i d h => by
      obtain ⟨hb, f, fd, h1, F, h2, h3⟩ := t.defs i d h
      refine ⟨f, fd, h1, F.kp, h2, ⟨fun vs H Q E ⟨_, _, _, _, _, _, q, _⟩ => q, fun A outer s H args us vs Q E _ _ _ _ ⟨_, _, _, _, _, _, _, _, _, q, _⟩ => ?_⟩, h3⟩
      cases q), t.free, t.cons⟩
  | k + 1 => ⟨(fun i d h => by
      obtain ⟨hb, f, fd, h1, F, h2, h3⟩ := t.defs i d h
      exact ⟨f, fd, h1, F.kp, h2, df_ok h hb (cal_ok t k) F, h3⟩), t.free, t.cons⟩
end
end Pv
set_option maxRecDepth 100000
set_option maxHeartbeats 4000000
/-! ## The top, the law's end -/
namespace Pv
open PySem PySem.Spec PyProof.Rows L2
def dDef (d : Df) : He.DefD := ⟨(d.name, none), d.name, d.name, defArgs d.st, defBody d.st, defScope d.st, [], []⟩
def cFa : Str × PyData → He.Fa
  | (x, .int i) => .int x i
  | (x, .str z) => .str x z
  | (x, _) => .glo x
def consB (T : Tab) : Bool := T.cons.all fun p => match p.2 with
  | .int _ => true
  | .str _ => true
  | _ => false
def fnT (T : Tab) : List He.DefD := T.defs.map dDef
def faT (T : Tab) : List He.Fa := T.defs.map (fun d => He.Fa.glo d.name) ++ (T.frees.map He.Fa.free ++ T.cons.map cFa)
def BindB (d : Df) : Prop := ∀ (kV doc pm : Value) (an : Option Addr) (cdv ct : Value) (us : List Value), us.length = d.ps.length → bindArgs (PySem.W.fnOf d.name d.name (defArgs d.st) (defBody d.st) (defScope d.st) .none kV doc pm an cdv ct) ⟨us, []⟩ = pure (d.ps.zip us)
def BindK (d : Df) (ks : List Str) (ix : List Nat) : Prop := ix.length = d.ps.length ∧ ∀ (kV doc pm : Value) (an : Option Addr) (cdv ct : Value) (ws : List Value), ws.length = ks.length →
  bindArgs (PySem.W.fnOf d.name d.name (defArgs d.st) (defBody d.st) (defScope d.st) .none kV doc pm an cdv ct) ⟨[], ks.zip ws⟩ = pure (d.ps.zip (pickL ws ix))
theorem get_rel {xs : List V} {us : List Value} (h : Vals xs us) (i : Nat) : (∃ x u, xs[i]? = some x ∧ us[i]? = some u ∧ RelV x u) ∨ (xs[i]? = none ∧ us[i]? = none) := by
  cases e : xs[i]? with
  | some x =>
    obtain ⟨u, h1, h2⟩ := h.get e
    exact .inl ⟨x, u, rfl, h1, h2⟩
  | none =>
    refine .inr ⟨rfl, ?_⟩
    rw [List.getElem?_eq_none_iff] at e ⊢
    rw [← Vals.length h]
    exact e
theorem pickL_rel {xs : List V} {us : List Value} (h : Vals xs us) : ∀ ix : List Nat, Vals (pickL xs ix) (pickL us ix)
  | [] => .nil
  | i :: ix => by
    rcases get_rel h i with ⟨x, u, h1, h2, h3⟩ | ⟨h1, h2⟩
    · simp only [pickL, h1, h2]
      exact .cons h3 (pickL_rel h ix)
    · simp only [pickL, h1, h2]
      exact pickL_rel h ix
section
variable {P : Program} {w : World} {T : Tab} {K : PySem.W.Frag} {h : Heap} {mg : Str → Option Value} {f : Addr}
theorem top_ok (X : K.In h) (G : h.Ns mainGlobals mg) (c : He.SaysD (faT T) (fnT T) K) (hd : ∀ d ∈ T.defs, dfB T d = true) (hb : ∀ d ∈ T.defs, BindB d) (hc : consB T = true)
    (hk : ∀ i ks ix, (i, ks, ix) ∈ T.kws → ∀ d, T.defs[i]? = some d → BindK d ks ix) : TopOk K mg T where
  defs := fun i d e => by
    have hm : d ∈ T.defs := List.mem_of_getElem? e
    obtain ⟨fd, F⟩ := c.def_ i (d := dDef d) (by unfold fnT; rw [List.getElem?_map, e]; rfl)
    have F : FunD K d.name d.name (defArgs d.st) (defBody d.st) (defScope d.st) [] [] (He.fAd K (d.name, none)) fd := F
    have g := He.glo_ok X G (c.fact i (f := .glo d.name) (by
      unfold faT
      rw [List.getElem?_append_left (by rw [List.length_map]; exact (List.getElem?_eq_some_iff.mp e).1), List.getElem?_map, e]
      rfl))
    refine ⟨hd d hm, He.ga K d.name, fd, g, F, F.bindsN (hb d hm), fun ks ix hks => ?_⟩
    obtain ⟨e1, e2⟩ := hk i ks ix hks d e
    refine ⟨e1, fun _ ws => pickL ws ix, ⟨fun s us ws _ hu hw => ?_, fun _ r => pickL_rel r ix⟩⟩
    obtain ⟨oc, od, dV, kV, doc, pm, an, cdv, ct, osl, rfl, lk, hcd, hD, hK⟩ := F.ex
    have hu : us = [] := List.length_eq_zero_iff.mp hu
    subst hu
    rcases hD with ⟨_, rfl⟩ | ⟨e, _⟩
    · exact .of_eq (e2 kV doc pm an cdv ct ws hw)
    · exact absurd rfl e
  free := fun x hx => by
    obtain ⟨i, hi, e⟩ := List.getElem_of_mem hx
    refine He.free_ok X G (c.fact (T.defs.length + i) (f := .free x) ?_)
    unfold faT
    rw [List.getElem?_append_right (by rw [List.length_map]; omega), List.length_map, Nat.add_sub_cancel_left, List.getElem?_append_left (by rw [List.length_map]; exact hi), List.getElem?_map, List.getElem?_eq_getElem hi, e]
    rfl
  cons := fun x d hx => by
    have hc := List.all_eq_true.mp hc _ hx
    obtain ⟨i, hi, e⟩ := List.getElem_of_mem hx
    have ff := c.fact (T.defs.length + (T.frees.length + i)) (f := cFa (x, d)) (by
      unfold faT
      rw [List.getElem?_append_right (by rw [List.length_map]; omega), List.length_map, Nat.add_sub_cancel_left, List.getElem?_append_right (by rw [List.length_map]; omega), List.length_map, Nat.add_sub_cancel_left, List.getElem?_map, List.getElem?_eq_getElem hi, e]
      rfl)
    cases d with
    | int j =>
      obtain ⟨t, q⟩ := He.int_ok X G (x := x) (i := j) ff
      exact ⟨.int j, _, q, ⟨t, rfl⟩, fun B H => .int j⟩
    | str z =>
      obtain ⟨t, q⟩ := He.str_ok X G (x := x) (z := z) ff
      exact ⟨.str z, _, q, ⟨t, rfl⟩, fun B H => .str z⟩
    | _ => cases hc
theorem rpl_ints {B : List Addr} {H : Hp} : ∀ ns : List Int, RpL K B H (ns.map V.int) (ns.map PyData.int)
  | [] => .nil
  | n :: ns => .cons (.int n) (rpl_ints ns)
theorem law_sp {cal : Cal} {i n : Nat} (hn : n ≤ 1000) (hm : ∀ ns : List Int, ns.length ≤ n → ∃ S', cal i [.d (.list (ns.map PyData.int))] [] = some (.d (.bool true), S')) (H : Hp) (a : Addr) (ns : List Int) (hl : ns.length ≤ n) (hS : SqL K H a (ns.map V.int)) :
    spC K cal 1 i [.ref a] H (fun v _ => v = .bl true) fun _ _ _ => False := by
  obtain ⟨S', e⟩ := hm ns hl
  refine ⟨[], [], [], _, _, S', rfl, ⟨rfl, .nil, (fun p hp => by cases hp), (fun p hp => by cases hp), (fun l p e => by cases l <;> cases e)⟩, .cons ?_ .nil, e, fun v H' B' ρ' x z r => ?_⟩
  · refine .lst ?_ (by rw [List.length_map, sizeLine_eq]; omega) (rpl_ints ns)
    rcases hS with q | q
    · exact .inl ⟨q, by simp⟩
    · exact .inr q
  · cases r
    rfl
theorem law_facts {k iL : Nat} {dL : Df} (X : K.In h) (G : h.Ns mainGlobals mg) (hfa : mg ("law" : Str) = some (.ref f)) (t : TopOk K mg T) (hL : T.defs[iL]? = some dL) (hn : dL.name = ("law" : Str)) (hp : dL.ps = [("script" : Str)]) (hb : BindB dL) :
    ∃ fd : FuncData, (∀ (s : Shared) (v : Value), BindsTo s fd ⟨[v], []⟩ [("script", v)]) ∧ ∀ base : Heap, K.In base → base.Ns mainGlobals mg → FnOk P w K mg base CX0 (k + 1) f fd [("script" : Str)] (spC K (calN T (k + 1)) 1 iL) := by
  obtain ⟨hbD, f', fd, h1, F, h2, h3⟩ := t.defs iL dL hL
  rw [hn] at h1
  cases hfa.symm.trans h1
  refine ⟨fd, fun s v => ?_, fun base _ _ => ?_⟩
  · have q := F.bindsA hb s [v] (by rw [hp]; rfl)
    rw [hp] at q
    exact q
  · have q := df_ok (P := P) (w := w) (base := base) hL hbD (cal_ok t k) F
    rw [hp] at q
    exact q
end
end Pv
set_option maxRecDepth 100000
set_option maxHeartbeats 4000000
/-! ## Working with the evaluator -/
namespace Pv
open PySem PySem.Spec PyProof.Rows
theorem run_def {cal : Cal} {d : Df} {es : List E} {S : Sto} (h : es.length = d.ps.length) : Pv.run cal d es S = bd (exB cal d.body (es.map some ++ List.replicate (d.N.length - es.length) none) S) fun f S1 => (match f with
      | .rt e => fin d.mutR S.length e S1
      | .nx _ => some (.d .none, S1.take S.length)
      | _ => none) := by
  unfold Pv.run
  exact if_pos h
@[simp] theorem fin_d (m : Bool) (n : Nat) (x : PyData) (S : Sto) : fin m n (.d x) S = some (.d x, S.take n) := rfl
theorem take_len {α : Type} (S : List α) : S.take S.length = S := List.take_length
/-- a comprehension whose body leaves the store -/
theorem compL_map {n : Nat} {body : PyData → Sto → Option (Option PyData × Sto)} {S : Sto} {f : PyData → PyData} (hn : n = S.length) : ∀ {xs : List PyData}, (∀ x ∈ xs, body x S = some (some (f x), S)) → compL none n body xs S = some (xs.map f, S)
  | [], _ => by
    unfold compL
    rw [if_pos (show monOk none _ from True.intro)]
    rfl
  | x :: xs, h => by
    unfold compL
    rw [if_pos (show monOk none _ from True.intro), h x (List.mem_cons_self ..)]
    simp only [bd_some, hn, take_len]
    rw [compL_map rfl fun y hy => h y (List.mem_cons_of_mem _ hy)]
    rfl
/-- one whose body changes the store in a way that stays in I -/
theorem compL_inv {n : Nat} {body : PyData → Sto → Option (Option PyData × Sto)} {I : Sto → Prop} {J : PyData → Prop} (hb : ∀ x S, J x → I S → ∃ y S1, body x S = some (some (.bool y), S1) ∧ I (S1.take n)) : ∀ {xs : List PyData} {S : Sto}, (∀ x ∈ xs, J x) → I S → ∃ ys S2, compL none n body xs S = some (ys, S2) ∧ I S2
  | [], S, _, hI => by
    refine ⟨[], S, ?_, hI⟩
    unfold compL
    rw [if_pos (show monOk none _ from True.intro)]
  | x :: xs, S, h, hI => by
    obtain ⟨y, S1, e, hI1⟩ := hb x S (h x (List.mem_cons_self ..)) hI
    obtain ⟨ys, S2, e2, hI2⟩ := compL_inv hb (fun z hz => h z (List.mem_cons_of_mem _ hz)) hI1
    refine ⟨.bool y :: ys, S2, ?_, hI2⟩
    unfold compL
    rw [if_pos (show monOk none _ from True.intro), e]
    simp only [bd_some, e2]
theorem compL_all {n : Nat} {body : PyData → Sto → Option (Option PyData × Sto)} {I : Sto → Prop} {J : PyData → Prop} (hb : ∀ x S, J x → I S → ∃ S1, body x S = some (some (.bool true), S1) ∧ I (S1.take n)) : ∀ {xs : List PyData} {S : Sto}, (∀ x ∈ xs, J x) → I S → ∃ S2, compL none n body xs S = some (xs.map fun _ => .bool true, S2) ∧ I S2
  | [], S, _, hI => by
    refine ⟨S, ?_, hI⟩
    unfold compL
    rw [if_pos (show monOk none _ from True.intro)]
    rfl
  | x :: xs, S, h, hI => by
    obtain ⟨S1, e, hI1⟩ := hb x S (h x (List.mem_cons_self ..)) hI
    obtain ⟨S2, e2, hI2⟩ := compL_all hb (fun z hz => h z (List.mem_cons_of_mem _ hz)) hI1
    refine ⟨S2, ?_, hI2⟩
    unfold compL
    rw [if_pos (show monOk none _ from True.intro), e]
    simp only [bd_some, e2]
    rfl
/-- a loop, I after each turn; or it ends in a return of Q -/
theorem forL_inv {tg : Tg} {body : Ev → Sto → Option (Fl × Sto)} {I : Nat → Ev → Sto → Prop} {xs : List PyData} (hb : ∀ j x Γ S, xs[j]? = some x → I j Γ S → ∃ Γ1 Γ2 S1, tgt tg x Γ = some Γ1 ∧ body Γ1 S = some (.nx Γ2, S1) ∧ I (j + 1) Γ2 S1) :
    ∀ {Γ : Ev} {S : Sto}, I 0 Γ S → ∃ Γ2 S2, forL none tg body xs Γ S = some (.nx Γ2, S2) ∧ I xs.length Γ2 S2 := by
  have gen : ∀ (ys pre : List PyData) (Γ : Ev) (S : Sto), xs = pre ++ ys → I pre.length Γ S → ∃ Γ2 S2, forL none tg body ys Γ S = some (.nx Γ2, S2) ∧ I xs.length Γ2 S2 := by
    intro ys
    induction ys with
    | nil =>
      intro pre Γ S e h
      refine ⟨Γ, S, ?_, by rw [e, List.append_nil]; exact h⟩
      unfold forL
      rw [if_pos (show monOk none _ from True.intro)]
    | cons x ys ih =>
      intro pre Γ S e h
      obtain ⟨Γ1, Γ2, S1, e1, e2, h2⟩ := hb pre.length x Γ S (by rw [e]; simp) h
      obtain ⟨Γ3, S3, e3, h3⟩ := ih (pre ++ [x]) Γ2 S1 (by rw [e]; simp) (by simpa using h2)
      refine ⟨Γ3, S3, ?_, h3⟩
      unfold forL
      rw [if_pos (show monOk none _ from True.intro), e1, Option.bind_some, e2]
      exact e3
  intro Γ S h
  exact gen xs [] Γ S rfl h
theorem all_bools {α : Type} (xs : List α) (f : α → Bool) : boolsD (xs.map fun x => PyData.bool (f x)) = some (xs.map f) := by
  induction xs with
  | nil => rfl
  | cons x xs ih => simp only [List.map_cons, boolsD, ih, Option.map_some]
theorem blt_all {α : Type} (xs : List α) (f : α → Bool) : bltD .all [.list (xs.map fun x => PyData.bool (f x))] = some (.bool (xs.all f)) := by
  simp only [bltD, all_bools, Option.map_some]
  congr 2
  rw [List.all_map]
  rfl
theorem ints_ok : ∀ ns : List Int, intsD (ns.map PyData.int) = some ns
  | [] => rfl
  | n :: ns => by simp only [List.map_cons, intsD, ints_ok ns, Option.map_some]
theorem ints_inv : ∀ {xs : List PyData} {ns : List Int}, intsD xs = some ns → xs = ns.map PyData.int
  | [], ns, h => by cases h; rfl
  | x :: xs, ns, h => by
    cases x with
    | int i =>
      simp only [intsD] at h
      cases e : intsD xs with
      | none => rw [e] at h; cases h
      | some ms =>
        rw [e] at h
        cases h
        rw [ints_inv e]
        rfl
    | _ => cases h
theorem sortI_len : ∀ ns : List Int, (sortI ns).length = ns.length
  | [] => rfl
  | x :: r => by
    have ins : ∀ (x : Int) (l : List Int), (insI x l).length = l.length + 1 := by
      intro x l
      induction l with
      | nil => rfl
      | cons y l ih =>
        unfold insI
        split
        · rfl
        · rw [List.length_cons, ih, List.length_cons]
    rw [sortI, ins, sortI_len r, List.length_cons]
theorem insI_sorted (x : Int) : ∀ l : List Int, l.Pairwise (· ≤ ·) → (insI x l).Pairwise (· ≤ ·)
  | [], _ => by simp [insI]
  | y :: l, h => by
    rw [List.pairwise_cons] at h
    unfold insI
    split
    · rename_i q
      refine List.pairwise_cons.mpr ⟨fun z hz => ?_, List.pairwise_cons.mpr h⟩
      rcases List.mem_cons.mp hz with e | hz
      · exact e ▸ q
      · exact Int.le_trans q (h.1 z hz)
    · rename_i q
      refine List.pairwise_cons.mpr ⟨fun z hz => ?_, insI_sorted x l h.2⟩
      rcases List.mem_cons.mp ((insI_perm x l).mem_iff.mp hz) with e | hz
      · omega
      · exact h.1 z hz
theorem sortI_sorted : ∀ l : List Int, (sortI l).Pairwise (· ≤ ·)
  | [] => .nil
  | x :: l => insI_sorted x _ (sortI_sorted l)
/-- in order, the same members: the same -/
theorem sorted_eq : ∀ {l m : List Int}, l.Pairwise (· ≤ ·) → m.Pairwise (· ≤ ·) → l.Perm m → l = m
  | [], m, _, _, h => (List.nil_perm.mp h).symm
  | x :: l, [], _, _, h => by simpa using h.length_eq
  | x :: l, y :: m, h1, h2, h => by
    rw [List.pairwise_cons] at h1 h2
    have e : x = y := by
      have a : y ∈ x :: l := h.mem_iff.mpr (List.mem_cons_self ..)
      have b : x ∈ y :: m := h.mem_iff.mp (List.mem_cons_self ..)
      have a' : x ≤ y := by
        rcases List.mem_cons.mp a with e | q
        · omega
        · exact h1.1 y q
      have b' : y ≤ x := by
        rcases List.mem_cons.mp b with e | q
        · omega
        · exact h2.1 x q
      omega
    subst e
    rw [sorted_eq h1.2 h2.2 ((List.perm_cons _).mp h)]
theorem at_nat {xs : List PyData} {k : Nat} : atD xs (k : Int) = xs[k]? := by
  unfold atD L2.atI
  unfold L2.ixN
  rw [if_pos (by omega)]
  by_cases h : k < xs.length
  · rw [if_pos (by omega)]
    rfl
  · rw [if_neg (by omega), List.getElem?_eq_none (by omega)]
    rfl
end Pv
set_option maxRecDepth 100000
set_option maxHeartbeats 4000000
/-! ## Lists of ints -/
namespace Pv
open PySem PySem.Spec PyProof.Rows
abbrev tupI (ns : List Int) : PyData := .tuple (ns.map PyData.int)
abbrev lstI (ns : List Int) : PyData := .list (ns.map PyData.int)
theorem lay_ints : ∀ ns : List Int, PyData.canLayAll0 (ns.map PyData.int) = true
  | [] => rfl
  | n :: ns => by
    show (PyData.canLay0 (.int n) && PyData.canLayAll0 (ns.map PyData.int)) = true
    rw [lay_ints ns]
    rfl
theorem dep_ints : ∀ ns : List Int, PyData.depthAll (ns.map PyData.int) ≤ 1
  | [] => by decide
  | n :: ns => by
    have := dep_ints ns
    show max (PyData.depth (.int n)) (PyData.depthAll (ns.map PyData.int)) ≤ 1
    have h : PyData.depth (.int n) ≤ 1 := by simp [PyData.depth]
    omega
theorem shp_int (n : Int) : shp (.int n) = true := by rfl
theorem shp_tupI (ns : List Int) : shp (tupI ns) = true := by
  show (PyData.canLayAll0 (ns.map PyData.int) && decide (PyData.depth (tupI ns) ≤ 64)) = true
  have := dep_ints ns
  have h : PyData.depth (tupI ns) ≤ 64 := by
    show PyData.depthAll (ns.map PyData.int) + 1 ≤ 64
    omega
  rw [lay_ints, decide_eq_true h]
  rfl
theorem shp_lstI (ns : List Int) : shp (lstI ns) = true := by
  show (PyData.canLayAll0 (ns.map PyData.int) && decide (PyData.depth (lstI ns) ≤ 64)) = true
  have := dep_ints ns
  have h : PyData.depth (lstI ns) ≤ 64 := by
    show PyData.depthAll (ns.map PyData.int) + 1 ≤ 64
    omega
  rw [lay_ints, decide_eq_true h]
  rfl
theorem eqv_int (a b : Int) : PyData.eqv (.int a) (.int b) = (a == b) := by simp only [PyData.eqv]
theorem any_int (a : Int) : ∀ ns : List Int, ((ns.map PyData.int).any fun z => PyData.eqv z (.int a)) = decide (a ∈ ns)
  | [] => by simp
  | n :: ns => by
    rw [List.map_cons, List.any_cons, any_int a ns, eqv_int, Bool.eq_iff_iff]
    simp only [Bool.or_eq_true, beq_iff_eq, decide_eq_true_eq, List.mem_cons]
    constructor <;> rintro (h | h) <;> first | exact .inl h.symm | exact .inr h
theorem in_tupI (a : Int) (ns : List Int) : cmpD .In (.int a) (tupI ns) = some (decide (a ∈ ns)) := by
  show (if shp (.int a) = true ∧ shp (tupI ns) = true then some ((ns.map PyData.int).any fun z => PyData.eqv z (.int a)) else none) = _
  rw [if_pos ⟨shp_int a, shp_tupI ns⟩, any_int]
theorem notin_tupI (a : Int) (ns : List Int) : cmpD .NotIn (.int a) (tupI ns) = some (!decide (a ∈ ns)) := by
  show (if shp (.int a) = true ∧ shp (tupI ns) = true then some (!(ns.map PyData.int).any fun z => PyData.eqv z (.int a)) else none) = _
  rw [if_pos ⟨shp_int a, shp_tupI ns⟩, any_int]
theorem eqvs_ints : ∀ ns ms : List Int, PyData.eqvAll (ns.map PyData.int) (ms.map PyData.int) = decide (ns = ms)
  | [], [] => by simp [PyData.eqvAll]
  | [], _ :: _ => by simp [PyData.eqvAll]
  | _ :: _, [] => by simp [PyData.eqvAll]
  | n :: ns, m :: ms => by
    rw [List.map_cons, List.map_cons, PyData.eqvAll, eqvs_ints ns ms, eqv_int, Bool.eq_iff_iff]
    simp
theorem at_ints (ns : List Int) (k : Nat) (h : k < ns.length) : atD (ns.map PyData.int) (k : Int) = some (.int (ns.getD k 0)) := by
  rw [at_nat, List.getElem?_map, List.getD_eq_getElem?_getD, List.getElem?_eq_getElem h]
  rfl
theorem cut_to (xs : List PyData) (i : Nat) : cutD xs none (some (i : Int)) = xs.take i := by
  unfold cutD
  rw [HT.sIx_none, HT.sIx_nat, List.drop_zero, Nat.sub_zero]
  by_cases h : i ≤ xs.length
  · rw [Nat.min_eq_left h]
  · rw [Nat.min_eq_right (by omega), List.take_of_length_le (by omega), List.take_of_length_le (by omega)]
theorem cut_from (xs : List PyData) (i : Nat) : cutD xs (some (i : Int)) none = xs.drop i := by
  unfold cutD
  rw [HT.sIx_none, HT.sIx_nat]
  by_cases h : i ≤ xs.length
  · rw [Nat.min_eq_left h, List.take_of_length_le (by rw [List.length_drop]; exact Nat.le_refl _)]
  · rw [Nat.min_eq_right (by omega), List.drop_of_length_le (Nat.le_refl _), List.drop_of_length_le (by omega), List.take_nil]
theorem find_ints (a : Int) : ∀ ns : List Int, a ∈ ns → (ns.map PyData.int).findIdx? (fun z => PyData.eqv z (.int a)) = some (ns.idxOf a)
  | [], h => by cases h
  | n :: ns, h => by
    rw [List.map_cons, List.findIdx?_cons, eqv_int, List.idxOf_cons]
    by_cases e : n = a
    · subst e
      simp
    · have h : a ∈ ns := (List.mem_cons.mp h).resolve_left fun q => e q.symm
      rw [find_ints a ns h]
      have e2 : (n == a) = false := by simpa using e
      simp [e2]
theorem ix_tupI (a : Int) (ns : List Int) (h : a ∈ ns) : indexD (tupI ns) (.int a) = some (.int (ns.idxOf a)) := by
  show (if shp (.int a) = true ∧ shp (tupI ns) = true then ((ns.map PyData.int).findIdx? fun z => PyData.eqv z (.int a)).map fun (j : Nat) => PyData.int (j : Int) else none) = _
  rw [if_pos ⟨shp_int a, shp_tupI ns⟩, find_ints a ns h]
  rfl
theorem ix_lstI (a : Int) (ns : List Int) (h : a ∈ ns) : indexD (lstI ns) (.int a) = some (.int (ns.idxOf a)) := by
  show (if shp (.int a) = true ∧ shp (lstI ns) = true then ((ns.map PyData.int).findIdx? fun z => PyData.eqv z (.int a)).map fun (j : Nat) => PyData.int (j : Int) else none) = _
  rw [if_pos ⟨shp_int a, shp_lstI ns⟩, find_ints a ns h]
  rfl
/-- no two alike, all of them in m, as many as m: m in another order -/
theorem nodup_perm : ∀ {l m : List Int}, l.Nodup → (∀ x ∈ l, x ∈ m) → m.length ≤ l.length → l.Perm m
  | [], m, _, _, h => by
    have : m = [] := List.length_eq_zero_iff.mp (by simpa using h)
    rw [this]
  | x :: l, m, h1, h2, h3 => by
    have hx : x ∈ m := h2 x (List.mem_cons_self ..)
    rw [List.nodup_cons] at h1
    have p := List.perm_cons_erase hx
    have q : l.Perm (m.erase x) := nodup_perm h1.2 (fun y hy => by
      have hy2 := h2 y (List.mem_cons_of_mem _ hy)
      have ne : y ≠ x := fun e => h1.1 (by rw [← e]; exact hy)
      exact (List.mem_erase_of_ne ne).mpr hy2) (by
      rw [List.length_erase_of_mem hx]
      rw [List.length_cons] at h3
      omega)
    exact (q.cons x).trans p.symm
def upTo (n : Nat) : List Int := (List.range n).map fun (k : Nat) => (k : Int)
theorem upTo_len (n : Nat) : (upTo n).length = n := by simp [upTo]
theorem mem_upTo {n : Nat} {x : Int} : x ∈ upTo n ↔ 0 ≤ x ∧ x < n := by
  unfold upTo
  rw [List.mem_map]
  constructor
  · rintro ⟨k, hk, rfl⟩
    rw [List.mem_range] at hk
    omega
  · intro h
    exact ⟨x.toNat, List.mem_range.mpr (by omega), by omega⟩
theorem upTo_nodup (n : Nat) : (upTo n).Nodup := by
  unfold upTo
  rw [List.Nodup, List.pairwise_map]
  exact (List.nodup_range (n := n)).imp fun h e => h (by omega)
theorem upTo_sorted (n : Nat) : (upTo n).Pairwise (· ≤ ·) := by
  unfold upTo
  rw [List.pairwise_map]
  exact (List.pairwise_le_range (n := n)).imp fun h => by omega
/-- an order of n places -/
def Ord (n : Nat) (ns : List Int) : Prop := ns.Perm (upTo n)
theorem ord_iff {n : Nat} {ns : List Int} : Ord n ns ↔ (∀ x ∈ ns, 0 ≤ x ∧ x < n) ∧ ns.length = n ∧ ns.Nodup := by
  constructor
  · intro h
    refine ⟨fun x hx => mem_upTo.mp (h.mem_iff.mp hx), by rw [h.length_eq, upTo_len], h.nodup_iff.mpr (upTo_nodup n)⟩
  · rintro ⟨h1, h2, h3⟩
    exact nodup_perm h3 (fun x hx => mem_upTo.mpr (h1 x hx)) (by rw [upTo_len]; omega)
theorem ord_sort {n : Nat} {ns : List Int} : Ord n ns ↔ sortI ns = upTo n := by
  constructor
  · intro h
    exact sorted_eq (sortI_sorted ns) (upTo_sorted n) ((sortI_perm ns).trans h)
  · intro h
    unfold Ord
    rw [← h]
    exact (sortI_perm ns).symm
instance (n : Nat) (ns : List Int) : Decidable (Ord n ns) := decidable_of_iff _ ord_sort.symm
/-! ### single operations -/
theorem pv_add_int (i j : Int) : binD .Add (.int i) (.int j) = some (.int (i + j)) := rfl
theorem pv_sub_int (i j : Int) : binD .Sub (.int i) (.int j) = some (.int (i - j)) := rfl
theorem pv_len_list (xs : List PyData) : bltD .len [.list xs] = some (.int xs.length) := rfl
theorem pv_len_tup (xs : List PyData) : bltD .len [.tuple xs] = some (.int xs.length) := rfl
theorem pv_sl_list (xs : List PyData) (lo hi : Option Int) : slD (.list xs) lo hi = some (.list (cutD xs lo hi)) := rfl
theorem pv_sl_tup (xs : List PyData) (lo hi : Option Int) : slD (.tuple xs) lo hi = some (.tuple (cutD xs lo hi)) := rfl
theorem pv_rev_list (xs : List PyData) : revD (.list xs) = some (.list xs.reverse) := rfl
theorem pv_rev_tup (xs : List PyData) : revD (.tuple xs) = some (.tuple xs.reverse) := rfl
theorem pv_el_list (xs : List PyData) : elems (.list xs) = some xs := rfl
theorem pv_el_tup (xs : List PyData) : elems (.tuple xs) = some xs := rfl
theorem pv_ix_list (xs : List PyData) (i : Int) : idxD (.list xs) (.int i) = atD xs i := rfl
theorem pv_ix_tup (xs : List PyData) (i : Int) : idxD (.tuple xs) (.int i) = atD xs i := rfl
theorem pv_lt_int (i j : Int) : cmpD .Lt (.int i) (.int j) = some (decide (i < j)) := rfl
theorem pv_le_int (i j : Int) : cmpD .LtE (.int i) (.int j) = some (decide (i ≤ j)) := rfl
theorem pv_gt_int (i j : Int) : cmpD .Gt (.int i) (.int j) = some (decide (j < i)) := rfl
theorem pv_ge_int (i j : Int) : cmpD .GtE (.int i) (.int j) = some (decide (j ≤ i)) := rfl
theorem pv_int_int (i : Int) : bltD .int [.int i] = some (.int i) := rfl
theorem pv_eq_int (i j : Int) : cmpD .Eq (.int i) (.int j) = some (decide (i = j)) := by
  show (if shp (.int i) = true ∧ shp (.int j) = true then some (PyData.eqv (.int i) (.int j)) else none) = _
  rw [if_pos ⟨shp_int i, shp_int j⟩, eqv_int, Bool.beq_eq_decide_eq]
theorem pv_list_add (xs ys : List PyData) (h : xs.length + ys.length ≤ 1000) : binD .Add (.list xs) (.list ys) = some (.list (xs ++ ys)) := by
  show (if xs.length + ys.length ≤ lineN then some (PyData.list (xs ++ ys)) else none) = _
  rw [if_pos (by unfold lineN; omega)]
theorem pv_tup_add (xs ys : List PyData) (h : xs.length + ys.length ≤ 1000) : binD .Add (.tuple xs) (.tuple ys) = some (.tuple (xs ++ ys)) := by
  show (if xs.length + ys.length ≤ lineN then some (PyData.tuple (xs ++ ys)) else none) = _
  rw [if_pos (by unfold lineN; omega)]
end Pv
set_option maxRecDepth 100000
set_option maxHeartbeats 4000000
namespace K79
open PySem PySem.Spec PyProof.Rows L2 Pv
def top (i : Nat) : Stmt := PySem.Challenge.pw_roundorders_k79_whole_pyramids_of_anythi.main.body.getD i (.Pass ⟨0, 0, 0, 0⟩)
abbrev i_is_whole : Nat := 0
abbrev i_is_between : Nat := 1
abbrev i_are_indexes : Nat := 2
abbrev i_are_unlike : Nat := 3
abbrev i_are_rising : Nat := 4
abbrev i_is_order_by : Nat := 5
abbrev i_is_any_order : Nat := 6
abbrev i_check_any_order : Nat := 7
abbrev i_is_pyramid_by : Nat := 8
abbrev i_is_pyramid : Nat := 9
abbrev i_supnick_round_by : Nat := 10
abbrev i_supnick_round : Nat := 11
abbrev i__law_well : Nat := 12
abbrev i__law_take : Nat := 13
abbrev i__law_same : Nat := 14
abbrev i__law_order : Nat := 15
abbrev i__law_is_number : Nat := 16
abbrev i__law_is_pyramid : Nat := 17
abbrev i__law_near : Nat := 18
abbrev i__law_right : Nat := 19
abbrev i_law : Nat := 20
def m_is_whole : MB := (.cons (.ret (.boo true (.cons (.isin (.var 0) [.int]) (.cons (.not (.isin (.var 0) [.bool])) .nil)))) .nil)
def d_is_whole : Df := ⟨"is_whole", top 4, ["value"], ["value"], m_is_whole, false⟩
def m_is_between : MB := (.cons (.ret (.boo true (.cons (.call i_is_whole (.cons (.var 0) .nil)) (.cons (.chain .LtE .LtE (.var 1) (.var 0) (.var 2)) .nil)))) .nil)
def d_is_between : Df := ⟨"is_between", top 5, ["value", "low", "high"], ["value", "low", "high"], m_is_between, false⟩
def m_are_indexes : MB := (.cons (.ret (.boo true (.cons (.isin (.var 1) [.tuple]) (.cons (.blt .all (.cons (.comp [("each", 2)] (.nm 2) (.val (.var 1)) .no (.call i_is_between (.cons (.var 2) (.cons (.con (.int 0)) (.cons (.bin .Sub (.var 0) (.con (.int 1))) .nil))))) .nil)) .nil)))) .nil)
def d_are_indexes : Df := ⟨"are_indexes", top 6, ["many", "value", "each"], ["many", "value"], m_are_indexes, false⟩
def m_are_unlike : MB := (.cons (.ret (.blt .all (.cons (.comp [("index", 1), ("each", 2)] (.tp [1, 2]) (.enum (.var 0)) .no (.cmp .NotIn (.var 2) (.sl (.var 0) .no (.yes (.var 1))))) .nil))) .nil)
def d_are_unlike : Df := ⟨"are_unlike", top 7, ["value", "index", "each"], ["value"], m_are_unlike, false⟩
def m_are_rising : MB := (.cons (.ret (.blt .all (.cons (.comp [("index", 1)] (.nm 1) (.rng2 (.con (.int 1)) (.blt .len (.cons (.var 0) .nil))) .no (.cmp .Lt (.idx (.var 0) (.bin .Sub (.var 1) (.con (.int 1)))) (.idx (.var 0) (.var 1)))) .nil))) .nil)
def d_are_rising : Df := ⟨"are_rising", top 8, ["value", "index"], ["value"], m_are_rising, false⟩
def m_is_order_by : MB := (.cons (.ret (.boo true (.cons (.call i_are_indexes (.cons (.var 0) (.cons (.var 1) .nil))) (.cons (.cmp .Eq (.blt .len (.cons (.var 1) .nil)) (.var 0)) (.cons (.call i_are_unlike (.cons (.var 1) .nil)) .nil))))) .nil)
def d_is_order_by : Df := ⟨"is_order_by", top 9, ["many", "value"], ["many", "value"], m_is_order_by, false⟩
def m_is_any_order : MB := (.cons (.ret (.boo true (.cons (.isin (.var 0) [.tuple]) (.cons (.chain .LtE .LtE (.con (.int 1)) (.blt .len (.cons (.var 0) .nil)) (.glob "MOST_PLACES" (.int 8))) (.cons (.call i_is_order_by (.cons (.blt .len (.cons (.var 0) .nil)) (.cons (.var 0) .nil))) .nil))))) .nil)
def d_is_any_order : Df := ⟨"is_any_order", top 12, ["value"], ["value"], m_is_any_order, false⟩
def m_check_any_order : MB := (.cons (.ifs (.not (.call i_is_any_order (.cons (.var 0) .nil))) (.cons .never .nil) .nil) .nil)
def d_check_any_order : Df := ⟨"check_any_order", top 14, ["value"], ["value"], m_check_any_order, false⟩
def m_is_pyramid_by : MB := (.cons (.ifs (.not (.call i_is_order_by (.cons (.blt .len (.cons (.var 0) .nil)) (.cons (.var 1) .nil)))) (.cons (.ret (.con (.bool false))) .nil) .nil) (.cons (.asg (.nm 2) (.comp [("place", 3)] (.nm 3) (.val (.var 1)) .no (.index (.var 0) (.var 3)))) (.cons (.asg (.nm 4) (.index (.var 2) (.con (.int 0)))) (.cons (.asg (.nm 5) (.bin .Add (.sl (.var 2) (.yes (.var 4)) .no) (.sl (.var 2) .no (.yes (.var 4))))) (.cons (.asg (.nm 6) (.index (.var 5) (.bin .Sub (.blt .len (.cons (.var 0) .nil)) (.con (.int 1))))) (.cons (.ret (.boo true (.cons (.call i_are_rising (.cons (.sl (.var 5) .no (.yes (.bin .Add (.var 6) (.con (.int 1))))) .nil)) (.cons (.call i_are_rising (.cons (.rev (.sl (.var 5) (.yes (.var 6)) .no)) .nil)) .nil)))) .nil))))))
def d_is_pyramid_by : Df := ⟨"is_pyramid_by", top 16, ["order", "value", "steps", "place", "start", "turned", "top"], ["order", "value"], m_is_pyramid_by, false⟩
def m_is_pyramid : MB := (.cons (.exp (.call i_check_any_order (.cons (.var 0) .nil))) (.cons (.ret (.call i_is_pyramid_by (.cons (.var 0) (.cons (.var 1) .nil)))) .nil))
def d_is_pyramid : Df := ⟨"is_pyramid", top 18, ["order", "value"], ["order", "value"], m_is_pyramid, false⟩
def m_supnick_round_by : MB := (.cons (.ret (.bin .Add (.two 0 (.var 0)) (.rev (.two 1 (.var 0))))) .nil)
def d_supnick_round_by : Df := ⟨"supnick_round_by", top 20, ["order"], ["order"], m_supnick_round_by, false⟩
def m_supnick_round : MB := (.cons (.exp (.call i_check_any_order (.cons (.var 0) .nil))) (.cons (.ret (.call i_supnick_round_by (.cons (.var 0) .nil))) .nil))
def d_supnick_round : Df := ⟨"supnick_round", top 22, ["order"], ["order"], m_supnick_round, false⟩
def b0__law_well : MB := (.cons (.asg (.nm 3) (.bin .Mod (.blt .int (.cons (.bin .Add (.bin .Add (.bin .Mult (.var 3) (.con (.int 44497))) (.bin .Mod (.blt .int (.cons (.var 4) .nil)) (.con (.int 2147483587)))) (.con (.int 29))) .nil)) (.con (.int 2147483563)))) .nil)
def m__law_well : MB := (.cons (.asg (.nm 2) (.ife (.cmp .Lt (.var 1) (.blt .len (.cons (.var 0) .nil))) (.blt .int (.cons (.idx (.var 0) (.var 1)) .nil)) (.con (.int 0)))) (.cons (.asg (.nm 3) (.bin .Add (.con (.int 52027)) (.bin .Mult (.con (.int 6971)) (.var 1)))) (.cons (.forr (.nm 4) (.val (.bin .Add (.sl (.var 0) .no (.yes (.con (.int 8)))) (.lst (.cons (.var 2) .nil)))) b0__law_well) (.cons (.ret (.lstM (.cons (.ife (.boo false (.cons (.cmp .Lt (.var 2) (.con (.int 0))) (.cons (.cmp .GtE (.var 2) (.bin .Pow (.con (.int 10)) (.con (.int 18)))) .nil))) (.blt .abs (.cons (.var 2) .nil)) (.con (.int 0))) (.cons (.var 3) (.cons (.con (.int 0)) .nil))))) .nil))))
def d__law_well : Df := ⟨"_law_well", top 24, ["script", "lap", "own", "stir", "each"], ["script", "lap"], m__law_well, true⟩
def m__law_take : MB := (.cons (.ifs (.cmp .Gt (.idx (.var 0) (.con (.int 0))) (.con (.int 0))) (.cons (.unp [(.sub (.var 0) (.con (.int 0))), (.nm 2)] (.blt .divmod (.cons (.idx (.var 0) (.con (.int 0))) (.cons (.var 1) .nil)))) (.cons (.ret (.var 2)) .nil)) .nil) (.cons (.asg (.sub (.var 0) (.con (.int 2))) (.bin .Add (.idx (.var 0) (.con (.int 2))) (.con (.int 1)))) (.cons (.asg (.sub (.var 0) (.con (.int 1))) (.bin .Mod (.blt .int (.cons (.bin .Add (.bin .Add (.bin .Mult (.idx (.var 0) (.con (.int 1))) (.con (.int 39373))) (.bin .Mult (.idx (.var 0) (.con (.int 2))) (.con (.int 30323)))) (.con (.int 11))) .nil)) (.con (.int 2147483543)))) (.cons (.ret (.bin .Mod (.blt .int (.cons (.bin .FloorDiv (.idx (.var 0) (.con (.int 1))) (.con (.int 128))) .nil)) (.var 1))) .nil))))
def d__law_take : Df := ⟨"_law_take", top 25, ["well", "many", "digit"], ["well", "many"], m__law_take, false⟩
def m__law_same : MB := (.cons (.ifs (.boo false (.cons (.boo true (.cons (.isin (.var 1) [.tuple]) (.cons (.not (.isin (.var 0) [.tuple])) .nil))) (.cons (.boo true (.cons (.isin (.var 1) [.list]) (.cons (.not (.isin (.var 0) [.list])) .nil))) .nil))) (.cons (.ret (.con (.bool false))) .nil) .nil) (.cons (.ifs (.isin (.var 1) [.tuple, .list]) (.cons (.ret (.boo true (.cons (.cmp .Eq (.blt .len (.cons (.var 0) .nil)) (.blt .len (.cons (.var 1) .nil))) (.cons (.blt .all (.cons (.comp [("at", 2)] (.nm 2) (.rng (.blt .len (.cons (.var 1) .nil))) .no (.call i__law_same (.cons (.idx (.var 0) (.var 2)) (.cons (.idx (.var 1) (.var 2)) .nil)))) .nil)) .nil)))) .nil) .nil) (.cons (.ifs (.boo false (.cons (.cmp .Is (.var 1) (.con .none)) (.cons (.cmp .Is (.var 0) (.con .none)) .nil))) (.cons (.ret (.boo true (.cons (.cmp .Is (.var 1) (.con .none)) (.cons (.cmp .Is (.var 0) (.con .none)) .nil)))) .nil) .nil) (.cons (.ifs (.boo false (.cons (.isin (.var 1) [.bool]) (.cons (.isin (.var 0) [.bool]) .nil))) (.cons (.ret (.boo true (.cons (.isin (.var 1) [.bool]) (.cons (.isin (.var 0) [.bool]) (.cons (.cmp .Eq (.var 1) (.var 0)) .nil))))) .nil) .nil) (.cons (.ifs (.isin (.var 1) [.int]) (.cons (.ret (.boo true (.cons (.isin (.var 0) [.int]) (.cons (.cmp .Eq (.var 0) (.var 1)) .nil)))) .nil) .nil) (.cons (.ifs (.isin (.var 1) [.str]) (.cons (.ret (.boo true (.cons (.isin (.var 0) [.str]) (.cons (.cmp .Eq (.var 0) (.var 1)) .nil)))) .nil) .nil) (.cons (.ret (.boo true (.cons (.isin (.var 1) [.dict]) (.cons (.isin (.var 0) [.dict]) (.cons (.cmp .Eq (.blt .len (.cons (.var 0) .nil)) (.blt .len (.cons (.var 1) .nil))) (.cons (.cmp .Eq (.var 0) (.var 1)) .nil)))))) .nil)))))))
def d__law_same : Df := ⟨"_law_same", top 26, ["told", "due", "at"], ["told", "due"], m__law_same, false⟩
def b0__law_order : MB := (.cons (.exp (.append (.var 3) (.popAt (.var 2) (.call i__law_take (.cons (.var 0) (.cons (.blt .len (.cons (.var 2) .nil)) .nil)))))) .nil)
def m__law_order : MB := (.cons (.par [2, 3] (.cons (.listRngM (.var 1)) (.cons (.lstM .nil) .nil))) (.cons (.forr (.nm 4) (.rng (.var 1)) b0__law_order) (.cons (.ret (.blt .tuple (.cons (.var 3) .nil))) .nil)))
def d__law_order : Df := ⟨"_law_order", top 27, ["well", "many", "left", "found", "turn"], ["well", "many"], m__law_order, false⟩
def m__law_is_number : MB := (.cons (.ret (.boo true (.cons (.isin (.var 0) [.int]) (.cons (.not (.isin (.var 0) [.bool])) .nil)))) .nil)
def d__law_is_number : Df := ⟨"_law_is_number", top 28, ["value"], ["value"], m__law_is_number, false⟩
def m__law_is_pyramid : MB := (.cons (.ifs (.boo false (.cons (.not (.isin (.var 1) [.tuple])) (.cons (.not (.blt .all (.cons (.comp [("place", 2)] (.nm 2) (.val (.var 1)) .no (.call i__law_is_number (.cons (.var 2) .nil))) .nil))) (.cons (.cmp .NotEq (.blt .sorted (.cons (.var 1) .nil)) (.listRng (.blt .len (.cons (.var 0) .nil)))) .nil)))) (.cons (.ret (.con (.bool false))) .nil) .nil) (.cons (.asg (.nm 3) (.comp [("place", 2)] (.nm 2) (.val (.var 1)) .no (.index (.var 0) (.var 2)))) (.cons (.asg (.nm 4) (.index (.var 3) (.con (.int 0)))) (.cons (.asg (.nm 5) (.bin .Add (.sl (.var 3) (.yes (.var 4)) .no) (.sl (.var 3) .no (.yes (.var 4))))) (.cons (.asg (.nm 6) (.index (.var 5) (.bin .Sub (.blt .len (.cons (.var 5) .nil)) (.con (.int 1))))) (.cons (.ret (.boo true (.cons (.blt .all (.cons (.comp [("k", 7)] (.nm 7) (.rng (.var 6)) .no (.cmp .Lt (.idx (.var 5) (.var 7)) (.idx (.var 5) (.bin .Add (.var 7) (.con (.int 1)))))) .nil)) (.cons (.blt .all (.cons (.comp [("k", 7)] (.nm 7) (.rng2 (.var 6) (.bin .Sub (.blt .len (.cons (.var 5) .nil)) (.con (.int 1)))) .no (.cmp .Gt (.idx (.var 5) (.var 7)) (.idx (.var 5) (.bin .Add (.var 7) (.con (.int 1)))))) .nil)) .nil)))) .nil))))))
def d__law_is_pyramid : Df := ⟨"_law_is_pyramid", top 29, ["order", "value", "place", "at", "start", "row", "top", "k"], ["order", "value"], m__law_is_pyramid, false⟩
def m__law_near : MB := (.cons (.asg (.nm 2) (.blt .len (.cons (.var 1) .nil))) (.cons (.parT [(.nm 3), (.nm 4)] (.cons (.call i__law_take (.cons (.var 0) (.cons (.var 2) .nil))) (.cons (.call i__law_take (.cons (.var 0) (.cons (.var 2) .nil))) .nil))) (.cons (.asg (.nm 5) (.listM (.var 1))) (.cons (.parT [(.sub (.var 5) (.var 3)), (.sub (.var 5) (.var 4))] (.cons (.idx (.var 5) (.var 4)) (.cons (.idx (.var 5) (.var 3)) .nil))) (.cons (.asg (.nm 6) (.lst (.cons (.var 1) (.cons (.bin .Add (.sl (.var 1) (.yes (.var 3)) .no) (.sl (.var 1) .no (.yes (.var 3)))) (.cons (.rev (.var 1)) (.cons (.bin .Add (.rev (.sl (.var 1) (.yes (.var 3)) .no)) (.rev (.sl (.var 1) .no (.yes (.var 3))))) (.cons (.blt .tuple (.cons (.var 5) .nil)) (.cons (.blt .list (.cons (.var 1) .nil)) (.cons (.sl (.var 1) (.yes (.con (.int 1))) .no) (.cons (.bin .Add (.var 1) (.sl (.var 1) .no (.yes (.con (.int 1))))) (.cons (.tup .nil) (.cons (.con .none) (.cons (.con (.int 0)) (.cons (.con (.str "0")) (.cons .dic0 (.cons (.tup (.cons (.var 1) .nil)) .nil)))))))))))))))) (.cons (.ret (.bin .Add (.var 6) (.comp [("new", 7)] (.nm 7) (.val (.tup (.cons (.var 2) (.cons (.bin .Sub (.con (.int 0)) (.con (.int 1))) (.cons (.con .none) (.cons (.con (.bool true)) (.cons (.con (.str "0")) (.cons (.idx (.var 1) (.var 4)) .nil)))))))) .no (.bin .Add (.bin .Add (.sl (.var 1) .no (.yes (.var 3))) (.tup (.cons (.var 7) .nil))) (.sl (.var 1) (.yes (.bin .Add (.var 3) (.con (.int 1)))) .no))))) .nil))))))
def d__law_near : Df := ⟨"_law_near", top 30, ["well", "value", "many", "a", "b", "mixed", "found", "new"], ["well", "value"], m__law_near, false⟩
def b0__law_right : MB := (.cons (.asg (.nm 8) (.ife (.cmp .Eq (.call i__law_take (.cons (.var 0) (.cons (.con (.int 2)) .nil))) (.con (.int 0))) (.call i_is_pyramid (.cons (.var 2) (.cons (.var 7) .nil))) (.callk i_is_pyramid ["value", "order"] [1, 0] (.cons (.var 7) (.cons (.var 2) .nil))))) (.cons (.ifs (.not (.call i__law_same (.cons (.var 8) (.cons (.call i__law_is_pyramid (.cons (.var 2) (.cons (.var 7) .nil))) .nil)))) (.cons (.ret (.con (.bool false))) .nil) .nil) .nil))
def b1__law_right : MB := (.cons (.forr (.nm 7) (.val (.call i__law_near (.cons (.var 0) (.cons (.var 6) .nil)))) b0__law_right) .nil)
def b2__law_right : MB := (.cons (.unp [(.nm 3), (.nm 4)] (.ife (.cmp .Eq (.call i__law_take (.cons (.var 0) (.cons (.con (.int 2)) .nil))) (.con (.int 0))) (.tup (.cons (.bin .Add (.var 3) (.tup (.cons (.var 5) .nil))) (.cons (.var 4) .nil))) (.tup (.cons (.var 3) (.cons (.bin .Add (.tup (.cons (.var 5) .nil)) (.var 4)) .nil))))) .nil)
def b3__law_right : MB := (.cons (.par [2, 3, 4] (.cons (.call i__law_order (.cons (.var 0) (.cons (.bin .Add (.con (.int 1)) (.call i__law_take (.cons (.var 0) (.cons (.con (.int 8)) .nil)))) .nil))) (.cons (.tup .nil) (.cons (.tup .nil) .nil)))) (.cons (.forr (.nm 5) (.val (.sl (.var 2) .no (.yes (.neg (.con (.int 1)))))) b2__law_right) (.cons (.forr (.nm 6) (.val (.tup (.cons (.bin .Add (.bin .Add (.var 3) (.sl (.var 2) (.yes (.neg (.con (.int 1)))) .no)) (.var 4)) (.cons (.call i__law_order (.cons (.var 0) (.cons (.blt .len (.cons (.var 2) .nil)) .nil))) (.cons (.call i_supnick_round (.cons (.var 2) .nil)) .nil))))) b1__law_right) .nil)))
def m__law_right : MB := (.cons (.forr (.nm 1) (.rng (.con (.int 16))) b3__law_right) (.cons (.asg (.nm 8) (.lst (.cons (.call i_is_pyramid (.cons (.tup (.cons (.con (.int 0)) (.cons (.con (.int 1)) (.cons (.con (.int 2)) (.cons (.con (.int 3)) .nil))))) (.cons (.tup (.cons (.con (.int 0)) (.cons (.con (.int 2)) (.cons (.con (.int 3)) (.cons (.con (.int 1)) .nil))))) .nil))) (.cons (.call i_is_pyramid (.cons (.tup (.cons (.con (.int 0)) (.cons (.con (.int 1)) (.cons (.con (.int 2)) (.cons (.con (.int 3)) .nil))))) (.cons (.tup (.cons (.con (.int 0)) (.cons (.con (.int 2)) (.cons (.con (.int 1)) (.cons (.con (.int 3)) .nil))))) .nil))) (.cons (.call i_is_pyramid (.cons (.tup (.cons (.con (.int 1)) (.cons (.con (.int 0)) (.cons (.con (.int 2)) (.cons (.con (.int 3)) .nil))))) (.cons (.tup (.cons (.con (.int 0)) (.cons (.con (.int 3)) (.cons (.con (.int 2)) (.cons (.con (.int 1)) .nil))))) .nil))) (.cons (.call i_is_pyramid (.cons (.tup (.cons (.con (.int 0)) .nil)) (.cons (.tup (.cons (.con (.int 0)) .nil)) .nil))) .nil)))))) (.cons (.ret (.cmp .Eq (.var 8) (.lst (.cons (.con (.bool true)) (.cons (.con (.bool false)) (.cons (.con (.bool true)) (.cons (.con (.bool true)) .nil))))))) .nil)))
def d__law_right : Df := ⟨"_law_right", top 31, ["well", "turn", "order", "row", "back", "place", "value", "each", "told"], ["well"], m__law_right, false⟩
def m_law : MB := (.cons (.ret (.blt .all (.cons (.comp [("lap", 1)] (.nm 1) (.rng (.blt .max2 (.cons (.con (.int 2)) (.cons (.blt .min2 (.cons (.blt .len (.cons (.var 0) .nil)) (.cons (.con (.int 3)) .nil))) .nil)))) .no (.call i__law_right (.cons (.call i__law_well (.cons (.var 0) (.cons (.var 1) .nil))) .nil))) .nil))) .nil)
def d_law : Df := ⟨"law", top 32, ["script", "lap"], ["script"], m_law, false⟩
def T : Tab := ⟨[d_is_whole, d_is_between, d_are_indexes, d_are_unlike, d_are_rising, d_is_order_by, d_is_any_order, d_check_any_order, d_is_pyramid_by, d_is_pyramid, d_supnick_round_by, d_supnick_round, d__law_well, d__law_take, d__law_same, d__law_order, d__law_is_number, d__law_is_pyramid, d__law_near, d__law_right, d_law],
  ["abs", "all", "bool", "dict", "divmod", "enumerate", "int", "isinstance", "len", "list", "max", "min", "range", "sorted", "str", "tuple"],
  [("MOST_PLACES", (.int 8))],
  [(i_is_pyramid, ["value", "order"], [1, 0])]⟩
theorem ok_is_whole : dfB T d_is_whole = true := by decide +kernel
theorem ok_is_between : dfB T d_is_between = true := by decide +kernel
theorem ok_are_indexes : dfB T d_are_indexes = true := by decide +kernel
theorem ok_are_unlike : dfB T d_are_unlike = true := by decide +kernel
theorem ok_are_rising : dfB T d_are_rising = true := by decide +kernel
theorem ok_is_order_by : dfB T d_is_order_by = true := by decide +kernel
theorem ok_is_any_order : dfB T d_is_any_order = true := by decide +kernel
theorem ok_check_any_order : dfB T d_check_any_order = true := by decide +kernel
theorem ok_is_pyramid_by : dfB T d_is_pyramid_by = true := by decide +kernel
theorem ok_is_pyramid : dfB T d_is_pyramid = true := by decide +kernel
theorem ok_supnick_round_by : dfB T d_supnick_round_by = true := by decide +kernel
theorem ok_supnick_round : dfB T d_supnick_round = true := by decide +kernel
theorem ok__law_well : dfB T d__law_well = true := by decide +kernel
theorem ok__law_take : dfB T d__law_take = true := by decide +kernel
theorem ok__law_same : dfB T d__law_same = true := by decide +kernel
theorem ok__law_order : dfB T d__law_order = true := by decide +kernel
theorem ok__law_is_number : dfB T d__law_is_number = true := by decide +kernel
theorem ok__law_is_pyramid : dfB T d__law_is_pyramid = true := by decide +kernel
theorem ok__law_near : dfB T d__law_near = true := by decide +kernel
theorem ok__law_right : dfB T d__law_right = true := by decide +kernel
theorem ok_law : dfB T d_law = true := by decide +kernel
end K79
set_option maxRecDepth 100000
set_option maxHeartbeats 0
namespace K79
open PySem PySem.Spec PyProof.Rows L2 Pv
abbrev fn : List He.DefD := fnT T
abbrev fa : List He.Fa := faT T
abbrev R : PySem.W.OpenRow := PySem.W.OpenLaw.row PySem.Challenge.rw_roundorders_k79_whole_pyramids_of_anythi
abbrev hk : PySem.W.Hook := He.hookD 4 fa fn
def ob (s : PySem.W.SharedT) : He.AlD := He.obsDG 4 fa fn (HandSHeadRun.getT s)
theorem ob_eq (s : PySem.W.SharedT) : ob s = hk.obs s.abs := He.obsDG_eq (HandSHeadRun.getT_eq s)
def loose : List Str := ["__name__", "RoundError", "InvalidOrder", "is_whole", "is_between", "are_indexes", "are_unlike", "are_rising", "is_order_by", "MOST_PLACES", "is_any_order", "check_any_order", "is_pyramid_by", "is_pyramid", "supnick_round_by", "supnick_round", "_law_well", "_law_take", "_law_same", "_law_order", "_law_is_number", "_law_is_pyramid", "_law_near", "_law_right"]
theorem run (w : World) : HandSHeadRun.RunEq R (PySem.W.view R.prog [32]) hk ob 2000 loose w := by
  intro os
  kernel_rfl
theorem bnd : ∀ d ∈ T.defs, BindB d := by
  intro d hd
  simp only [T, List.mem_cons, List.not_mem_nil, or_false] at hd
  rcases hd with h | h | h | h | h | h | h | h | h | h | h | h | h | h | h | h | h | h | h | h | h <;> subst h <;> (intro kV doc pm an cdv ct us hl) <;>
    first
      | exact (match us, hl with | [_], _ => rfl)
      | exact (match us, hl with | [_, _], _ => rfl)
      | exact (match us, hl with | [_, _, _], _ => rfl)
theorem oks : ∀ d ∈ T.defs, dfB T d = true := by
  intro d hd
  simp only [T, List.mem_cons, List.not_mem_nil, or_false] at hd
  rcases hd with h | h | h | h | h | h | h | h | h | h | h | h | h | h | h | h | h | h | h | h | h <;> subst h
  · exact ok_is_whole
  · exact ok_is_between
  · exact ok_are_indexes
  · exact ok_are_unlike
  · exact ok_are_rising
  · exact ok_is_order_by
  · exact ok_is_any_order
  · exact ok_check_any_order
  · exact ok_is_pyramid_by
  · exact ok_is_pyramid
  · exact ok_supnick_round_by
  · exact ok_supnick_round
  · exact ok__law_well
  · exact ok__law_take
  · exact ok__law_same
  · exact ok__law_order
  · exact ok__law_is_number
  · exact ok__law_is_pyramid
  · exact ok__law_near
  · exact ok__law_right
  · exact ok_law
theorem kwb : ∀ i ks ix, (i, ks, ix) ∈ T.kws → ∀ d, T.defs[i]? = some d → BindK d ks ix := by
  intro i ks ix h d hd
  simp only [T, List.mem_cons, List.not_mem_nil, or_false, Prod.mk.injEq] at h
  obtain ⟨rfl, rfl, rfl⟩ := h
  cases hd
  exact ⟨rfl, fun kV doc pm an cdv ct ws hl => match ws, hl with | [_, _], _ => rfl⟩
theorem top_k {K : PySem.W.Frag} {h : Heap} {mg : Str → Option Value} (X : K.In h) (G : h.Ns mainGlobals mg) (c : He.SaysD fa fn K) : TopOk K mg T := top_ok X G c oks bnd (by decide +kernel) kwb
theorem endK (main : ∀ ns : List Int, ns.length ≤ 63 → ∃ S', calN T 100 i_law [.d (.list (ns.map PyData.int))] [] = some (.d (.bool true), S')) : PySem.Challenge.rw_roundorders_k79_whole_pyramids_of_anythi.Holds := by
  w_on; o_law
  refine HandSHeadRun.head_any (r := PySem.W.OpenLaw.row PySem.Challenge.rw_roundorders_k79_whole_pyramids_of_anythi) (q := PySem.W.view (PySem.W.OpenLaw.row PySem.Challenge.rw_roundorders_k79_whole_pyramids_of_anythi).prog [32]) (H := hk) (ob := ob) (M := 2000) (loose := loose) (d := HandSHeadRun.topDef (PySem.W.OpenLaw.row PySem.Challenge.rw_roundorders_k79_whole_pyramids_of_anythi).prog 32) (kwd := []) ob_eq
    (by kernel_rfl) (fun s => by kernel_rfl) run (by kernel_rfl) (by kernel_rfl) (by kernel_rfl) (by rfl) (by first | assumption | decide +kernel) (by decide +kernel) ⟨rfl, rfl, rfl, rfl, rfl, by decide +kernel⟩ ?hw ?hc
  case hw => w_witness2
  case hc =>
    refine L2.walk_ofE (l := PySem.Challenge.rw_roundorders_k79_whole_pyramids_of_anythi) (n := 63) (k := 100) (x := "script") (CX := L2.CX0) rfl (by decide) (by kernel_rfl) ⟨rfl, by decide, by decide⟩ ?F (fun _ _ _ _ z => z)
    intro w mg fa0 h Y G hmg0
    obtain ⟨K, KX, c⟩ := Y
    have hmg : mg ("law" : PySem.Str) = some (.ref fa0) := by
      have e : (HandSHeadRun.topDef (PySem.W.OpenLaw.row PySem.Challenge.rw_roundorders_k79_whole_pyramids_of_anythi).prog 32).name = ("law" : PySem.Str) := by kernel_rfl
      rw [← e]
      exact hmg0
    obtain ⟨fd, hb, hF⟩ := law_facts (P := (PySem.Challenge.rw_roundorders_k79_whole_pyramids_of_anythi).prog) (w := w) (k := 99) (iL := i_law) (dL := d_law) KX G hmg (top_k KX G c) rfl rfl rfl (bnd d_law (by simp [T]))
    exact ⟨K, fd, spC K (calN T 100) 1 i_law, KX, hb, fun H a ns hl _ hS => law_sp (by decide) main H a ns hl hS, hF⟩
end K79
set_option maxRecDepth 100000
set_option maxHeartbeats 4000000
namespace K79
open PySem PySem.Spec PyProof.Rows Pv
/-! ### small defs -/
def isWhole (v : PyData) : Bool := isTy v .int && !isTy v .bool
theorem e_is_whole (k : Nat) (v : PyData) (S : Sto) : calN T (k + 1) i_is_whole [.d v] S = some (.d (.bool (isWhole v)), S) := by
  show Pv.run (calN T k) d_is_whole [.d v] S = _
  rw [run_def rfl]
  simp only [d_is_whole, m_is_whole, exB, exS, ev, evs, evB, evO, evC, evI, List.map_cons, List.map_nil, List.cons_append, List.nil_append, List.length_cons, List.length_nil, List.replicate_succ, List.replicate_zero, Nat.reduceSub, Nat.reduceAdd, Nat.sub_self, Nat.sub_zero, getV, setV, setA, setsA, parE, Option.map_some, Option.map_none, bd_some, bd_none, val, vals, dat, dats, truE, Option.bind_some, Option.bind_none, tru, List.any_cons, List.any_nil, Bool.or_false, fin_d, take_len, wipeV, wipe1, tgt, setsV, oneD, Nat.zero_add, Nat.add_zero, pv_add_int, pv_sub_int, pv_len_list, pv_len_tup, pv_sl_list, pv_sl_tup, pv_rev_list, pv_rev_tup, pv_el_list, pv_el_tup, pv_ix_list, pv_ix_tup, pv_lt_int, pv_le_int, pv_gt_int, pv_ge_int, pv_int_int, List.length_map, if_true, if_false, Bool.false_eq_true, Bool.true_eq_false, ite_self]
  cases h : isTy v .int <;> simp [isWhole, h, take_len]
theorem e_is_number (k : Nat) (v : PyData) (S : Sto) : calN T (k + 1) i__law_is_number [.d v] S = some (.d (.bool (isWhole v)), S) := by
  show Pv.run (calN T k) d__law_is_number [.d v] S = _
  rw [run_def rfl]
  simp only [d__law_is_number, m__law_is_number, exB, exS, ev, evs, evB, evO, evC, evI, List.map_cons, List.map_nil, List.cons_append, List.nil_append, List.length_cons, List.length_nil, List.replicate_succ, List.replicate_zero, Nat.reduceSub, Nat.reduceAdd, Nat.sub_self, Nat.sub_zero, getV, setV, setA, setsA, parE, Option.map_some, Option.map_none, bd_some, bd_none, val, vals, dat, dats, truE, Option.bind_some, Option.bind_none, tru, List.any_cons, List.any_nil, Bool.or_false, fin_d, take_len, wipeV, wipe1, tgt, setsV, oneD, Nat.zero_add, Nat.add_zero, pv_add_int, pv_sub_int, pv_len_list, pv_len_tup, pv_sl_list, pv_sl_tup, pv_rev_list, pv_rev_tup, pv_el_list, pv_el_tup, pv_ix_list, pv_ix_tup, pv_lt_int, pv_le_int, pv_gt_int, pv_ge_int, pv_int_int, List.length_map, if_true, if_false, Bool.false_eq_true, Bool.true_eq_false, ite_self]
  cases h : isTy v .int <;> simp [isWhole, h, take_len]
def isBet (v : PyData) (lo hi : Int) : Bool := match v with
  | .int i => decide (lo ≤ i) && decide (i ≤ hi)
  | _ => false
theorem e_is_between (k : Nat) (v : PyData) (lo hi : Int) (S : Sto) : calN T (k + 2) i_is_between [.d v, .d (.int lo), .d (.int hi)] S = some (.d (.bool (isBet v lo hi)), S) := by
  show Pv.run (calN T (k + 1)) d_is_between [.d v, .d (.int lo), .d (.int hi)] S = _
  rw [run_def rfl]
  simp only [d_is_between, m_is_between, exB, exS, ev, evs, evB, evO, evC, evI, List.map_cons, List.map_nil, List.cons_append, List.nil_append, List.length_cons, List.length_nil, List.replicate_succ, List.replicate_zero, Nat.reduceSub, Nat.reduceAdd, Nat.sub_self, Nat.sub_zero, getV, setV, setA, setsA, parE, Option.map_some, Option.map_none, bd_some, bd_none, val, vals, dat, dats, truE, Option.bind_some, Option.bind_none, tru, List.any_cons, List.any_nil, Bool.or_false, fin_d, take_len, wipeV, wipe1, tgt, setsV, oneD, Nat.zero_add, Nat.add_zero, pv_add_int, pv_sub_int, pv_len_list, pv_len_tup, pv_sl_list, pv_sl_tup, pv_rev_list, pv_rev_tup, pv_el_list, pv_el_tup, pv_ix_list, pv_ix_tup, pv_lt_int, pv_le_int, pv_gt_int, pv_ge_int, pv_int_int, List.length_map, if_true, if_false, Bool.false_eq_true, Bool.true_eq_false, ite_self, e_is_whole]
  cases v <;> simp [isWhole, isTy, isBet, cmpD, take_len]
  split <;> simp_all [take_len] <;> omega
def isIdx (m : Int) (v : PyData) : Bool := match v with
  | .tuple xs => xs.all fun x => isBet x 0 (m - 1)
  | _ => false
theorem e_are_indexes (k : Nat) (v : PyData) (m : Int) (S : Sto) : calN T (k + 3) i_are_indexes [.d (.int m), .d v] S = some (.d (.bool (isIdx m v)), S) := by
  show Pv.run (calN T (k + 2)) d_are_indexes [.d (.int m), .d v] S = _
  rw [run_def rfl]
  simp only [d_are_indexes, m_are_indexes, exB, exS, ev, evs, evB, evO, evC, evI, List.map_cons, List.map_nil, List.cons_append, List.nil_append, List.length_cons, List.length_nil, List.replicate_succ, List.replicate_zero, Nat.reduceSub, Nat.reduceAdd, Nat.sub_self, Nat.sub_zero, getV, setV, setA, setsA, parE, Option.map_some, Option.map_none, bd_some, bd_none, val, vals, dat, dats, truE, Option.bind_some, Option.bind_none, tru, List.any_cons, List.any_nil, Bool.or_false, fin_d, take_len, wipeV, wipe1, tgt, setsV, oneD, Nat.zero_add, Nat.add_zero, pv_add_int, pv_sub_int, pv_len_list, pv_len_tup, pv_sl_list, pv_sl_tup, pv_rev_list, pv_rev_tup, pv_el_list, pv_el_tup, pv_ix_list, pv_ix_tup, pv_lt_int, pv_le_int, pv_gt_int, pv_ge_int, pv_int_int, List.length_map, if_true, if_false, Bool.false_eq_true, Bool.true_eq_false, ite_self]
  cases v with
  | tuple xs =>
    simp only [isTy, if_pos, elems, Option.map_some, bd_some]
    rw [compL_map (f := fun x => .bool (isBet x 0 (m - 1))) rfl (fun x hx => by simp only [exB, exS, ev, evs, evB, evO, evC, evI, List.map_cons, List.map_nil, List.cons_append, List.nil_append, List.length_cons, List.length_nil, List.replicate_succ, List.replicate_zero, Nat.reduceSub, Nat.reduceAdd, Nat.sub_self, Nat.sub_zero, getV, setV, setA, setsA, parE, Option.map_some, Option.map_none, bd_some, bd_none, val, vals, dat, dats, truE, Option.bind_some, Option.bind_none, tru, List.any_cons, List.any_nil, Bool.or_false, fin_d, take_len, wipeV, wipe1, tgt, setsV, oneD, Nat.zero_add, Nat.add_zero, pv_add_int, pv_sub_int, pv_len_list, pv_len_tup, pv_sl_list, pv_sl_tup, pv_rev_list, pv_rev_tup, pv_el_list, pv_el_tup, pv_ix_list, pv_ix_tup, pv_lt_int, pv_le_int, pv_gt_int, pv_ge_int, pv_int_int, List.length_map, if_true, if_false, Bool.false_eq_true, Bool.true_eq_false, ite_self, binD, e_is_between, if_pos])]
    simp only [bd_some, exB, exS, ev, evs, evB, evO, evC, evI, List.map_cons, List.map_nil, List.cons_append, List.nil_append, List.length_cons, List.length_nil, List.replicate_succ, List.replicate_zero, Nat.reduceSub, Nat.reduceAdd, Nat.sub_self, Nat.sub_zero, getV, setV, setA, setsA, parE, Option.map_some, Option.map_none, bd_some, bd_none, val, vals, dat, dats, truE, Option.bind_some, Option.bind_none, tru, List.any_cons, List.any_nil, Bool.or_false, fin_d, take_len, wipeV, wipe1, tgt, setsV, oneD, Nat.zero_add, Nat.add_zero, pv_add_int, pv_sub_int, pv_len_list, pv_len_tup, pv_sl_list, pv_sl_tup, pv_rev_list, pv_rev_tup, pv_el_list, pv_el_tup, pv_ix_list, pv_ix_tup, pv_lt_int, pv_le_int, pv_gt_int, pv_ge_int, pv_int_int, List.length_map, if_true, if_false, Bool.false_eq_true, Bool.true_eq_false, ite_self, blt_all, isIdx]
  | _ => simp [isTy, isIdx, take_len]
/-! ### no two alike -/
def unlike (ns : List Int) : Bool := ns.zipIdx.all fun p => !decide (p.1 ∈ ns.take p.2)
theorem unlike_iff {ns : List Int} : unlike ns = true ↔ ns.Nodup := by
  unfold unlike
  rw [List.all_eq_true]
  constructor
  · intro h
    rw [List.Nodup, List.pairwise_iff_getElem]
    intro i j hi hj hij e
    have q := h (ns[j], j) (by rw [List.mem_zipIdx_iff_getElem?]; simp)
    simp only [Bool.not_eq_true', decide_eq_false_iff_not] at q
    refine q ?_
    rw [List.mem_take_iff_getElem]
    exact ⟨i, by omega, e⟩
  · intro h p hp
    obtain ⟨a, j⟩ := p
    rw [List.mem_zipIdx_iff_getElem?] at hp
    simp only [Bool.not_eq_true', decide_eq_false_iff_not]
    intro q
    rw [List.mem_take_iff_getElem] at q
    obtain ⟨i, hi, e⟩ := q
    obtain ⟨hj, e2⟩ := List.getElem?_eq_some_iff.mp hp
    have e3 : ns[i]? = ns[j]? := by
      rw [hp, List.getElem?_eq_getElem (by omega), e]
    have := (List.getElem?_inj (by omega) h).mp e3
    omega
theorem e_are_unlike (k : Nat) (ns : List Int) (S : Sto) : calN T (k + 1) i_are_unlike [.d (tupI ns)] S = some (.d (.bool (unlike ns)), S) := by
  show Pv.run (calN T k) d_are_unlike [.d (tupI ns)] S = _
  rw [run_def rfl]
  simp only [d_are_unlike, m_are_unlike, exB, exS, ev, evs, evB, evO, evC, evI, List.map_cons, List.map_nil, List.cons_append, List.nil_append, List.length_cons, List.length_nil, List.replicate_succ, List.replicate_zero, Nat.reduceSub, Nat.reduceAdd, Nat.sub_self, Nat.sub_zero, getV, setV, setA, setsA, parE, Option.map_some, Option.map_none, bd_some, bd_none, val, vals, dat, dats, truE, Option.bind_some, Option.bind_none, tru, List.any_cons, List.any_nil, Bool.or_false, fin_d, take_len, wipeV, wipe1, tgt, setsV, oneD, Nat.zero_add, Nat.add_zero, pv_add_int, pv_sub_int, pv_len_list, pv_len_tup, pv_sl_list, pv_sl_tup, pv_rev_list, pv_rev_tup, pv_el_list, pv_el_tup, pv_ix_list, pv_ix_tup, pv_lt_int, pv_le_int, pv_gt_int, pv_ge_int, pv_int_int, List.length_map, if_true, if_false, Bool.false_eq_true, Bool.true_eq_false, ite_self, elems]
  rw [List.zipIdx_map, List.map_map]
  rw [compL_map (f := fun x => match x with
    | .tuple [.int i, .int a] => .bool (!decide (a ∈ ns.take i.toNat))
    | _ => .none) rfl (fun x hx => by
      obtain ⟨⟨a, j⟩, hp, rfl⟩ := List.mem_map.mp hx
      simp only [Function.comp, Prod.map, id, exB, exS, ev, evs, evB, evO, evC, evI, List.map_cons, List.map_nil, List.cons_append, List.nil_append, List.length_cons, List.length_nil, List.replicate_succ, List.replicate_zero, Nat.reduceSub, Nat.reduceAdd, Nat.sub_self, Nat.sub_zero, getV, setV, setA, setsA, parE, Option.map_some, Option.map_none, bd_some, bd_none, val, vals, dat, dats, truE, Option.bind_some, Option.bind_none, tru, List.any_cons, List.any_nil, Bool.or_false, fin_d, take_len, wipeV, wipe1, tgt, setsV, oneD, Nat.zero_add, Nat.add_zero, pv_add_int, pv_sub_int, pv_len_list, pv_len_tup, pv_sl_list, pv_sl_tup, pv_rev_list, pv_rev_tup, pv_el_list, pv_el_tup, pv_ix_list, pv_ix_tup, pv_lt_int, pv_le_int, pv_gt_int, pv_ge_int, pv_int_int, List.length_map, if_true, if_false, Bool.false_eq_true, Bool.true_eq_false, ite_self, slD, cut_to, ← List.map_take, notin_tupI, Int.toNat_natCast, if_pos])]
  simp only [exB, exS, ev, evs, evB, evO, evC, evI, List.map_cons, List.map_nil, List.cons_append, List.nil_append, List.length_cons, List.length_nil, List.replicate_succ, List.replicate_zero, Nat.reduceSub, Nat.reduceAdd, Nat.sub_self, Nat.sub_zero, getV, setV, setA, setsA, parE, Option.map_some, Option.map_none, bd_some, bd_none, val, vals, dat, dats, truE, Option.bind_some, Option.bind_none, tru, List.any_cons, List.any_nil, Bool.or_false, fin_d, take_len, wipeV, wipe1, tgt, setsV, oneD, Nat.zero_add, Nat.add_zero, pv_add_int, pv_sub_int, pv_len_list, pv_len_tup, pv_sl_list, pv_sl_tup, pv_rev_list, pv_rev_tup, pv_el_list, pv_el_tup, pv_ix_list, pv_ix_tup, pv_lt_int, pv_le_int, pv_gt_int, pv_ge_int, pv_int_int, List.length_map, if_true, if_false, Bool.false_eq_true, Bool.true_eq_false, ite_self, List.map_map]
  have e : ((fun x => match x with
    | PyData.tuple [.int i, .int a] => PyData.bool (!decide (a ∈ ns.take i.toNat))
    | _ => .none) ∘ (fun p => PyData.tuple [.int (p.2 : Nat), p.1]) ∘ Prod.map PyData.int id : Int × Nat → PyData) = fun p => .bool (!decide (p.1 ∈ ns.take p.2)) := by
    funext p
    simp [Prod.map]
  rw [e, blt_all]
  simp only [exB, exS, ev, evs, evB, evO, evC, evI, List.map_cons, List.map_nil, List.cons_append, List.nil_append, List.length_cons, List.length_nil, List.replicate_succ, List.replicate_zero, Nat.reduceSub, Nat.reduceAdd, Nat.sub_self, Nat.sub_zero, getV, setV, setA, setsA, parE, Option.map_some, Option.map_none, bd_some, bd_none, val, vals, dat, dats, truE, Option.bind_some, Option.bind_none, tru, List.any_cons, List.any_nil, Bool.or_false, fin_d, take_len, wipeV, wipe1, tgt, setsV, oneD, Nat.zero_add, Nat.add_zero, pv_add_int, pv_sub_int, pv_len_list, pv_len_tup, pv_sl_list, pv_sl_tup, pv_rev_list, pv_rev_tup, pv_el_list, pv_el_tup, pv_ix_list, pv_ix_tup, pv_lt_int, pv_le_int, pv_gt_int, pv_ge_int, pv_int_int, List.length_map, if_true, if_false, Bool.false_eq_true, Bool.true_eq_false, ite_self, unlike]
/-! ### orders -/
noncomputable def isOrd (n : Nat) (v : PyData) : Bool := match v with
  | .tuple xs => (match intsD xs with
    | some ns => decide (Ord n ns)
    | none => false)
  | _ => false
theorem bet_ints {m : Int} : ∀ {xs : List PyData}, (xs.all fun x => isBet x 0 (m - 1)) = true → ∃ ns : List Int, xs = ns.map PyData.int ∧ ∀ x ∈ ns, 0 ≤ x ∧ x < m
  | [], _ => ⟨[], rfl, fun x hx => by cases hx⟩
  | x :: xs, h => by
    rw [List.all_cons, Bool.and_eq_true] at h
    obtain ⟨ns, rfl, h2⟩ := bet_ints h.2
    cases x with
    | int i =>
      refine ⟨i :: ns, rfl, fun y hy => ?_⟩
      rcases List.mem_cons.mp hy with e | hy
      · have q := h.1
        simp only [isBet, Bool.and_eq_true, decide_eq_true_eq] at q
        omega
      · exact h2 y hy
    | _ => exact absurd h.1 (by simp [isBet])
theorem bet_all {m : Int} {ns : List Int} (h : ∀ x ∈ ns, 0 ≤ x ∧ x < m) : ((ns.map PyData.int).all fun x => isBet x 0 (m - 1)) = true := by
  rw [List.all_eq_true]
  intro x hx
  obtain ⟨i, hi, rfl⟩ := List.mem_map.mp hx
  have := h i hi
  simp only [isBet, Bool.and_eq_true, decide_eq_true_eq]
  omega
theorem isOrd_true {n : Nat} {v : PyData} : isOrd n v = true ↔ ∃ ns, v = tupI ns ∧ Ord n ns := by
  constructor
  · intro h
    unfold isOrd at h
    split at h
    · split at h
      · rename_i ns e
        exact ⟨ns, by rw [ints_inv e], of_decide_eq_true h⟩
      · cases h
    · cases h
  · rintro ⟨ns, rfl, h⟩
    simp only [isOrd, ints_ok, decide_eq_true h]
theorem e_is_order_by (k : Nat) (n : Nat) (v : PyData) (S : Sto) : calN T (k + 4) i_is_order_by [.d (.int n), .d v] S = some (.d (.bool (isOrd n v)), S) := by
  show Pv.run (calN T (k + 3)) d_is_order_by [.d (.int n), .d v] S = _
  rw [run_def rfl]
  simp only [d_is_order_by, m_is_order_by, exB, exS, ev, evs, evB, evO, evC, evI, List.map_cons, List.map_nil, List.cons_append, List.nil_append, List.length_cons, List.length_nil, List.replicate_succ, List.replicate_zero, Nat.reduceSub, Nat.reduceAdd, Nat.sub_self, Nat.sub_zero, getV, setV, setA, setsA, parE, Option.map_some, Option.map_none, bd_some, bd_none, val, vals, dat, dats, truE, Option.bind_some, Option.bind_none, tru, List.any_cons, List.any_nil, Bool.or_false, fin_d, take_len, wipeV, wipe1, tgt, setsV, oneD, Nat.zero_add, Nat.add_zero, pv_add_int, pv_sub_int, pv_len_list, pv_len_tup, pv_sl_list, pv_sl_tup, pv_rev_list, pv_rev_tup, pv_el_list, pv_el_tup, pv_ix_list, pv_ix_tup, pv_lt_int, pv_le_int, pv_gt_int, pv_ge_int, pv_int_int, List.length_map, if_true, if_false, Bool.false_eq_true, Bool.true_eq_false, ite_self, e_are_indexes]
  cases h : isIdx n v with
  | false =>
    have e : isOrd n v = false := by
      rw [Bool.eq_false_iff]
      intro q
      obtain ⟨ns, rfl, q2⟩ := isOrd_true.mp q
      have := bet_all (m := n) (ord_iff.mp q2).1
      rw [show isIdx n (tupI ns) = true from this] at h
      cases h
    simp [e, take_len]
  | true =>
    cases v with
    | tuple xs =>
      obtain ⟨ns, rfl, hb⟩ := bet_ints (show (xs.all fun x => isBet x 0 ((n : Int) - 1)) = true from h)
      have eu : calN T (k + 3) i_are_unlike [.d (.tuple (ns.map PyData.int))] S = some (.d (.bool (unlike ns)), S) := e_are_unlike (k + 2) ns S
      by_cases hl : ns.length = n
      · have e : isOrd n (tupI ns) = unlike ns := by
          rw [Bool.eq_iff_iff, isOrd_true, unlike_iff]
          constructor
          · rintro ⟨ms, e, q⟩
            have : ns = ms := by
              have := congrArg intsD (PyData.tuple.inj e)
              rw [ints_ok, ints_ok] at this
              exact Option.some.inj this
            subst this
            exact (ord_iff.mp q).2.2
          · intro q
            exact ⟨ns, rfl, ord_iff.mpr ⟨hb, hl, q⟩⟩
        simp only [if_pos, bltD, exB, exS, ev, evs, evB, evO, evC, evI, List.map_cons, List.map_nil, List.cons_append, List.nil_append, List.length_cons, List.length_nil, List.replicate_succ, List.replicate_zero, Nat.reduceSub, Nat.reduceAdd, Nat.sub_self, Nat.sub_zero, getV, setV, setA, setsA, parE, Option.map_some, Option.map_none, bd_some, bd_none, val, vals, dat, dats, truE, Option.bind_some, Option.bind_none, tru, List.any_cons, List.any_nil, Bool.or_false, fin_d, take_len, wipeV, wipe1, tgt, setsV, oneD, Nat.zero_add, Nat.add_zero, pv_add_int, pv_sub_int, pv_len_list, pv_len_tup, pv_sl_list, pv_sl_tup, pv_rev_list, pv_rev_tup, pv_el_list, pv_el_tup, pv_ix_list, pv_ix_tup, pv_lt_int, pv_le_int, pv_gt_int, pv_ge_int, pv_int_int, List.length_map, if_true, if_false, Bool.false_eq_true, Bool.true_eq_false, ite_self, cmpD, shp_int, and_self, eqv_int, List.length_map, hl, beq_self_eq_true, eu, e]
      · have e : isOrd n (tupI ns) = false := by
          rw [Bool.eq_false_iff, Ne, isOrd_true]
          rintro ⟨ms, e, q⟩
          have := congrArg (fun d => match d with | PyData.tuple l => l.length | _ => 0) e
          simp at this
          exact hl (this.trans (ord_iff.mp q).2.1)
        have hl2 : ((ns.length : Int) == (n : Int)) = false := by
          rw [beq_eq_false_iff_ne]
          omega
        simp only [if_pos, bltD, exB, exS, ev, evs, evB, evO, evC, evI, List.map_cons, List.map_nil, List.cons_append, List.nil_append, List.length_cons, List.length_nil, List.replicate_succ, List.replicate_zero, Nat.reduceSub, Nat.reduceAdd, Nat.sub_self, Nat.sub_zero, getV, setV, setA, setsA, parE, Option.map_some, Option.map_none, bd_some, bd_none, val, vals, dat, dats, truE, Option.bind_some, Option.bind_none, tru, List.any_cons, List.any_nil, Bool.or_false, fin_d, take_len, wipeV, wipe1, tgt, setsV, oneD, Nat.zero_add, Nat.add_zero, pv_add_int, pv_sub_int, pv_len_list, pv_len_tup, pv_sl_list, pv_sl_tup, pv_rev_list, pv_rev_tup, pv_el_list, pv_el_tup, pv_ix_list, pv_ix_tup, pv_lt_int, pv_le_int, pv_gt_int, pv_ge_int, pv_int_int, List.length_map, if_true, if_false, Bool.false_eq_true, Bool.true_eq_false, ite_self, cmpD, shp_int, and_self, eqv_int, List.length_map, hl2, e, Bool.false_eq_true, if_false]
    | _ => cases h
end K79
set_option maxRecDepth 100000
set_option maxHeartbeats 4000000
namespace K79
open PySem PySem.Spec PyProof.Rows Pv
/-! ### rising -/
def riseB (ns : List Int) : Bool := (List.range (ns.length - 1)).all fun k => decide (ns.getD k 0 < ns.getD (k + 1) 0)
theorem rng_ints (l : List Nat) (m : Int) : (l.map fun (k : Nat) => PyData.int (m + (k : Int))) = l.map fun (k : Nat) => PyData.int (m + (k : Int)) := rfl
theorem e_are_rising (k : Nat) (ns : List Int) (hl : ns.length ≤ 100) (S : Sto) : calN T (k + 1) i_are_rising [.d (lstI ns)] S = some (.d (.bool (riseB ns)), S) := by
  show Pv.run (calN T k) d_are_rising [.d (lstI ns)] S = _
  rw [run_def rfl]
  simp only [d_are_rising, m_are_rising, exB, exS, ev, evs, evB, evO, evC, evI, List.map_cons, List.map_nil, List.cons_append, List.nil_append, List.length_cons, List.length_nil, List.replicate_succ, List.replicate_zero, Nat.reduceSub, Nat.reduceAdd, Nat.sub_self, Nat.sub_zero, getV, setV, setA, setsA, parE, Option.map_some, Option.map_none, bd_some, bd_none, val, vals, dat, dats, truE, Option.bind_some, Option.bind_none, tru, List.any_cons, List.any_nil, Bool.or_false, fin_d, take_len, wipeV, wipe1, tgt, setsV, oneD, Nat.zero_add, Nat.add_zero, pv_add_int, pv_sub_int, pv_len_list, pv_len_tup, pv_sl_list, pv_sl_tup, pv_rev_list, pv_rev_tup, pv_el_list, pv_el_tup, pv_ix_list, pv_ix_tup, pv_lt_int, pv_le_int, pv_gt_int, pv_ge_int, pv_int_int, List.length_map, if_true, if_false, Bool.false_eq_true, Bool.true_eq_false, ite_self, bltD, List.length_map]
  rw [if_pos (by omega)]
  simp only [bd_some]
  rw [compL_map (f := fun x => match x with
    | .int i => .bool (decide (ns.getD (i - 1).toNat 0 < ns.getD i.toNat 0))
    | _ => .none) rfl (fun x hx => by
      obtain ⟨j, hj, rfl⟩ := List.mem_map.mp hx
      rw [List.mem_range] at hj
      have e1 : atD (ns.map PyData.int) (1 + (j : Int) - 1) = some (.int (ns.getD j 0)) := by
        rw [show (1 + (j : Int) - 1) = (j : Int) by omega]
        exact at_ints ns j (by omega)
      have e2 : atD (ns.map PyData.int) (1 + (j : Int)) = some (.int (ns.getD (j + 1) 0)) := by
        rw [show (1 + (j : Int)) = ((j + 1 : Nat) : Int) by omega]
        exact at_ints ns (j + 1) (by omega)
      have e3 : (1 + (j : Int) - 1).toNat = j := by omega
      have e4 : (1 + (j : Int)).toNat = j + 1 := by omega
      simp only [exB, exS, ev, evs, evB, evO, evC, evI, List.map_cons, List.map_nil, List.cons_append, List.nil_append, List.length_cons, List.length_nil, List.replicate_succ, List.replicate_zero, Nat.reduceSub, Nat.reduceAdd, Nat.sub_self, Nat.sub_zero, getV, setV, setA, setsA, parE, Option.map_some, Option.map_none, bd_some, bd_none, val, vals, dat, dats, truE, Option.bind_some, Option.bind_none, tru, List.any_cons, List.any_nil, Bool.or_false, fin_d, take_len, wipeV, wipe1, tgt, setsV, oneD, Nat.zero_add, Nat.add_zero, pv_add_int, pv_sub_int, pv_len_list, pv_len_tup, pv_sl_list, pv_sl_tup, pv_rev_list, pv_rev_tup, pv_el_list, pv_el_tup, pv_ix_list, pv_ix_tup, pv_lt_int, pv_le_int, pv_gt_int, pv_ge_int, pv_int_int, List.length_map, if_true, if_false, Bool.false_eq_true, Bool.true_eq_false, ite_self, binD, idxD, e1, e2, cmpD, if_pos, e3, e4])]
  simp only [exB, exS, ev, evs, evB, evO, evC, evI, List.map_cons, List.map_nil, List.cons_append, List.nil_append, List.length_cons, List.length_nil, List.replicate_succ, List.replicate_zero, Nat.reduceSub, Nat.reduceAdd, Nat.sub_self, Nat.sub_zero, getV, setV, setA, setsA, parE, Option.map_some, Option.map_none, bd_some, bd_none, val, vals, dat, dats, truE, Option.bind_some, Option.bind_none, tru, List.any_cons, List.any_nil, Bool.or_false, fin_d, take_len, wipeV, wipe1, tgt, setsV, oneD, Nat.zero_add, Nat.add_zero, pv_add_int, pv_sub_int, pv_len_list, pv_len_tup, pv_sl_list, pv_sl_tup, pv_rev_list, pv_rev_tup, pv_el_list, pv_el_tup, pv_ix_list, pv_ix_tup, pv_lt_int, pv_le_int, pv_gt_int, pv_ge_int, pv_int_int, List.length_map, if_true, if_false, Bool.false_eq_true, Bool.true_eq_false, ite_self, List.map_map]
  have e : ((fun x => match x with
    | PyData.int i => PyData.bool (decide (ns.getD (i - 1).toNat 0 < ns.getD i.toNat 0))
    | _ => .none) ∘ (fun (k : Nat) => PyData.int (1 + (k : Int)))) = fun k => .bool (decide (ns.getD k 0 < ns.getD (k + 1) 0)) := by
    funext j
    have e3 : (1 + (j : Int) - 1).toNat = j := by omega
    have e4 : (1 + (j : Int)).toNat = j + 1 := by omega
    simp only [Function.comp, e3, e4]
  rw [e]
  have q := blt_all (List.range ((ns.length : Int) - 1).toNat) fun k => decide (ns.getD k 0 < ns.getD (k + 1) 0)
  simp only [bltD] at q
  simp only [q, exB, exS, ev, evs, evB, evO, evC, evI, List.map_cons, List.map_nil, List.cons_append, List.nil_append, List.length_cons, List.length_nil, List.replicate_succ, List.replicate_zero, Nat.reduceSub, Nat.reduceAdd, Nat.sub_self, Nat.sub_zero, getV, setV, setA, setsA, parE, Option.map_some, Option.map_none, bd_some, bd_none, val, vals, dat, dats, truE, Option.bind_some, Option.bind_none, tru, List.any_cons, List.any_nil, Bool.or_false, fin_d, take_len, wipeV, wipe1, tgt, setsV, oneD, Nat.zero_add, Nat.add_zero, pv_add_int, pv_sub_int, pv_len_list, pv_len_tup, pv_sl_list, pv_sl_tup, pv_rev_list, pv_rev_tup, pv_el_list, pv_el_tup, pv_ix_list, pv_ix_tup, pv_lt_int, pv_le_int, pv_gt_int, pv_ge_int, pv_int_int, List.length_map, if_true, if_false, Bool.false_eq_true, Bool.true_eq_false, ite_self, riseB]
  rw [show ((ns.length : Int) - 1).toNat = ns.length - 1 by omega]
theorem rise_take {tr : List Int} {t : Nat} (h : t < tr.length) : riseB (tr.take (t + 1)) = (List.range t).all fun k => decide (tr.getD k 0 < tr.getD (k + 1) 0) := by
  unfold riseB
  rw [List.length_take, Nat.min_eq_left (by omega), Nat.add_sub_cancel, Bool.eq_iff_iff, List.all_eq_true, List.all_eq_true]
  have e : ∀ k ∈ List.range t, (tr.take (t + 1)).getD k 0 = tr.getD k 0 ∧ (tr.take (t + 1)).getD (k + 1) 0 = tr.getD (k + 1) 0 := by
    intro k hk
    rw [List.mem_range] at hk
    simp only [List.getD_eq_getElem?_getD]
    rw [List.getElem?_take_of_lt (by omega), List.getElem?_take_of_lt (by omega)]
    exact ⟨rfl, rfl⟩
  constructor <;> intro q k hk <;> have := q k hk <;> rw [(e k hk).1, (e k hk).2] at * <;> exact this
theorem rise_rev {tr : List Int} {t : Nat} (h : t < tr.length) : riseB (tr.drop t).reverse = (List.range (tr.length - 1 - t)).all fun k => decide (tr.getD (t + k + 1) 0 < tr.getD (t + k) 0) := by
  have g : ∀ j, j < tr.length - t → ((tr.drop t).reverse).getD j 0 = tr.getD (tr.length - 1 - j) 0 := by
    intro j hj
    simp only [List.getD_eq_getElem?_getD]
    rw [List.getElem?_reverse (by rw [List.length_drop]; exact hj), List.length_drop, List.getElem?_drop]
    rw [show t + (tr.length - t - 1 - j) = tr.length - 1 - j by omega]
  unfold riseB
  rw [List.length_reverse, List.length_drop, Bool.eq_iff_iff, List.all_eq_true, List.all_eq_true]
  simp only [List.mem_range, decide_eq_true_eq]
  constructor
  · intro q k hk
    have := q (tr.length - 2 - t - k) (by omega)
    rw [g _ (by omega), g _ (by omega)] at this
    rw [show tr.length - 1 - (tr.length - 2 - t - k) = t + k + 1 by omega, show tr.length - 1 - (tr.length - 2 - t - k + 1) = t + k by omega] at this
    exact this
  · intro q k hk
    have := q (tr.length - 2 - t - k) (by omega)
    rw [g _ (by omega), g _ (by omega)]
    rw [show t + (tr.length - 2 - t - k) + 1 = tr.length - 1 - k by omega, show t + (tr.length - 2 - t - k) = tr.length - 1 - (k + 1) by omega] at this
    exact this
/-! ### where the places stand -/
def stepsOf (os ns : List Int) : List Int := ns.map fun a => (os.idxOf a : Int)
def turnOf (os ns : List Int) : List Int := (stepsOf os ns).drop ((stepsOf os ns).idxOf 0) ++ (stepsOf os ns).take ((stepsOf os ns).idxOf 0)
theorem ord_steps {n : Nat} {os ns : List Int} (ho : Ord n os) (hn : Ord n ns) : Ord n (stepsOf os ns) := by
  obtain ⟨o1, o2, o3⟩ := ord_iff.mp ho
  obtain ⟨n1, n2, n3⟩ := ord_iff.mp hn
  have hm : ∀ a ∈ ns, a ∈ os := fun a ha => ho.mem_iff.mpr (Pv.mem_upTo.mpr (n1 a ha))
  refine ord_iff.mpr ⟨fun x hx => ?_, by unfold stepsOf; rw [List.length_map, n2], ?_⟩
  · obtain ⟨a, ha, rfl⟩ := List.mem_map.mp hx
    have := List.idxOf_lt_length_iff.mpr (hm a ha)
    omega
  · unfold stepsOf
    rw [List.Nodup, List.pairwise_map]
    refine List.Pairwise.imp_of_mem (fun {a b} ha hb ne e => ne ?_) n3
    have e : os.idxOf a = os.idxOf b := by omega
    have h1 := List.getElem_idxOf (List.idxOf_lt_length_iff.mpr (hm a ha))
    have h2 := List.getElem_idxOf (List.idxOf_lt_length_iff.mpr (hm b hb))
    rw [← h1, ← h2]
    simp only [e]
theorem turn_perm (os ns : List Int) : (turnOf os ns).Perm (stepsOf os ns) := by
  unfold turnOf
  exact List.perm_append_comm.trans (by rw [List.take_append_drop])
theorem turn_ord {n : Nat} {os ns : List Int} (ho : Ord n os) (hn : Ord n ns) : Ord n (turnOf os ns) := (turn_perm os ns).trans (ord_steps ho hn)
def topOf (os ns : List Int) : Nat := (turnOf os ns).idxOf ((os.length : Int) - 1)
def pyrB (os ns : List Int) : Bool := riseB ((turnOf os ns).take (topOf os ns + 1)) && riseB ((turnOf os ns).drop (topOf os ns)).reverse
noncomputable def pyr (os : List Int) (v : PyData) : Bool := match v with
  | .tuple xs => (match intsD xs with
    | some ns => decide (Ord os.length ns) && pyrB os ns
    | none => false)
  | _ => false
def posD (os : List Int) : PyData → PyData
  | .int a => .int (os.idxOf a)
  | _ => .none
/-- what both texts reckon first -/
theorem steps_map {os ns : List Int} (hm : ∀ a ∈ ns, a ∈ os) : ∀ x ∈ ns.map PyData.int, indexD (tupI os) x = some (posD os x) := by
  intro x hx
  obtain ⟨a, ha, rfl⟩ := List.mem_map.mp hx
  exact ix_tupI a os (hm a ha)
theorem steps_eq {os ns : List Int} : (ns.map PyData.int).map (posD os) = (stepsOf os ns).map PyData.int := by
  unfold stepsOf
  rw [List.map_map, List.map_map]
  rfl
theorem pyr_tup {os ns : List Int} (hn : Ord os.length ns) : pyr os (tupI ns) = pyrB os ns := by
  simp only [pyr, ints_ok, decide_eq_true hn, Bool.true_and]
theorem pyr_no {os : List Int} {v : PyData} (h : isOrd os.length v = false) : pyr os v = false := by
  unfold pyr
  unfold isOrd at h
  split
  · split
    · rename_i xs _ ns e
      simp only [e] at h
      rw [h, Bool.false_and]
    · rfl
  · rfl
theorem e_is_pyramid_by (k : Nat) (os : List Int) (ho : Ord os.length os) (h1 : 1 ≤ os.length) (h8 : os.length ≤ 8) (v : PyData) (S : Sto) : calN T (k + 5) i_is_pyramid_by [.d (tupI os), .d v] S = some (.d (.bool (pyr os v)), S) := by
  show Pv.run (calN T (k + 4)) d_is_pyramid_by [.d (tupI os), .d v] S = _
  rw [run_def rfl]
  simp only [d_is_pyramid_by, m_is_pyramid_by, exB, exS, ev, evs, evB, evO, evC, evI, List.map_cons, List.map_nil, List.cons_append, List.nil_append, List.length_cons, List.length_nil, List.replicate_succ, List.replicate_zero, Nat.reduceSub, Nat.reduceAdd, Nat.sub_self, Nat.sub_zero, getV, setV, setA, setsA, parE, Option.map_some, Option.map_none, bd_some, bd_none, val, vals, dat, dats, truE, Option.bind_some, Option.bind_none, tru, List.any_cons, List.any_nil, Bool.or_false, fin_d, take_len, wipeV, wipe1, tgt, setsV, oneD, Nat.zero_add, Nat.add_zero, pv_add_int, pv_sub_int, pv_len_list, pv_len_tup, pv_sl_list, pv_sl_tup, pv_rev_list, pv_rev_tup, pv_el_list, pv_el_tup, pv_ix_list, pv_ix_tup, pv_lt_int, pv_le_int, pv_gt_int, pv_ge_int, pv_int_int, List.length_map, if_true, if_false, Bool.false_eq_true, Bool.true_eq_false, ite_self, bltD, List.length_map, e_is_order_by]
  cases h : isOrd os.length v with
  | false => simp [pyr_no h, take_len]
  | true =>
    obtain ⟨ns, rfl, hn⟩ := isOrd_true.mp h
    have hm : ∀ a ∈ ns, a ∈ os := fun a ha => ho.mem_iff.mpr (hn.mem_iff.mp ha)
    have hs := ord_steps ho hn
    have ht := turn_ord ho hn
    have ls := (ord_iff.mp hs).2.1
    have lt := (ord_iff.mp ht).2.1
    have m0 : (0 : Int) ∈ stepsOf os ns := hs.mem_iff.mpr (Pv.mem_upTo.mpr (by omega))
    have mt : (os.length : Int) - 1 ∈ turnOf os ns := ht.mem_iff.mpr (Pv.mem_upTo.mpr (by omega))
    have htl : topOf os ns < os.length := by
      have := List.idxOf_lt_length_iff.mpr mt
      unfold topOf
      omega
    simp only [Bool.not_true, Bool.false_eq_true, if_false, elems, exB, exS, ev, evs, evB, evO, evC, evI, List.map_cons, List.map_nil, List.cons_append, List.nil_append, List.length_cons, List.length_nil, List.replicate_succ, List.replicate_zero, Nat.reduceSub, Nat.reduceAdd, Nat.sub_self, Nat.sub_zero, getV, setV, setA, setsA, parE, Option.map_some, Option.map_none, bd_some, bd_none, val, vals, dat, dats, truE, Option.bind_some, Option.bind_none, tru, List.any_cons, List.any_nil, Bool.or_false, fin_d, take_len, wipeV, wipe1, tgt, setsV, oneD, Nat.zero_add, Nat.add_zero, pv_add_int, pv_sub_int, pv_len_list, pv_len_tup, pv_sl_list, pv_sl_tup, pv_rev_list, pv_rev_tup, pv_el_list, pv_el_tup, pv_ix_list, pv_ix_tup, pv_lt_int, pv_le_int, pv_gt_int, pv_ge_int, pv_int_int, List.length_map, if_true, if_false, Bool.false_eq_true, Bool.true_eq_false, ite_self]
    rw [compL_map (f := posD os) rfl (fun x hx => by simp only [exB, exS, ev, evs, evB, evO, evC, evI, List.map_cons, List.map_nil, List.cons_append, List.nil_append, List.length_cons, List.length_nil, List.replicate_succ, List.replicate_zero, Nat.reduceSub, Nat.reduceAdd, Nat.sub_self, Nat.sub_zero, getV, setV, setA, setsA, parE, Option.map_some, Option.map_none, bd_some, bd_none, val, vals, dat, dats, truE, Option.bind_some, Option.bind_none, tru, List.any_cons, List.any_nil, Bool.or_false, fin_d, take_len, wipeV, wipe1, tgt, setsV, oneD, Nat.zero_add, Nat.add_zero, pv_add_int, pv_sub_int, pv_len_list, pv_len_tup, pv_sl_list, pv_sl_tup, pv_rev_list, pv_rev_tup, pv_el_list, pv_el_tup, pv_ix_list, pv_ix_tup, pv_lt_int, pv_le_int, pv_gt_int, pv_ge_int, pv_int_int, List.length_map, if_true, if_false, Bool.false_eq_true, Bool.true_eq_false, ite_self, steps_map hm x hx, if_pos])]
    simp only [exB, exS, ev, evs, evB, evO, evC, evI, List.map_cons, List.map_nil, List.cons_append, List.nil_append, List.length_cons, List.length_nil, List.replicate_succ, List.replicate_zero, Nat.reduceSub, Nat.reduceAdd, Nat.sub_self, Nat.sub_zero, getV, setV, setA, setsA, parE, Option.map_some, Option.map_none, bd_some, bd_none, val, vals, dat, dats, truE, Option.bind_some, Option.bind_none, tru, List.any_cons, List.any_nil, Bool.or_false, fin_d, take_len, wipeV, wipe1, tgt, setsV, oneD, Nat.zero_add, Nat.add_zero, pv_add_int, pv_sub_int, pv_len_list, pv_len_tup, pv_sl_list, pv_sl_tup, pv_rev_list, pv_rev_tup, pv_el_list, pv_el_tup, pv_ix_list, pv_ix_tup, pv_lt_int, pv_le_int, pv_gt_int, pv_ge_int, pv_int_int, List.length_map, if_true, if_false, Bool.false_eq_true, Bool.true_eq_false, ite_self, steps_eq, ix_lstI 0 _ m0, slD, cut_from, cut_to, ← List.map_drop, ← List.map_take]
    rw [pv_list_add _ _ (by simp only [List.length_map, List.length_drop, List.length_take]; omega)]
    simp only [exB, exS, ev, evs, evB, evO, evC, evI, List.map_cons, List.map_nil, List.cons_append, List.nil_append, List.length_cons, List.length_nil, List.replicate_succ, List.replicate_zero, Nat.reduceSub, Nat.reduceAdd, Nat.sub_self, Nat.sub_zero, getV, setV, setA, setsA, parE, Option.map_some, Option.map_none, bd_some, bd_none, val, vals, dat, dats, truE, Option.bind_some, Option.bind_none, tru, List.any_cons, List.any_nil, Bool.or_false, fin_d, take_len, wipeV, wipe1, tgt, setsV, oneD, Nat.zero_add, Nat.add_zero, pv_add_int, pv_sub_int, pv_len_list, pv_len_tup, pv_sl_list, pv_sl_tup, pv_rev_list, pv_rev_tup, pv_el_list, pv_el_tup, pv_ix_list, pv_ix_tup, pv_lt_int, pv_le_int, pv_gt_int, pv_ge_int, pv_int_int, List.length_map, if_true, if_false, Bool.false_eq_true, Bool.true_eq_false, ite_self, ← List.map_append]
    have e1 : indexD (.list (((stepsOf os ns).drop ((stepsOf os ns).idxOf 0) ++ (stepsOf os ns).take ((stepsOf os ns).idxOf 0)).map PyData.int)) (.int ((os.length : Int) - 1)) = some (.int (topOf os ns)) := ix_lstI _ _ mt
    simp only [exB, exS, ev, evs, evB, evO, evC, evI, List.map_cons, List.map_nil, List.cons_append, List.nil_append, List.length_cons, List.length_nil, List.replicate_succ, List.replicate_zero, Nat.reduceSub, Nat.reduceAdd, Nat.sub_self, Nat.sub_zero, getV, setV, setA, setsA, parE, Option.map_some, Option.map_none, bd_some, bd_none, val, vals, dat, dats, truE, Option.bind_some, Option.bind_none, tru, List.any_cons, List.any_nil, Bool.or_false, fin_d, take_len, wipeV, wipe1, tgt, setsV, oneD, Nat.zero_add, Nat.add_zero, pv_add_int, pv_sub_int, pv_len_list, pv_len_tup, pv_sl_list, pv_sl_tup, pv_rev_list, pv_rev_tup, pv_el_list, pv_el_tup, pv_ix_list, pv_ix_tup, pv_lt_int, pv_le_int, pv_gt_int, pv_ge_int, pv_int_int, List.length_map, if_true, if_false, Bool.false_eq_true, Bool.true_eq_false, ite_self, e1]
    have et : (stepsOf os ns).drop ((stepsOf os ns).idxOf 0) ++ (stepsOf os ns).take ((stepsOf os ns).idxOf 0) = turnOf os ns := rfl
    have e2 : ((topOf os ns : Int) + 1) = ((topOf os ns + 1 : Nat) : Int) := by omega
    simp only [et, e2, cut_from, cut_to, ← List.map_drop, ← List.map_take, ← List.map_reverse]
    rw [e_are_rising (k + 3) _ (by simp only [List.length_take]; omega)]
    simp only [exB, exS, ev, evs, evB, evO, evC, evI, List.map_cons, List.map_nil, List.cons_append, List.nil_append, List.length_cons, List.length_nil, List.replicate_succ, List.replicate_zero, Nat.reduceSub, Nat.reduceAdd, Nat.sub_self, Nat.sub_zero, getV, setV, setA, setsA, parE, Option.map_some, Option.map_none, bd_some, bd_none, val, vals, dat, dats, truE, Option.bind_some, Option.bind_none, tru, List.any_cons, List.any_nil, Bool.or_false, fin_d, take_len, wipeV, wipe1, tgt, setsV, oneD, Nat.zero_add, Nat.add_zero, pv_add_int, pv_sub_int, pv_len_list, pv_len_tup, pv_sl_list, pv_sl_tup, pv_rev_list, pv_rev_tup, pv_el_list, pv_el_tup, pv_ix_list, pv_ix_tup, pv_lt_int, pv_le_int, pv_gt_int, pv_ge_int, pv_int_int, List.length_map, if_true, if_false, Bool.false_eq_true, Bool.true_eq_false, ite_self]
    rw [pyr_tup hn]
    unfold pyrB
    cases hr : riseB ((turnOf os ns).take (topOf os ns + 1)) with
    | false => simp [take_len]
    | true =>
      simp only [if_pos, exB, exS, ev, evs, evB, evO, evC, evI, List.map_cons, List.map_nil, List.cons_append, List.nil_append, List.length_cons, List.length_nil, List.replicate_succ, List.replicate_zero, Nat.reduceSub, Nat.reduceAdd, Nat.sub_self, Nat.sub_zero, getV, setV, setA, setsA, parE, Option.map_some, Option.map_none, bd_some, bd_none, val, vals, dat, dats, truE, Option.bind_some, Option.bind_none, tru, List.any_cons, List.any_nil, Bool.or_false, fin_d, take_len, wipeV, wipe1, tgt, setsV, oneD, Nat.zero_add, Nat.add_zero, pv_add_int, pv_sub_int, pv_len_list, pv_len_tup, pv_sl_list, pv_sl_tup, pv_rev_list, pv_rev_tup, pv_el_list, pv_el_tup, pv_ix_list, pv_ix_tup, pv_lt_int, pv_le_int, pv_gt_int, pv_ge_int, pv_int_int, List.length_map, if_true, if_false, Bool.false_eq_true, Bool.true_eq_false, ite_self, cut_from, cut_to, ← List.map_drop, ← List.map_take, ← List.map_reverse]
      rw [e_are_rising (k + 3) _ (by simp only [List.length_reverse, List.length_drop]; omega)]
      simp [take_len]
end K79
set_option maxRecDepth 100000
set_option maxHeartbeats 4000000
namespace K79
open PySem PySem.Spec Pv
def upD (tr : List Int) : PyData → PyData
  | .int i => .bool (decide (tr.getD i.toNat 0 < tr.getD (i.toNat + 1) 0))
  | _ => .none
def dnD (tr : List Int) : PyData → PyData
  | .int i => .bool (decide (tr.getD (i.toNat + 1) 0 < tr.getD i.toNat 0))
  | _ => .none
theorem whole_inv {v : PyData} (h : isWhole v = true) : ∃ i, v = .int i := by
  cases v <;> first | exact ⟨_, rfl⟩ | cases h
theorem whole_all : ∀ {xs : List PyData}, xs.all isWhole = true → ∃ ns : List Int, xs = ns.map PyData.int
  | [], _ => ⟨[], rfl⟩
  | x :: xs, h => by
    rw [List.all_cons, Bool.and_eq_true] at h
    obtain ⟨i, rfl⟩ := whole_inv h.1
    obtain ⟨ns, rfl⟩ := whole_all h.2
    exact ⟨i :: ns, rfl⟩
theorem rng_upTo (n : Nat) : ((List.range (n : Int).toNat).map fun (k : Nat) => PyData.int (k : Int)) = (Pv.upTo n).map PyData.int := by
  unfold Pv.upTo
  rw [List.map_map, Int.toNat_natCast]
  rfl
theorem ne_lists (a b : List Int) : cmpD .NotEq (lstI a) (lstI b) = some (!decide (a = b)) := by
  show (if shp (lstI a) = true ∧ shp (lstI b) = true then some (!PyData.eqvAll (a.map PyData.int) (b.map PyData.int)) else none) = _
  rw [if_pos ⟨shp_lstI a, shp_lstI b⟩, eqvs_ints]
theorem sorted_tup (ns : List Int) : bltD .sorted [.tuple (ns.map PyData.int)] = some (lstI (sortI ns)) := by
  show (intsD (ns.map PyData.int)).map (fun ns => PyData.list ((sortI ns).map .int)) = _
  rw [ints_ok]
  rfl
theorem pyr_not {os : List Int} {v : PyData} (h : ∀ ns, v = tupI ns → ¬ Ord os.length ns) : pyr os v = false := by
  refine pyr_no ?_
  rw [Bool.eq_false_iff, Ne, isOrd_true]
  rintro ⟨ns, e, q⟩
  exact h ns e q
theorem e_law_is_pyramid (k : Nat) (os : List Int) (ho : Ord os.length os) (h1 : 1 ≤ os.length) (h8 : os.length ≤ 8) (v : PyData) (S : Sto) : calN T (k + 5) i__law_is_pyramid [.d (tupI os), .d v] S = some (.d (.bool (pyr os v)), S) := by
  show Pv.run (calN T (k + 4)) d__law_is_pyramid [.d (tupI os), .d v] S = _
  rw [run_def rfl]
  simp only [d__law_is_pyramid, m__law_is_pyramid, exB, exS, ev, evs, evB, evO, evC, evI, List.map_cons, List.map_nil, List.cons_append, List.nil_append, List.length_cons, List.length_nil, List.replicate_succ, List.replicate_zero, Nat.reduceSub, Nat.reduceAdd, Nat.sub_self, Nat.sub_zero, getV, setV, setA, setsA, parE, Option.map_some, Option.map_none, bd_some, bd_none, val, vals, dat, dats, truE, Option.bind_some, Option.bind_none, tru, List.any_cons, List.any_nil, Bool.or_false, fin_d, take_len, wipeV, wipe1, tgt, setsV, oneD, Nat.zero_add, Nat.add_zero, pv_add_int, pv_sub_int, pv_len_list, pv_len_tup, pv_sl_list, pv_sl_tup, pv_rev_list, pv_rev_tup, pv_el_list, pv_el_tup, pv_ix_list, pv_ix_tup, pv_lt_int, pv_le_int, pv_gt_int, pv_ge_int, pv_int_int, List.length_map, if_true, if_false, Bool.false_eq_true, Bool.true_eq_false, ite_self]
  cases v with
  | tuple xs =>
    simp only [isTy, Bool.not_true, Bool.false_eq_true, if_false, exB, exS, ev, evs, evB, evO, evC, evI, List.map_cons, List.map_nil, List.cons_append, List.nil_append, List.length_cons, List.length_nil, List.replicate_succ, List.replicate_zero, Nat.reduceSub, Nat.reduceAdd, Nat.sub_self, Nat.sub_zero, getV, setV, setA, setsA, parE, Option.map_some, Option.map_none, bd_some, bd_none, val, vals, dat, dats, truE, Option.bind_some, Option.bind_none, tru, List.any_cons, List.any_nil, Bool.or_false, fin_d, take_len, wipeV, wipe1, tgt, setsV, oneD, Nat.zero_add, Nat.add_zero, pv_add_int, pv_sub_int, pv_len_list, pv_len_tup, pv_sl_list, pv_sl_tup, pv_rev_list, pv_rev_tup, pv_el_list, pv_el_tup, pv_ix_list, pv_ix_tup, pv_lt_int, pv_le_int, pv_gt_int, pv_ge_int, pv_int_int, List.length_map, if_true, if_false, Bool.false_eq_true, Bool.true_eq_false, ite_self]
    rw [compL_map (f := fun x => .bool (isWhole x)) rfl (fun x hx => by simp only [exB, exS, ev, evs, evB, evO, evC, evI, List.map_cons, List.map_nil, List.cons_append, List.nil_append, List.length_cons, List.length_nil, List.replicate_succ, List.replicate_zero, Nat.reduceSub, Nat.reduceAdd, Nat.sub_self, Nat.sub_zero, getV, setV, setA, setsA, parE, Option.map_some, Option.map_none, bd_some, bd_none, val, vals, dat, dats, truE, Option.bind_some, Option.bind_none, tru, List.any_cons, List.any_nil, Bool.or_false, fin_d, take_len, wipeV, wipe1, tgt, setsV, oneD, Nat.zero_add, Nat.add_zero, pv_add_int, pv_sub_int, pv_len_list, pv_len_tup, pv_sl_list, pv_sl_tup, pv_rev_list, pv_rev_tup, pv_el_list, pv_el_tup, pv_ix_list, pv_ix_tup, pv_lt_int, pv_le_int, pv_gt_int, pv_ge_int, pv_int_int, List.length_map, if_true, if_false, Bool.false_eq_true, Bool.true_eq_false, ite_self, e_is_number, if_pos])]
    simp only [exB, exS, ev, evs, evB, evO, evC, evI, List.map_cons, List.map_nil, List.cons_append, List.nil_append, List.length_cons, List.length_nil, List.replicate_succ, List.replicate_zero, Nat.reduceSub, Nat.reduceAdd, Nat.sub_self, Nat.sub_zero, getV, setV, setA, setsA, parE, Option.map_some, Option.map_none, bd_some, bd_none, val, vals, dat, dats, truE, Option.bind_some, Option.bind_none, tru, List.any_cons, List.any_nil, Bool.or_false, fin_d, take_len, wipeV, wipe1, tgt, setsV, oneD, Nat.zero_add, Nat.add_zero, pv_add_int, pv_sub_int, pv_len_list, pv_len_tup, pv_sl_list, pv_sl_tup, pv_rev_list, pv_rev_tup, pv_el_list, pv_el_tup, pv_ix_list, pv_ix_tup, pv_lt_int, pv_le_int, pv_gt_int, pv_ge_int, pv_int_int, List.length_map, if_true, if_false, Bool.false_eq_true, Bool.true_eq_false, ite_self, blt_all]
    cases hw : xs.all isWhole with
    | false =>
      have e : pyr os (.tuple xs) = false := pyr_not fun ns e _ => by
        cases e
        have : (ns.map PyData.int).all isWhole = true := by
          rw [List.all_map, List.all_eq_true]
          intro x _
          rfl
        rw [hw] at this
        cases this
      simp [e, take_len, tru]
    | true =>
      obtain ⟨ns, rfl⟩ := whole_all hw
      simp only [Bool.not_true, Bool.false_eq_true, if_false, exB, exS, ev, evs, evB, evO, evC, evI, List.map_cons, List.map_nil, List.cons_append, List.nil_append, List.length_cons, List.length_nil, List.replicate_succ, List.replicate_zero, Nat.reduceSub, Nat.reduceAdd, Nat.sub_self, Nat.sub_zero, getV, setV, setA, setsA, parE, Option.map_some, Option.map_none, bd_some, bd_none, val, vals, dat, dats, truE, Option.bind_some, Option.bind_none, tru, List.any_cons, List.any_nil, Bool.or_false, fin_d, take_len, wipeV, wipe1, tgt, setsV, oneD, Nat.zero_add, Nat.add_zero, pv_add_int, pv_sub_int, pv_len_list, pv_len_tup, pv_sl_list, pv_sl_tup, pv_rev_list, pv_rev_tup, pv_el_list, pv_el_tup, pv_ix_list, pv_ix_tup, pv_lt_int, pv_le_int, pv_gt_int, pv_ge_int, pv_int_int, List.length_map, if_true, if_false, Bool.false_eq_true, Bool.true_eq_false, ite_self, sorted_tup]
      rw [if_pos (by omega)]
      simp only [exB, exS, ev, evs, evB, evO, evC, evI, List.map_cons, List.map_nil, List.cons_append, List.nil_append, List.length_cons, List.length_nil, List.replicate_succ, List.replicate_zero, Nat.reduceSub, Nat.reduceAdd, Nat.sub_self, Nat.sub_zero, getV, setV, setA, setsA, parE, Option.map_some, Option.map_none, bd_some, bd_none, val, vals, dat, dats, truE, Option.bind_some, Option.bind_none, tru, List.any_cons, List.any_nil, Bool.or_false, fin_d, take_len, wipeV, wipe1, tgt, setsV, oneD, Nat.zero_add, Nat.add_zero, pv_add_int, pv_sub_int, pv_len_list, pv_len_tup, pv_sl_list, pv_sl_tup, pv_rev_list, pv_rev_tup, pv_el_list, pv_el_tup, pv_ix_list, pv_ix_tup, pv_lt_int, pv_le_int, pv_gt_int, pv_ge_int, pv_int_int, List.length_map, if_true, if_false, Bool.false_eq_true, Bool.true_eq_false, ite_self, rng_upTo, ne_lists]
      by_cases hn : Ord os.length ns
      · have hns : sortI ns = Pv.upTo os.length := ord_sort.mp hn
        have hm : ∀ a ∈ ns, a ∈ os := fun a ha => ho.mem_iff.mpr (hn.mem_iff.mp ha)
        have hs := ord_steps ho hn
        have ht := turn_ord ho hn
        have ls := (ord_iff.mp hs).2.1
        have lt := (ord_iff.mp ht).2.1
        have m0 : (0 : Int) ∈ stepsOf os ns := hs.mem_iff.mpr (Pv.mem_upTo.mpr (by omega))
        have mt : (os.length : Int) - 1 ∈ turnOf os ns := ht.mem_iff.mpr (Pv.mem_upTo.mpr (by omega))
        have htl : topOf os ns < os.length := by
          have := List.idxOf_lt_length_iff.mpr mt
          unfold topOf
          omega
        simp only [hns, decide_true, Bool.not_true, Bool.false_eq_true, if_false, exB, exS, ev, evs, evB, evO, evC, evI, List.map_cons, List.map_nil, List.cons_append, List.nil_append, List.length_cons, List.length_nil, List.replicate_succ, List.replicate_zero, Nat.reduceSub, Nat.reduceAdd, Nat.sub_self, Nat.sub_zero, getV, setV, setA, setsA, parE, Option.map_some, Option.map_none, bd_some, bd_none, val, vals, dat, dats, truE, Option.bind_some, Option.bind_none, tru, List.any_cons, List.any_nil, Bool.or_false, fin_d, take_len, wipeV, wipe1, tgt, setsV, oneD, Nat.zero_add, Nat.add_zero, pv_add_int, pv_sub_int, pv_len_list, pv_len_tup, pv_sl_list, pv_sl_tup, pv_rev_list, pv_rev_tup, pv_el_list, pv_el_tup, pv_ix_list, pv_ix_tup, pv_lt_int, pv_le_int, pv_gt_int, pv_ge_int, pv_int_int, List.length_map, if_true, if_false, Bool.false_eq_true, Bool.true_eq_false, ite_self]
        rw [compL_map (f := posD os) rfl (fun x hx => by simp only [exB, exS, ev, evs, evB, evO, evC, evI, List.map_cons, List.map_nil, List.cons_append, List.nil_append, List.length_cons, List.length_nil, List.replicate_succ, List.replicate_zero, Nat.reduceSub, Nat.reduceAdd, Nat.sub_self, Nat.sub_zero, getV, setV, setA, setsA, parE, Option.map_some, Option.map_none, bd_some, bd_none, val, vals, dat, dats, truE, Option.bind_some, Option.bind_none, tru, List.any_cons, List.any_nil, Bool.or_false, fin_d, take_len, wipeV, wipe1, tgt, setsV, oneD, Nat.zero_add, Nat.add_zero, pv_add_int, pv_sub_int, pv_len_list, pv_len_tup, pv_sl_list, pv_sl_tup, pv_rev_list, pv_rev_tup, pv_el_list, pv_el_tup, pv_ix_list, pv_ix_tup, pv_lt_int, pv_le_int, pv_gt_int, pv_ge_int, pv_int_int, List.length_map, if_true, if_false, Bool.false_eq_true, Bool.true_eq_false, ite_self, steps_map hm x hx, if_pos])]
        simp only [exB, exS, ev, evs, evB, evO, evC, evI, List.map_cons, List.map_nil, List.cons_append, List.nil_append, List.length_cons, List.length_nil, List.replicate_succ, List.replicate_zero, Nat.reduceSub, Nat.reduceAdd, Nat.sub_self, Nat.sub_zero, getV, setV, setA, setsA, parE, Option.map_some, Option.map_none, bd_some, bd_none, val, vals, dat, dats, truE, Option.bind_some, Option.bind_none, tru, List.any_cons, List.any_nil, Bool.or_false, fin_d, take_len, wipeV, wipe1, tgt, setsV, oneD, Nat.zero_add, Nat.add_zero, pv_add_int, pv_sub_int, pv_len_list, pv_len_tup, pv_sl_list, pv_sl_tup, pv_rev_list, pv_rev_tup, pv_el_list, pv_el_tup, pv_ix_list, pv_ix_tup, pv_lt_int, pv_le_int, pv_gt_int, pv_ge_int, pv_int_int, List.length_map, if_true, if_false, Bool.false_eq_true, Bool.true_eq_false, ite_self, steps_eq, ix_lstI 0 _ m0, cut_from, cut_to, ← List.map_drop, ← List.map_take]
        rw [pv_list_add _ _ (by simp only [List.length_map, List.length_drop, List.length_take]; omega)]
        have et : (stepsOf os ns).drop ((stepsOf os ns).idxOf 0) ++ (stepsOf os ns).take ((stepsOf os ns).idxOf 0) = turnOf os ns := rfl
        simp only [exB, exS, ev, evs, evB, evO, evC, evI, List.map_cons, List.map_nil, List.cons_append, List.nil_append, List.length_cons, List.length_nil, List.replicate_succ, List.replicate_zero, Nat.reduceSub, Nat.reduceAdd, Nat.sub_self, Nat.sub_zero, getV, setV, setA, setsA, parE, Option.map_some, Option.map_none, bd_some, bd_none, val, vals, dat, dats, truE, Option.bind_some, Option.bind_none, tru, List.any_cons, List.any_nil, Bool.or_false, fin_d, take_len, wipeV, wipe1, tgt, setsV, oneD, Nat.zero_add, Nat.add_zero, pv_add_int, pv_sub_int, pv_len_list, pv_len_tup, pv_sl_list, pv_sl_tup, pv_rev_list, pv_rev_tup, pv_el_list, pv_el_tup, pv_ix_list, pv_ix_tup, pv_lt_int, pv_le_int, pv_gt_int, pv_ge_int, pv_int_int, List.length_map, if_true, if_false, Bool.false_eq_true, Bool.true_eq_false, ite_self, ← List.map_append, et, lt]
        have e1 : indexD (.list ((turnOf os ns).map PyData.int)) (.int ((os.length : Int) - 1)) = some (.int (topOf os ns)) := ix_lstI _ _ mt
        simp only [exB, exS, ev, evs, evB, evO, evC, evI, List.map_cons, List.map_nil, List.cons_append, List.nil_append, List.length_cons, List.length_nil, List.replicate_succ, List.replicate_zero, Nat.reduceSub, Nat.reduceAdd, Nat.sub_self, Nat.sub_zero, getV, setV, setA, setsA, parE, Option.map_some, Option.map_none, bd_some, bd_none, val, vals, dat, dats, truE, Option.bind_some, Option.bind_none, tru, List.any_cons, List.any_nil, Bool.or_false, fin_d, take_len, wipeV, wipe1, tgt, setsV, oneD, Nat.zero_add, Nat.add_zero, pv_add_int, pv_sub_int, pv_len_list, pv_len_tup, pv_sl_list, pv_sl_tup, pv_rev_list, pv_rev_tup, pv_el_list, pv_el_tup, pv_ix_list, pv_ix_tup, pv_lt_int, pv_le_int, pv_gt_int, pv_ge_int, pv_int_int, List.length_map, if_true, if_false, Bool.false_eq_true, Bool.true_eq_false, ite_self, e1]
        rw [if_pos (by omega)]
        simp only [exB, exS, ev, evs, evB, evO, evC, evI, List.map_cons, List.map_nil, List.cons_append, List.nil_append, List.length_cons, List.length_nil, List.replicate_succ, List.replicate_zero, Nat.reduceSub, Nat.reduceAdd, Nat.sub_self, Nat.sub_zero, getV, setV, setA, setsA, parE, Option.map_some, Option.map_none, bd_some, bd_none, val, vals, dat, dats, truE, Option.bind_some, Option.bind_none, tru, List.any_cons, List.any_nil, Bool.or_false, fin_d, take_len, wipeV, wipe1, tgt, setsV, oneD, Nat.zero_add, Nat.add_zero, pv_add_int, pv_sub_int, pv_len_list, pv_len_tup, pv_sl_list, pv_sl_tup, pv_rev_list, pv_rev_tup, pv_el_list, pv_el_tup, pv_ix_list, pv_ix_tup, pv_lt_int, pv_le_int, pv_gt_int, pv_ge_int, pv_int_int, List.length_map, if_true, if_false, Bool.false_eq_true, Bool.true_eq_false, ite_self, Int.toNat_natCast]
        rw [compL_map (f := upD (turnOf os ns)) rfl (fun x hx => by
            obtain ⟨j, hj, rfl⟩ := List.mem_map.mp hx
            rw [List.mem_range] at hj
            have e2 : ((j : Int) + 1) = ((j + 1 : Nat) : Int) := by omega
            simp only [exB, exS, ev, evs, evB, evO, evC, evI, List.map_cons, List.map_nil, List.cons_append, List.nil_append, List.length_cons, List.length_nil, List.replicate_succ, List.replicate_zero, Nat.reduceSub, Nat.reduceAdd, Nat.sub_self, Nat.sub_zero, getV, setV, setA, setsA, parE, Option.map_some, Option.map_none, bd_some, bd_none, val, vals, dat, dats, truE, Option.bind_some, Option.bind_none, tru, List.any_cons, List.any_nil, Bool.or_false, fin_d, take_len, wipeV, wipe1, tgt, setsV, oneD, Nat.zero_add, Nat.add_zero, pv_add_int, pv_sub_int, pv_len_list, pv_len_tup, pv_sl_list, pv_sl_tup, pv_rev_list, pv_rev_tup, pv_el_list, pv_el_tup, pv_ix_list, pv_ix_tup, pv_lt_int, pv_le_int, pv_gt_int, pv_ge_int, pv_int_int, List.length_map, if_true, if_false, Bool.false_eq_true, Bool.true_eq_false, ite_self, e2, at_ints (turnOf os ns) j (by omega), at_ints (turnOf os ns) (j + 1) (by omega), Int.toNat_natCast, if_pos, upD, dnD])]
        have e3 : ((List.range (topOf os ns)).map fun (k : Nat) => PyData.int (k : Int)).map (upD (turnOf os ns)) = (List.range (topOf os ns)).map fun k => PyData.bool (decide ((turnOf os ns).getD k 0 < (turnOf os ns).getD (k + 1) 0)) := by
          rw [List.map_map]
          rfl
        simp only [exB, exS, ev, evs, evB, evO, evC, evI, List.map_cons, List.map_nil, List.cons_append, List.nil_append, List.length_cons, List.length_nil, List.replicate_succ, List.replicate_zero, Nat.reduceSub, Nat.reduceAdd, Nat.sub_self, Nat.sub_zero, getV, setV, setA, setsA, parE, Option.map_some, Option.map_none, bd_some, bd_none, val, vals, dat, dats, truE, Option.bind_some, Option.bind_none, tru, List.any_cons, List.any_nil, Bool.or_false, fin_d, take_len, wipeV, wipe1, tgt, setsV, oneD, Nat.zero_add, Nat.add_zero, pv_add_int, pv_sub_int, pv_len_list, pv_len_tup, pv_sl_list, pv_sl_tup, pv_rev_list, pv_rev_tup, pv_el_list, pv_el_tup, pv_ix_list, pv_ix_tup, pv_lt_int, pv_le_int, pv_gt_int, pv_ge_int, pv_int_int, List.length_map, if_true, if_false, Bool.false_eq_true, Bool.true_eq_false, ite_self, e3, blt_all, ← rise_take (show topOf os ns < (turnOf os ns).length by omega)]
        rw [show pyr os (.tuple (ns.map PyData.int)) = pyrB os ns from pyr_tup hn]
        unfold pyrB
        cases hr : riseB ((turnOf os ns).take (topOf os ns + 1)) with
        | false => simp [take_len, tru]
        | true =>
          simp only [if_pos, exB, exS, ev, evs, evB, evO, evC, evI, List.map_cons, List.map_nil, List.cons_append, List.nil_append, List.length_cons, List.length_nil, List.replicate_succ, List.replicate_zero, Nat.reduceSub, Nat.reduceAdd, Nat.sub_self, Nat.sub_zero, getV, setV, setA, setsA, parE, Option.map_some, Option.map_none, bd_some, bd_none, val, vals, dat, dats, truE, Option.bind_some, Option.bind_none, tru, List.any_cons, List.any_nil, Bool.or_false, fin_d, take_len, wipeV, wipe1, tgt, setsV, oneD, Nat.zero_add, Nat.add_zero, pv_add_int, pv_sub_int, pv_len_list, pv_len_tup, pv_sl_list, pv_sl_tup, pv_rev_list, pv_rev_tup, pv_el_list, pv_el_tup, pv_ix_list, pv_ix_tup, pv_lt_int, pv_le_int, pv_gt_int, pv_ge_int, pv_int_int, List.length_map, if_true, if_false, Bool.false_eq_true, Bool.true_eq_false, ite_self, lt]
          rw [if_pos (by omega)]
          simp only [exB, exS, ev, evs, evB, evO, evC, evI, List.map_cons, List.map_nil, List.cons_append, List.nil_append, List.length_cons, List.length_nil, List.replicate_succ, List.replicate_zero, Nat.reduceSub, Nat.reduceAdd, Nat.sub_self, Nat.sub_zero, getV, setV, setA, setsA, parE, Option.map_some, Option.map_none, bd_some, bd_none, val, vals, dat, dats, truE, Option.bind_some, Option.bind_none, tru, List.any_cons, List.any_nil, Bool.or_false, fin_d, take_len, wipeV, wipe1, tgt, setsV, oneD, Nat.zero_add, Nat.add_zero, pv_add_int, pv_sub_int, pv_len_list, pv_len_tup, pv_sl_list, pv_sl_tup, pv_rev_list, pv_rev_tup, pv_el_list, pv_el_tup, pv_ix_list, pv_ix_tup, pv_lt_int, pv_le_int, pv_gt_int, pv_ge_int, pv_int_int, List.length_map, if_true, if_false, Bool.false_eq_true, Bool.true_eq_false, ite_self]
          rw [compL_map (f := dnD (turnOf os ns)) rfl (fun x hx => by
              obtain ⟨j, hj, rfl⟩ := List.mem_map.mp hx
              rw [List.mem_range] at hj
              have e0 : ((topOf os ns : Int) + (j : Int)) = ((topOf os ns + j : Nat) : Int) := by omega
              have e2 : (((topOf os ns + j : Nat) : Int) + 1) = ((topOf os ns + j + 1 : Nat) : Int) := by omega
              simp only [exB, exS, ev, evs, evB, evO, evC, evI, List.map_cons, List.map_nil, List.cons_append, List.nil_append, List.length_cons, List.length_nil, List.replicate_succ, List.replicate_zero, Nat.reduceSub, Nat.reduceAdd, Nat.sub_self, Nat.sub_zero, getV, setV, setA, setsA, parE, Option.map_some, Option.map_none, bd_some, bd_none, val, vals, dat, dats, truE, Option.bind_some, Option.bind_none, tru, List.any_cons, List.any_nil, Bool.or_false, fin_d, take_len, wipeV, wipe1, tgt, setsV, oneD, Nat.zero_add, Nat.add_zero, pv_add_int, pv_sub_int, pv_len_list, pv_len_tup, pv_sl_list, pv_sl_tup, pv_rev_list, pv_rev_tup, pv_el_list, pv_el_tup, pv_ix_list, pv_ix_tup, pv_lt_int, pv_le_int, pv_gt_int, pv_ge_int, pv_int_int, List.length_map, if_true, if_false, Bool.false_eq_true, Bool.true_eq_false, ite_self, e0, e2, at_ints (turnOf os ns) (topOf os ns + j) (by omega), at_ints (turnOf os ns) (topOf os ns + j + 1) (by omega), Int.toNat_natCast, if_pos, upD, dnD])]
          have e4 : ((List.range (((os.length : Int) - 1) - (topOf os ns : Int)).toNat).map fun (k : Nat) => PyData.int ((topOf os ns : Int) + (k : Int))).map (dnD (turnOf os ns)) = (List.range ((turnOf os ns).length - 1 - topOf os ns)).map fun k => PyData.bool (decide ((turnOf os ns).getD (topOf os ns + k + 1) 0 < (turnOf os ns).getD (topOf os ns + k) 0)) := by
            rw [List.map_map, show (((os.length : Int) - 1) - (topOf os ns : Int)).toNat = (turnOf os ns).length - 1 - topOf os ns by omega]
            refine List.map_congr_left fun j _ => ?_
            have e0 : ((topOf os ns : Int) + (j : Int)).toNat = topOf os ns + j := by omega
            simp only [Function.comp, dnD, e0]
          simp only [exB, exS, ev, evs, evB, evO, evC, evI, List.map_cons, List.map_nil, List.cons_append, List.nil_append, List.length_cons, List.length_nil, List.replicate_succ, List.replicate_zero, Nat.reduceSub, Nat.reduceAdd, Nat.sub_self, Nat.sub_zero, getV, setV, setA, setsA, parE, Option.map_some, Option.map_none, bd_some, bd_none, val, vals, dat, dats, truE, Option.bind_some, Option.bind_none, tru, List.any_cons, List.any_nil, Bool.or_false, fin_d, take_len, wipeV, wipe1, tgt, setsV, oneD, Nat.zero_add, Nat.add_zero, pv_add_int, pv_sub_int, pv_len_list, pv_len_tup, pv_sl_list, pv_sl_tup, pv_rev_list, pv_rev_tup, pv_el_list, pv_el_tup, pv_ix_list, pv_ix_tup, pv_lt_int, pv_le_int, pv_gt_int, pv_ge_int, pv_int_int, List.length_map, if_true, if_false, Bool.false_eq_true, Bool.true_eq_false, ite_self, e4, blt_all, ← rise_rev (show topOf os ns < (turnOf os ns).length by omega)]
          simp [take_len, tru]
      · have hns : ¬ sortI ns = Pv.upTo os.length := fun e => hn (ord_sort.mpr e)
        have e : pyr os (.tuple (ns.map PyData.int)) = false := pyr_not fun ms e q => by
          have : ns = ms := by
            have := congrArg intsD (PyData.tuple.inj e)
            rw [ints_ok, ints_ok] at this
            exact Option.some.inj this
          exact hn (this ▸ q)
        simp only [decide_eq_false hns]
        simp [e, take_len, tru]
  | _ =>
    rw [pyr_not (fun ns e _ => by cases e)]
    simp [isTy, take_len, tru]
end K79
set_option maxRecDepth 100000
set_option maxHeartbeats 4000000
namespace K79
open PySem PySem.Spec Pv
/-! ### the asked defs -/
theorem e_is_any_order (k : Nat) (os : List Int) (ho : Ord os.length os) (h1 : 1 ≤ os.length) (h8 : os.length ≤ 8) (S : Sto) : calN T (k + 5) i_is_any_order [.d (tupI os)] S = some (.d (.bool true), S) := by
  show Pv.run (calN T (k + 4)) d_is_any_order [.d (tupI os)] S = _
  rw [run_def rfl]
  have e := e_is_order_by k os.length (tupI os) S
  rw [isOrd_true.mpr ⟨os, rfl, ho⟩] at e
  have q1 : (1 : Int) ≤ os.length := by omega
  have q2 : (os.length : Int) ≤ 8 := by omega
  simp only [d_is_any_order, m_is_any_order, exB, exS, ev, evs, evB, evO, evC, evI, List.map_cons, List.map_nil, List.cons_append, List.nil_append, List.length_cons, List.length_nil, List.replicate_succ, List.replicate_zero, Nat.reduceSub, Nat.reduceAdd, Nat.sub_self, Nat.sub_zero, getV, setV, setA, setsA, parE, Option.map_some, Option.map_none, bd_some, bd_none, val, vals, dat, dats, truE, Option.bind_some, Option.bind_none, tru, List.any_cons, List.any_nil, Bool.or_false, fin_d, take_len, wipeV, wipe1, tgt, setsV, oneD, Nat.zero_add, Nat.add_zero, pv_add_int, pv_sub_int, pv_len_list, pv_len_tup, pv_sl_list, pv_sl_tup, pv_rev_list, pv_rev_tup, pv_el_list, pv_el_tup, pv_ix_list, pv_ix_tup, pv_lt_int, pv_le_int, pv_gt_int, pv_ge_int, pv_int_int, List.length_map, if_true, if_false, Bool.false_eq_true, Bool.true_eq_false, ite_self, isTy, q1, q2, decide_true, e]
theorem e_check (k : Nat) (os : List Int) (ho : Ord os.length os) (h1 : 1 ≤ os.length) (h8 : os.length ≤ 8) (S : Sto) : calN T (k + 6) i_check_any_order [.d (tupI os)] S = some (.d .none, S) := by
  show Pv.run (calN T (k + 5)) d_check_any_order [.d (tupI os)] S = _
  rw [run_def rfl]
  simp only [d_check_any_order, m_check_any_order, exB, exS, ev, evs, evB, evO, evC, evI, List.map_cons, List.map_nil, List.cons_append, List.nil_append, List.length_cons, List.length_nil, List.replicate_succ, List.replicate_zero, Nat.reduceSub, Nat.reduceAdd, Nat.sub_self, Nat.sub_zero, getV, setV, setA, setsA, parE, Option.map_some, Option.map_none, bd_some, bd_none, val, vals, dat, dats, truE, Option.bind_some, Option.bind_none, tru, List.any_cons, List.any_nil, Bool.or_false, fin_d, take_len, wipeV, wipe1, tgt, setsV, oneD, Nat.zero_add, Nat.add_zero, pv_add_int, pv_sub_int, pv_len_list, pv_len_tup, pv_sl_list, pv_sl_tup, pv_rev_list, pv_rev_tup, pv_el_list, pv_el_tup, pv_ix_list, pv_ix_tup, pv_lt_int, pv_le_int, pv_gt_int, pv_ge_int, pv_int_int, List.length_map, if_true, if_false, Bool.false_eq_true, Bool.true_eq_false, ite_self, e_is_any_order k os ho h1 h8 S, Bool.not_true]
theorem e_is_pyramid (k : Nat) (os : List Int) (ho : Ord os.length os) (h1 : 1 ≤ os.length) (h8 : os.length ≤ 8) (v : PyData) (S : Sto) : calN T (k + 7) i_is_pyramid [.d (tupI os), .d v] S = some (.d (.bool (pyr os v)), S) := by
  show Pv.run (calN T (k + 6)) d_is_pyramid [.d (tupI os), .d v] S = _
  rw [run_def rfl]
  simp only [d_is_pyramid, m_is_pyramid, exB, exS, ev, evs, evB, evO, evC, evI, List.map_cons, List.map_nil, List.cons_append, List.nil_append, List.length_cons, List.length_nil, List.replicate_succ, List.replicate_zero, Nat.reduceSub, Nat.reduceAdd, Nat.sub_self, Nat.sub_zero, getV, setV, setA, setsA, parE, Option.map_some, Option.map_none, bd_some, bd_none, val, vals, dat, dats, truE, Option.bind_some, Option.bind_none, tru, List.any_cons, List.any_nil, Bool.or_false, fin_d, take_len, wipeV, wipe1, tgt, setsV, oneD, Nat.zero_add, Nat.add_zero, pv_add_int, pv_sub_int, pv_len_list, pv_len_tup, pv_sl_list, pv_sl_tup, pv_rev_list, pv_rev_tup, pv_el_list, pv_el_tup, pv_ix_list, pv_ix_tup, pv_lt_int, pv_le_int, pv_gt_int, pv_ge_int, pv_int_int, List.length_map, if_true, if_false, Bool.false_eq_true, Bool.true_eq_false, ite_self, e_check k os ho h1 h8 S, e_is_pyramid_by (k + 1) os ho h1 h8 v S]
theorem e_supnick_by (k : Nat) (xs : List PyData) (h : xs.length ≤ 100) (S : Sto) : ∃ ys, calN T (k + 1) i_supnick_round_by [.d (.tuple xs)] S = some (.d (.tuple ys), S) ∧ ys.length ≤ 2 * xs.length ∧ (1 ≤ xs.length → 1 ≤ ys.length) := by
  have le : ∀ n (l : List PyData), l.length ≤ n → (evens l).length ≤ l.length ∧ (1 ≤ l.length → 1 ≤ (evens l).length) := by
    intro n
    induction n with
    | zero =>
      intro l hl
      have : l = [] := List.length_eq_zero_iff.mp (by omega)
      subst this
      simp [evens]
    | succ n ih =>
      intro l hl
      match l, hl with
      | [], _ => simp [evens]
      | [a], _ => simp [evens]
      | a :: b :: r, hl =>
        have := ih r (by simp only [List.length_cons] at hl; omega)
        simp only [evens, List.length_cons]
        omega
  obtain ⟨l1, l2⟩ := le _ xs (Nat.le_refl _)
  obtain ⟨l3, l4⟩ := le _ (xs.drop 1) (Nat.le_refl _)
  rw [List.length_drop] at l3
  refine ⟨evens xs ++ (evens (xs.drop 1)).reverse, ?_, by rw [List.length_append, List.length_reverse]; omega, fun q => by rw [List.length_append]; have := l2 q; omega⟩
  show Pv.run (calN T k) d_supnick_round_by [.d (.tuple xs)] S = _
  rw [run_def rfl]
  simp only [d_supnick_round_by, m_supnick_round_by, exB, exS, ev, evs, evB, evO, evC, evI, List.map_cons, List.map_nil, List.cons_append, List.nil_append, List.length_cons, List.length_nil, List.replicate_succ, List.replicate_zero, Nat.reduceSub, Nat.reduceAdd, Nat.sub_self, Nat.sub_zero, getV, setV, setA, setsA, parE, Option.map_some, Option.map_none, bd_some, bd_none, val, vals, dat, dats, truE, Option.bind_some, Option.bind_none, tru, List.any_cons, List.any_nil, Bool.or_false, fin_d, take_len, wipeV, wipe1, tgt, setsV, oneD, Nat.zero_add, Nat.add_zero, pv_add_int, pv_sub_int, pv_len_list, pv_len_tup, pv_sl_list, pv_sl_tup, pv_rev_list, pv_rev_tup, pv_el_list, pv_el_tup, pv_ix_list, pv_ix_tup, pv_lt_int, pv_le_int, pv_gt_int, pv_ge_int, pv_int_int, List.length_map, if_true, if_false, Bool.false_eq_true, Bool.true_eq_false, ite_self, twoD, List.drop_zero]
  rw [pv_tup_add _ _ (by rw [List.length_reverse]; omega)]
  simp only [exB, exS, ev, evs, evB, evO, evC, evI, List.map_cons, List.map_nil, List.cons_append, List.nil_append, List.length_cons, List.length_nil, List.replicate_succ, List.replicate_zero, Nat.reduceSub, Nat.reduceAdd, Nat.sub_self, Nat.sub_zero, getV, setV, setA, setsA, parE, Option.map_some, Option.map_none, bd_some, bd_none, val, vals, dat, dats, truE, Option.bind_some, Option.bind_none, tru, List.any_cons, List.any_nil, Bool.or_false, fin_d, take_len, wipeV, wipe1, tgt, setsV, oneD, Nat.zero_add, Nat.add_zero, pv_add_int, pv_sub_int, pv_len_list, pv_len_tup, pv_sl_list, pv_sl_tup, pv_rev_list, pv_rev_tup, pv_el_list, pv_el_tup, pv_ix_list, pv_ix_tup, pv_lt_int, pv_le_int, pv_gt_int, pv_ge_int, pv_int_int, List.length_map, if_true, if_false, Bool.false_eq_true, Bool.true_eq_false, ite_self]
theorem e_supnick (k : Nat) (os : List Int) (ho : Ord os.length os) (h1 : 1 ≤ os.length) (h8 : os.length ≤ 8) (S : Sto) : ∃ ys, calN T (k + 7) i_supnick_round [.d (tupI os)] S = some (.d (.tuple ys), S) ∧ ys.length ≤ 16 ∧ 1 ≤ ys.length := by
  obtain ⟨ys, e, l1, l2⟩ := e_supnick_by (k + 5) (os.map PyData.int) (by rw [List.length_map]; omega) S
  rw [List.length_map] at l1 l2
  refine ⟨ys, ?_, by omega, l2 h1⟩
  show Pv.run (calN T (k + 6)) d_supnick_round [.d (tupI os)] S = _
  rw [run_def rfl]
  simp only [d_supnick_round, m_supnick_round, exB, exS, ev, evs, evB, evO, evC, evI, List.map_cons, List.map_nil, List.cons_append, List.nil_append, List.length_cons, List.length_nil, List.replicate_succ, List.replicate_zero, Nat.reduceSub, Nat.reduceAdd, Nat.sub_self, Nat.sub_zero, getV, setV, setA, setsA, parE, Option.map_some, Option.map_none, bd_some, bd_none, val, vals, dat, dats, truE, Option.bind_some, Option.bind_none, tru, List.any_cons, List.any_nil, Bool.or_false, fin_d, take_len, wipeV, wipe1, tgt, setsV, oneD, Nat.zero_add, Nat.add_zero, pv_add_int, pv_sub_int, pv_len_list, pv_len_tup, pv_sl_list, pv_sl_tup, pv_rev_list, pv_rev_tup, pv_el_list, pv_el_tup, pv_ix_list, pv_ix_tup, pv_lt_int, pv_le_int, pv_gt_int, pv_ge_int, pv_int_int, List.length_map, if_true, if_false, Bool.false_eq_true, Bool.true_eq_false, ite_self, e_check k os ho h1 h8 S, e]
theorem e_same (k : Nat) (a : Bool) (S : Sto) : calN T (k + 1) i__law_same [.d (.bool a), .d (.bool a)] S = some (.d (.bool true), S) := by
  show Pv.run (calN T k) d__law_same [.d (.bool a), .d (.bool a)] S = _
  rw [run_def rfl]
  have e : cmpD .Eq (.bool a) (.bool a) = some true := by
    cases a <;> rfl
  have ei : cmpD .Is (.bool a) .none = some false := rfl
  simp only [d__law_same, m__law_same, exB, exS, ev, evs, evB, evO, evC, evI, List.map_cons, List.map_nil, List.cons_append, List.nil_append, List.length_cons, List.length_nil, List.replicate_succ, List.replicate_zero, Nat.reduceSub, Nat.reduceAdd, Nat.sub_self, Nat.sub_zero, getV, setV, setA, setsA, parE, Option.map_some, Option.map_none, bd_some, bd_none, val, vals, dat, dats, truE, Option.bind_some, Option.bind_none, tru, List.any_cons, List.any_nil, Bool.or_false, fin_d, take_len, wipeV, wipe1, tgt, setsV, oneD, Nat.zero_add, Nat.add_zero, pv_add_int, pv_sub_int, pv_len_list, pv_len_tup, pv_sl_list, pv_sl_tup, pv_rev_list, pv_rev_tup, pv_el_list, pv_el_tup, pv_ix_list, pv_ix_tup, pv_lt_int, pv_le_int, pv_gt_int, pv_ge_int, pv_int_int, List.length_map, if_true, if_false, Bool.false_eq_true, Bool.true_eq_false, ite_self, isTy, ei, e, Bool.not_false, Bool.not_true, Bool.or_true, Bool.or_false]
/-! ### the well -/
def Well (xs : List PyData) : Prop := ∃ a b c, xs = [.int a, .int b, .int c]
theorem mul_r (i j : Int) (h : -big < j ∧ j < big) : binD .Mult (.int i) (.int j) = some (.int (i * j)) := by
  show (if -big < i ∧ i < big ∨ -big < j ∧ j < big then some (PyData.int (i * j)) else none) = _
  rw [if_pos (.inr h)]
theorem mul_l (i j : Int) (h : -big < i ∧ i < big) : binD .Mult (.int i) (.int j) = some (.int (i * j)) := by
  show (if -big < i ∧ i < big ∨ -big < j ∧ j < big then some (PyData.int (i * j)) else none) = _
  rw [if_pos (.inl h)]
theorem mod_ok (i j : Int) (h : j ≠ 0) : binD .Mod (.int i) (.int j) = some (.int (i.fmod j)) := by
  show (if j ≠ 0 then some (PyData.int (i.fmod j)) else none) = _
  rw [if_pos h]
theorem div_ok (i j : Int) (h : j ≠ 0) (h2 : j.natAbs < 1073741824) : binD .FloorDiv (.int i) (.int j) = some (.int (i.fdiv j)) := by
  show (if j ≠ 0 ∧ j.natAbs < 1073741824 then some (PyData.int (i.fdiv j)) else none) = _
  rw [if_pos ⟨h, h2⟩]
theorem at0 (a b c : PyData) : atD [a, b, c] 0 = some a := rfl
theorem at1 (a b c : PyData) : atD [a, b, c] 1 = some b := rfl
theorem at2 (a b c : PyData) : atD [a, b, c] 2 = some c := rfl
theorem ixn0 : L2.ixN 3 0 = some 0 := rfl
theorem ixn1 : L2.ixN 3 1 = some 1 := rfl
theorem ixn2 : L2.ixN 3 2 = some 2 := rfl
theorem divm (i j : Int) (h : 0 < j) (h2 : j < 1073741824) : bltD .divmod [.int i, .int j] = some (.tuple [.int (i / j), .int (i % j)]) := by
  show (if 0 < j ∧ j < 1073741824 then some (PyData.tuple [.int (i / j), .int (i % j)]) else none) = _
  rw [if_pos ⟨h, h2⟩]
theorem set_len {α : Type} (S : List α) (l : Nat) (x : α) : (S.set l x).take S.length = S.set l x := List.take_of_length_le (by rw [List.length_set]; exact Nat.le_refl _)
theorem e_take (k : Nat) (l : Nat) (many : Int) (S : Sto) (xs : List PyData) (hS : S[l]? = some xs) (hW : Well xs) (h1 : 1 ≤ many) (h2 : many ≤ 1000) :
    ∃ d xs', 0 ≤ d ∧ d < many ∧ Well xs' ∧ calN T (k + 1) i__law_take [.ref l, .d (.int many)] S = some (.d (.int d), S.set l xs') := by
  obtain ⟨a, b, c, rfl⟩ := hW
  have hl : l < S.length := (List.getElem?_eq_some_iff.mp hS).1
  have g : ∀ (S : Sto) (x : List PyData), l < S.length → (S.set l x)[l]? = some x := fun S x h => by
    rw [List.getElem?_set_self h]
  by_cases ha : 0 < a
  · refine ⟨a % many, [.int (a / many), .int b, .int c], Int.emod_nonneg _ (by omega), Int.emod_lt_of_pos _ (by omega), ⟨_, _, _, rfl⟩, ?_⟩
    show Pv.run (calN T k) d__law_take [.ref l, .d (.int many)] S = _
    rw [run_def rfl]
    simp only [d__law_take, m__law_take, exB, exS, ev, evs, evB, evO, evC, evI, List.map_cons, List.map_nil, List.cons_append, List.nil_append, List.length_cons, List.length_nil, List.replicate_succ, List.replicate_zero, Nat.reduceSub, Nat.reduceAdd, Nat.sub_self, Nat.sub_zero, getV, setV, setA, setsA, parE, Option.map_some, Option.map_none, bd_some, bd_none, val, vals, dat, dats, truE, Option.bind_some, Option.bind_none, tru, List.any_cons, List.any_nil, Bool.or_false, fin_d, take_len, wipeV, wipe1, tgt, setsV, oneD, Nat.zero_add, Nat.add_zero, pv_add_int, pv_sub_int, pv_len_list, pv_len_tup, pv_sl_list, pv_sl_tup, pv_rev_list, pv_rev_tup, pv_el_list, pv_el_tup, pv_ix_list, pv_ix_tup, pv_lt_int, pv_le_int, pv_gt_int, pv_ge_int, pv_int_int, List.length_map, if_true, if_false, Bool.false_eq_true, Bool.true_eq_false, ite_self, hS, at0, decide_eq_true ha, divm a many (by omega) (by omega), ixn0, upS, List.set_cons_zero, set_len]
  · refine ⟨(((((b * 39373 + (c + 1) * 30323) + 11).fmod 2147483543).fdiv 128).fmod many), [.int a, .int (((b * 39373 + (c + 1) * 30323) + 11).fmod 2147483543), .int (c + 1)], Int.fmod_nonneg_of_pos _ (by omega), Int.fmod_lt_of_pos _ (by omega), ⟨_, _, _, rfl⟩, ?_⟩
    show Pv.run (calN T k) d__law_take [.ref l, .d (.int many)] S = _
    rw [run_def rfl]
    have hg := g S [.int a, .int b, .int (c + 1)] hl
    have hg2 := g S [.int a, .int (((b * 39373 + (c + 1) * 30323) + 11).fmod 2147483543), .int (c + 1)] hl
    simp only [d__law_take, m__law_take, exB, exS, ev, evs, evB, evO, evC, evI, List.map_cons, List.map_nil, List.cons_append, List.nil_append, List.length_cons, List.length_nil, List.replicate_succ, List.replicate_zero, Nat.reduceSub, Nat.reduceAdd, Nat.sub_self, Nat.sub_zero, getV, setV, setA, setsA, parE, Option.map_some, Option.map_none, bd_some, bd_none, val, vals, dat, dats, truE, Option.bind_some, Option.bind_none, tru, List.any_cons, List.any_nil, Bool.or_false, fin_d, take_len, wipeV, wipe1, tgt, setsV, oneD, Nat.zero_add, Nat.add_zero, pv_add_int, pv_sub_int, pv_len_list, pv_len_tup, pv_sl_list, pv_sl_tup, pv_rev_list, pv_rev_tup, pv_el_list, pv_el_tup, pv_ix_list, pv_ix_tup, pv_lt_int, pv_le_int, pv_gt_int, pv_ge_int, pv_int_int, List.length_map, if_true, if_false, Bool.false_eq_true, Bool.true_eq_false, ite_self, hS, at0, at1, at2, decide_eq_false ha, ixn1, ixn2, upS, List.set_cons_succ, List.set_cons_zero, hg, mul_r _ 39373 (by decide), mul_r _ 30323 (by decide), mod_ok _ 2147483543 (by decide), List.set_set, hg2, div_ok _ 128 (by decide) (by decide), mod_ok _ many (by omega), set_len]
end K79
set_option maxRecDepth 100000
set_option maxHeartbeats 4000000
namespace K79
open PySem PySem.Spec Pv
theorem fin_new (S : Sto) (ds : List PyData) : fin true S.length (.ref S.length) (S ++ [ds]) = some (.ref S.length, S ++ [ds]) := by
  show (if S.length < S.length then _ else (match (S ++ [ds])[S.length]? with
    | none => none
    | some xs => if true = true then some (E.ref S.length, (S ++ [ds]).take S.length ++ [xs]) else some (E.d (.list xs), (S ++ [ds]).take S.length))) = _
  rw [if_neg (by omega), List.getElem?_append_right (Nat.le_refl _), Nat.sub_self]
  simp
theorem b_well (cal : Cal) (a b c : Option E) (st z : Int) (S : Sto) : exB cal b0__law_well [a, b, c, some (.d (.int st)), some (.d (.int z))] S = some (.nx [a, b, c, some (.d (.int ((st * 44497 + z.fmod 2147483587 + 29).fmod 2147483563))), some (.d (.int z))], S) := by
  simp only [b0__law_well, exB, exS, ev, evs, evB, evO, evC, evI, List.map_cons, List.map_nil, List.cons_append, List.nil_append, List.length_cons, List.length_nil, List.replicate_succ, List.replicate_zero, Nat.reduceSub, Nat.reduceAdd, Nat.sub_self, Nat.sub_zero, getV, setV, setA, setsA, parE, Option.map_some, Option.map_none, bd_some, bd_none, val, vals, dat, dats, truE, Option.bind_some, Option.bind_none, tru, List.any_cons, List.any_nil, Bool.or_false, fin_d, take_len, wipeV, wipe1, tgt, setsV, oneD, Nat.zero_add, Nat.add_zero, pv_add_int, pv_sub_int, pv_len_list, pv_len_tup, pv_sl_list, pv_sl_tup, pv_rev_list, pv_rev_tup, pv_el_list, pv_el_tup, pv_ix_list, pv_ix_tup, pv_lt_int, pv_le_int, pv_gt_int, pv_ge_int, pv_int_int, List.length_map, if_true, if_false, Bool.false_eq_true, Bool.true_eq_false, ite_self, mul_r _ 44497 (by decide), mod_ok _ 2147483587 (by decide), mod_ok _ 2147483563 (by decide)]
theorem f_well (cal : Cal) (a b c : Option E) : ∀ (zs : List Int) (st : Int) (y : Option E) (S : Sto), ∃ st' y', forL none (.nm 4) (exB cal b0__law_well) (zs.map PyData.int) [a, b, c, some (.d (.int st)), y] S = some (.nx [a, b, c, some (.d (.int st')), y'], S)
  | [], st, y, S => ⟨st, y, by rw [List.map_nil]; unfold forL; rw [if_pos (show monOk none _ from True.intro)]⟩
  | z :: zs, st, y, S => by
    obtain ⟨st', y', e⟩ := f_well cal a b c zs ((st * 44497 + z.fmod 2147483587 + 29).fmod 2147483563) (some (.d (.int z))) S
    refine ⟨st', y', ?_⟩
    rw [List.map_cons]
    unfold forL
    rw [if_pos (show monOk none _ from True.intro)]
    simp only [exB, exS, ev, evs, evB, evO, evC, evI, List.map_cons, List.map_nil, List.cons_append, List.nil_append, List.length_cons, List.length_nil, List.replicate_succ, List.replicate_zero, Nat.reduceSub, Nat.reduceAdd, Nat.sub_self, Nat.sub_zero, getV, setV, setA, setsA, parE, Option.map_some, Option.map_none, bd_some, bd_none, val, vals, dat, dats, truE, Option.bind_some, Option.bind_none, tru, List.any_cons, List.any_nil, Bool.or_false, fin_d, take_len, wipeV, wipe1, tgt, setsV, oneD, Nat.zero_add, Nat.add_zero, pv_add_int, pv_sub_int, pv_len_list, pv_len_tup, pv_sl_list, pv_sl_tup, pv_rev_list, pv_rev_tup, pv_el_list, pv_el_tup, pv_ix_list, pv_ix_tup, pv_lt_int, pv_le_int, pv_gt_int, pv_ge_int, pv_int_int, List.length_map, if_true, if_false, Bool.false_eq_true, Bool.true_eq_false, ite_self, b_well, e]
theorem e_well (k : Nat) (ns : List Int) (hl : ns.length ≤ 63) (lap : Nat) (S : Sto) : ∃ xs', Well xs' ∧ calN T (k + 1) i__law_well [.d (lstI ns), .d (.int lap)] S = some (.ref S.length, S ++ [xs']) := by
  obtain ⟨own, ho⟩ : ∃ own : Int, (if decide ((lap : Int) < ns.length) = true then bd (bd (Option.map (fun r => (E.d r, S)) (atD (ns.map PyData.int) lap)) fun x S1 => some ([x], S1)) fun xs S1 => (vals S1 xs).bind fun ds => Option.map (fun r => (E.d r, S1)) (bltD .int ds) else some (E.d (.int 0), S)) = some (.d (.int own), S) := by
    by_cases h : (lap : Int) < ns.length
    · rw [decide_eq_true h, if_pos rfl, at_ints ns lap (by omega)]
      exact ⟨_, rfl⟩
    · rw [decide_eq_false h]
      exact ⟨0, rfl⟩
  have hadd : binD .Add (.list (cutD (ns.map PyData.int) none (some 8))) (.list [.int own]) = some (lstI (ns.take 8 ++ [own])) := by
    rw [show (some 8 : Option Int) = some ((8 : Nat) : Int) from rfl, cut_to, pv_list_add _ _ (by simp only [List.length_take, List.length_map, List.length_cons, List.length_nil]; omega)]
    simp
  show ∃ xs', Well xs' ∧ Pv.run (calN T k) d__law_well [.d (lstI ns), .d (.int lap)] S = _
  rw [run_def rfl]
  simp only [d__law_well, m__law_well, exB, exS, ev, evs, evB, evO, evC, evI, List.map_cons, List.map_nil, List.cons_append, List.nil_append, List.length_cons, List.length_nil, List.replicate_succ, List.replicate_zero, Nat.reduceSub, Nat.reduceAdd, Nat.sub_self, Nat.sub_zero, getV, setV, setA, setsA, parE, Option.map_some, Option.map_none, bd_some, bd_none, val, vals, dat, dats, truE, Option.bind_some, Option.bind_none, tru, List.any_cons, List.any_nil, Bool.or_false, fin_d, take_len, wipeV, wipe1, tgt, setsV, oneD, Nat.zero_add, Nat.add_zero, pv_add_int, pv_sub_int, pv_len_list, pv_len_tup, pv_sl_list, pv_sl_tup, pv_rev_list, pv_rev_tup, pv_el_list, pv_el_tup, pv_ix_list, pv_ix_tup, pv_lt_int, pv_le_int, pv_gt_int, pv_ge_int, pv_int_int, List.length_map, if_true, if_false, Bool.false_eq_true, Bool.true_eq_false, ite_self, ho]
  have h1 : ([PyData.int own].length ≤ lineN) := by unfold lineN; simp
  simp only [mul_l 6971 _ (show -big < 6971 ∧ (6971 : Int) < big by decide), exB, exS, ev, evs, evB, evO, evC, evI, List.map_cons, List.map_nil, List.cons_append, List.nil_append, List.length_cons, List.length_nil, List.replicate_succ, List.replicate_zero, Nat.reduceSub, Nat.reduceAdd, Nat.sub_self, Nat.sub_zero, getV, setV, setA, setsA, parE, Option.map_some, Option.map_none, bd_some, bd_none, val, vals, dat, dats, truE, Option.bind_some, Option.bind_none, tru, List.any_cons, List.any_nil, Bool.or_false, fin_d, take_len, wipeV, wipe1, tgt, setsV, oneD, Nat.zero_add, Nat.add_zero, pv_add_int, pv_sub_int, pv_len_list, pv_len_tup, pv_sl_list, pv_sl_tup, pv_rev_list, pv_rev_tup, pv_el_list, pv_el_tup, pv_ix_list, pv_ix_tup, pv_lt_int, pv_le_int, pv_gt_int, pv_ge_int, pv_int_int, List.length_map, if_true, if_false, Bool.false_eq_true, Bool.true_eq_false, ite_self]
  rw [if_pos (show (1 : Nat) ≤ lineN by unfold lineN; omega)]
  simp only [exB, exS, ev, evs, evB, evO, evC, evI, List.map_cons, List.map_nil, List.cons_append, List.nil_append, List.length_cons, List.length_nil, List.replicate_succ, List.replicate_zero, Nat.reduceSub, Nat.reduceAdd, Nat.sub_self, Nat.sub_zero, getV, setV, setA, setsA, parE, Option.map_some, Option.map_none, bd_some, bd_none, val, vals, dat, dats, truE, Option.bind_some, Option.bind_none, tru, List.any_cons, List.any_nil, Bool.or_false, fin_d, take_len, wipeV, wipe1, tgt, setsV, oneD, Nat.zero_add, Nat.add_zero, pv_add_int, pv_sub_int, pv_len_list, pv_len_tup, pv_sl_list, pv_sl_tup, pv_rev_list, pv_rev_tup, pv_el_list, pv_el_tup, pv_ix_list, pv_ix_tup, pv_lt_int, pv_le_int, pv_gt_int, pv_ge_int, pv_int_int, List.length_map, if_true, if_false, Bool.false_eq_true, Bool.true_eq_false, ite_self, hadd]
  obtain ⟨st', y', e⟩ := f_well (calN T k) (some (.d (lstI ns))) (some (.d (.int lap))) (some (.d (.int own))) (ns.take 8 ++ [own]) (52027 + 6971 * lap) none S
  rw [e]
  have hp : binD .Pow (.int 10) (.int 18) = some (.int 1000000000000000000) := by rfl
  have hab : bltD .abs [.int own] = some (.int (if own < 0 then -own else own)) := rfl
  simp only [exB, exS, ev, evs, evB, evO, evC, evI, List.map_cons, List.map_nil, List.cons_append, List.nil_append, List.length_cons, List.length_nil, List.replicate_succ, List.replicate_zero, Nat.reduceSub, Nat.reduceAdd, Nat.sub_self, Nat.sub_zero, getV, setV, setA, setsA, parE, Option.map_some, Option.map_none, bd_some, bd_none, val, vals, dat, dats, truE, Option.bind_some, Option.bind_none, tru, List.any_cons, List.any_nil, Bool.or_false, fin_d, take_len, wipeV, wipe1, tgt, setsV, oneD, Nat.zero_add, Nat.add_zero, pv_add_int, pv_sub_int, pv_len_list, pv_len_tup, pv_sl_list, pv_sl_tup, pv_rev_list, pv_rev_tup, pv_el_list, pv_el_tup, pv_ix_list, pv_ix_tup, pv_lt_int, pv_le_int, pv_gt_int, pv_ge_int, pv_int_int, List.length_map, if_true, if_false, Bool.false_eq_true, Bool.true_eq_false, ite_self, hp]
  have l3 : (3 : Nat) ≤ lineN := by unfold lineN; omega
  by_cases h1 : own < 0
  · refine ⟨[.int (-own), .int st', .int 0], ⟨_, _, _, rfl⟩, ?_⟩
    simp only [decide_eq_true h1, exB, exS, ev, evs, evB, evO, evC, evI, List.map_cons, List.map_nil, List.cons_append, List.nil_append, List.length_cons, List.length_nil, List.replicate_succ, List.replicate_zero, Nat.reduceSub, Nat.reduceAdd, Nat.sub_self, Nat.sub_zero, getV, setV, setA, setsA, parE, Option.map_some, Option.map_none, bd_some, bd_none, val, vals, dat, dats, truE, Option.bind_some, Option.bind_none, tru, List.any_cons, List.any_nil, Bool.or_false, fin_d, take_len, wipeV, wipe1, tgt, setsV, oneD, Nat.zero_add, Nat.add_zero, pv_add_int, pv_sub_int, pv_len_list, pv_len_tup, pv_sl_list, pv_sl_tup, pv_rev_list, pv_rev_tup, pv_el_list, pv_el_tup, pv_ix_list, pv_ix_tup, pv_lt_int, pv_le_int, pv_gt_int, pv_ge_int, pv_int_int, List.length_map, if_true, if_false, Bool.false_eq_true, Bool.true_eq_false, ite_self, hab, if_pos h1, if_pos l3, fin_new]
  · by_cases h2 : 1000000000000000000 ≤ own
    · refine ⟨[.int own, .int st', .int 0], ⟨_, _, _, rfl⟩, ?_⟩
      simp only [decide_eq_false h1, decide_eq_true h2, exB, exS, ev, evs, evB, evO, evC, evI, List.map_cons, List.map_nil, List.cons_append, List.nil_append, List.length_cons, List.length_nil, List.replicate_succ, List.replicate_zero, Nat.reduceSub, Nat.reduceAdd, Nat.sub_self, Nat.sub_zero, getV, setV, setA, setsA, parE, Option.map_some, Option.map_none, bd_some, bd_none, val, vals, dat, dats, truE, Option.bind_some, Option.bind_none, tru, List.any_cons, List.any_nil, Bool.or_false, fin_d, take_len, wipeV, wipe1, tgt, setsV, oneD, Nat.zero_add, Nat.add_zero, pv_add_int, pv_sub_int, pv_len_list, pv_len_tup, pv_sl_list, pv_sl_tup, pv_rev_list, pv_rev_tup, pv_el_list, pv_el_tup, pv_ix_list, pv_ix_tup, pv_lt_int, pv_le_int, pv_gt_int, pv_ge_int, pv_int_int, List.length_map, if_true, if_false, Bool.false_eq_true, Bool.true_eq_false, ite_self, hab, if_neg h1, if_pos l3, fin_new]
    · refine ⟨[.int 0, .int st', .int 0], ⟨_, _, _, rfl⟩, ?_⟩
      simp only [decide_eq_false h1, decide_eq_false h2, exB, exS, ev, evs, evB, evO, evC, evI, List.map_cons, List.map_nil, List.cons_append, List.nil_append, List.length_cons, List.length_nil, List.replicate_succ, List.replicate_zero, Nat.reduceSub, Nat.reduceAdd, Nat.sub_self, Nat.sub_zero, getV, setV, setA, setsA, parE, Option.map_some, Option.map_none, bd_some, bd_none, val, vals, dat, dats, truE, Option.bind_some, Option.bind_none, tru, List.any_cons, List.any_nil, Bool.or_false, fin_d, take_len, wipeV, wipe1, tgt, setsV, oneD, Nat.zero_add, Nat.add_zero, pv_add_int, pv_sub_int, pv_len_list, pv_len_tup, pv_sl_list, pv_sl_tup, pv_rev_list, pv_rev_tup, pv_el_list, pv_el_tup, pv_ix_list, pv_ix_tup, pv_lt_int, pv_le_int, pv_gt_int, pv_ge_int, pv_int_int, List.length_map, if_true, if_false, Bool.false_eq_true, Bool.true_eq_false, ite_self, if_pos l3, fin_new]
end K79
set_option maxRecDepth 100000
set_option maxHeartbeats 4000000
namespace K79
open PySem PySem.Spec Pv
theorem st_l {α : Type} {P : List α} {l : Nat} {w A B : α} (h : P[l]? = some w) : (P ++ [A, B])[l]? = some w := by
  rw [List.getElem?_append_left (List.getElem?_eq_some_iff.mp h).1, h]
theorem st_A {α : Type} (P : List α) (A B : α) : (P ++ [A, B])[P.length]? = some A := by simp
theorem st_B {α : Type} (P : List α) (A B : α) : (P ++ [A, B])[P.length + 1]? = some B := by
  rw [List.getElem?_append_right (by omega), show P.length + 1 - P.length = 1 by omega]
  rfl
theorem set_l {α : Type} {P : List α} {l : Nat} {w A B : α} (h : l < P.length) : (P ++ [A, B]).set l w = P.set l w ++ [A, B] := by
  rw [List.set_append_left _ _ h]
theorem set_A {α : Type} (P : List α) (A B A' : α) : (P ++ [A, B]).set P.length A' = P ++ [A', B] := by
  rw [List.set_append_right _ _ (Nat.le_refl _), Nat.sub_self]
  rfl
theorem set_B {α : Type} (P : List α) (A B B' : α) : (P ++ [A, B]).set (P.length + 1) B' = P ++ [A, B'] := by
  rw [List.set_append_right _ _ (by omega), show P.length + 1 - P.length = 1 by omega]
  rfl
theorem map_erase : ∀ (A : List Int) (d : Nat), (A.map PyData.int).eraseIdx d = (A.eraseIdx d).map PyData.int
  | [], _ => rfl
  | _ :: _, 0 => rfl
  | a :: A, d + 1 => by
    rw [List.map_cons, List.eraseIdx_cons_succ, List.eraseIdx_cons_succ, map_erase A d, List.map_cons]
theorem erase_perm : ∀ (A : List Int) (d : Nat) (h : d < A.length), ([A[d]] ++ A.eraseIdx d).Perm A
  | a :: A, 0, _ => .refl _
  | a :: A, d + 1, h => by
    have hd : d < A.length := by simpa using h
    have q := erase_perm A d hd
    rw [List.eraseIdx_cons_succ, List.getElem_cons_succ]
    exact (List.Perm.swap a A[d] _).trans (q.cons a)
theorem ixn_ok {n : Nat} {d : Int} (h0 : 0 ≤ d) (h1 : d < n) : L2.ixN n d = some d.toNat := by
  unfold L2.ixN
  rw [if_pos h0, if_pos h1]
theorem b_order (k l : Nat) (P : Sto) (w : List PyData) (A B : List Int) (b y : Option E) (hP : P[l]? = some w) (hw : Well w) (hA : 1 ≤ A.length) (hA2 : A.length ≤ 100) (hB : B.length ≤ 100) :
    ∃ (d : Nat) (w' : List PyData), d < A.length ∧ Well w' ∧ exB (calN T (k + 1)) b0__law_order [some (.ref l), b, some (.ref P.length), some (.ref (P.length + 1)), y] (P ++ [A.map PyData.int, B.map PyData.int]) =
      some (.nx [some (.ref l), b, some (.ref P.length), some (.ref (P.length + 1)), y], P.set l w' ++ [(A.eraseIdx d).map PyData.int, (B ++ [A.getD d 0]).map PyData.int]) := by
  obtain ⟨d, w', h0, h1, hw', e⟩ := e_take k l A.length (P ++ [A.map PyData.int, B.map PyData.int]) w (st_l hP) hw (by omega) (by omega)
  have hl : l < P.length := (List.getElem?_eq_some_iff.mp hP).1
  rw [set_l hl] at e
  refine ⟨d.toNat, w', by omega, hw', ?_⟩
  have ln : (P.set l w').length = P.length := List.length_set
  have q1 : (P.set l w' ++ [A.map PyData.int, B.map PyData.int])[P.length]? = some (A.map PyData.int) := by rw [← ln]; exact st_A _ _ _
  have q2 : ∀ A', (P.set l w' ++ [A', B.map PyData.int])[P.length + 1]? = some (B.map PyData.int) := fun A' => by rw [← ln]; exact st_B _ _ _
  have q3 : ∀ A', (P.set l w' ++ [A.map PyData.int, B.map PyData.int]).set P.length A' = P.set l w' ++ [A', B.map PyData.int] := fun A' => by rw [← ln]; exact set_A _ _ _ _
  have q4 : ∀ A' B', (P.set l w' ++ [A', B.map PyData.int]).set (P.length + 1) B' = P.set l w' ++ [A', B'] := fun A' B' => by rw [← ln]; exact set_B _ _ _ _
  have q5 : (A.map PyData.int)[d.toNat]? = some (.int (A.getD d.toNat 0)) := by
    rw [List.getElem?_map, List.getD_eq_getElem?_getD, List.getElem?_eq_getElem (show d.toNat < A.length by omega)]
    rfl
  have q6 : (A.map PyData.int).eraseIdx d.toNat = (A.eraseIdx d.toNat).map PyData.int := by
    exact map_erase A d.toNat
  simp only [b0__law_order, exB, exS, ev, evs, evB, evO, evC, evI, List.map_cons, List.map_nil, List.cons_append, List.nil_append, List.length_cons, List.length_nil, List.replicate_succ, List.replicate_zero, Nat.reduceSub, Nat.reduceAdd, Nat.sub_self, Nat.sub_zero, getV, setV, setA, setsA, parE, Option.map_some, Option.map_none, bd_some, bd_none, val, vals, dat, dats, truE, Option.bind_some, Option.bind_none, tru, List.any_cons, List.any_nil, Bool.or_false, fin_d, take_len, wipeV, wipe1, tgt, setsV, oneD, Nat.zero_add, Nat.add_zero, pv_add_int, pv_sub_int, pv_len_list, pv_len_tup, pv_sl_list, pv_sl_tup, pv_rev_list, pv_rev_tup, pv_el_list, pv_el_tup, pv_ix_list, pv_ix_tup, pv_lt_int, pv_le_int, pv_gt_int, pv_ge_int, pv_int_int, List.length_map, if_true, if_false, Bool.false_eq_true, Bool.true_eq_false, ite_self, st_A, e, q1, ixn_ok h0 h1, q5, upS, q3, q2, if_pos (show B.length < lineN by unfold lineN; omega), q4, q6, List.map_append]
theorem f_order (k l : Nat) (b : Option E) : ∀ (zs : List PyData) (P : Sto) (w : List PyData) (A B : List Int) (y : Option E), P[l]? = some w → Well w → A.length = zs.length → A.length + B.length ≤ 100 →
    ∃ (w' : List PyData) (B' : List Int) (y' : Option E), Well w' ∧ B'.Perm (B ++ A) ∧ forL none (.nm 4) (exB (calN T (k + 1)) b0__law_order) zs [some (.ref l), b, some (.ref P.length), some (.ref (P.length + 1)), y] (P ++ [A.map PyData.int, B.map PyData.int]) =
      some (.nx [some (.ref l), b, some (.ref P.length), some (.ref (P.length + 1)), y'], P.set l w' ++ [[], B'.map PyData.int])
  | [], P, w, A, B, y, hP, hw, hA, hB => by
    have hA : A = [] := List.length_eq_zero_iff.mp hA
    subst hA
    refine ⟨w, B, y, hw, by rw [List.append_nil], ?_⟩
    have e : P.set l w = P := by
      obtain ⟨h1, h2⟩ := List.getElem?_eq_some_iff.mp hP
      rw [← h2, List.set_getElem_self]
    rw [e]
    unfold forL
    rw [if_pos (show monOk none _ from True.intro)]
    rfl
  | z :: zs, P, w, A, B, y, hP, hw, hA, hB => by
    rw [List.length_cons] at hA
    obtain ⟨d, w1, hd, hw1, e⟩ := b_order k l P w A B b (some (.d z)) hP hw (by omega) (by omega) (by omega)
    have hl : l < P.length := (List.getElem?_eq_some_iff.mp hP).1
    have l2 : (A.eraseIdx d).length = zs.length := by rw [List.length_eraseIdx_of_lt hd]; omega
    obtain ⟨w2, B2, y2, hw2, hp, e2⟩ := f_order k l b zs (P.set l w1) w1 (A.eraseIdx d) (B ++ [A.getD d 0]) (some (.d z)) (List.getElem?_set_self hl) hw1 l2 (by rw [l2, List.length_append]; simp only [List.length_cons, List.length_nil]; omega)
    rw [List.length_set, List.set_set] at e2
    refine ⟨w2, B2, y2, hw2, ?_, ?_⟩
    · refine hp.trans ?_
      rw [List.append_assoc]
      refine List.Perm.append_left B ?_
      have : A.getD d 0 = A[d] := by rw [List.getD_eq_getElem?_getD, List.getElem?_eq_getElem hd]; rfl
      rw [this]
      exact erase_perm A d hd
    · unfold forL
      rw [if_pos (show monOk none _ from True.intro)]
      simp only [exB, exS, ev, evs, evB, evO, evC, evI, List.map_cons, List.map_nil, List.cons_append, List.nil_append, List.length_cons, List.length_nil, List.replicate_succ, List.replicate_zero, Nat.reduceSub, Nat.reduceAdd, Nat.sub_self, Nat.sub_zero, getV, setV, setA, setsA, parE, Option.map_some, Option.map_none, bd_some, bd_none, val, vals, dat, dats, truE, Option.bind_some, Option.bind_none, tru, List.any_cons, List.any_nil, Bool.or_false, fin_d, take_len, wipeV, wipe1, tgt, setsV, oneD, Nat.zero_add, Nat.add_zero, pv_add_int, pv_sub_int, pv_len_list, pv_len_tup, pv_sl_list, pv_sl_tup, pv_rev_list, pv_rev_tup, pv_el_list, pv_el_tup, pv_ix_list, pv_ix_tup, pv_lt_int, pv_le_int, pv_gt_int, pv_ge_int, pv_int_int, List.length_map, if_true, if_false, Bool.false_eq_true, Bool.true_eq_false, ite_self, e, e2]
theorem e_order (k l n : Nat) (S : Sto) (w : List PyData) (hS : S[l]? = some w) (hw : Well w) (hn : n ≤ 100) : ∃ (os : List Int) (w' : List PyData), Ord n os ∧ Well w' ∧ calN T (k + 2) i__law_order [.ref l, .d (.int n)] S = some (.d (tupI os), S.set l w') := by
  obtain ⟨w', B', y', hw', hp, e⟩ := f_order k l (some (.d (.int n))) ((List.range n).map fun (k : Nat) => PyData.int (k : Int)) S w (Pv.upTo n) [] none hS hw (by rw [Pv.upTo_len]; simp) (by rw [Pv.upTo_len]; simp; omega)
  rw [List.nil_append] at hp
  refine ⟨B', w', hp, hw', ?_⟩
  show Pv.run (calN T (k + 1)) d__law_order [.ref l, .d (.int n)] S = _
  rw [run_def rfl]
  have h1 : (-1000000 : Int) ≤ n ∧ (n : Int) ≤ 1000000 := by omega
  have h0 : (0 : Nat) ≤ lineN := by omega
  have eu : ((List.range n).map fun (k : Nat) => PyData.int (k : Int)) = (Pv.upTo n).map PyData.int := by
    have := rng_upTo n
    rw [Int.toNat_natCast] at this
    exact this
  have ln : (S.set l w').length = S.length := List.length_set
  have q2 : ∀ A' B', (S.set l w' ++ [A', B'])[S.length + 1]? = some B' := fun A' B' => by rw [← ln]; exact st_B _ _ _
  have q3 : ∀ A', (S.set l w' ++ A').take S.length = S.set l w' := fun A' => by rw [← ln]; exact List.take_left
  have hb : bltD .tuple [.list (B'.map PyData.int)] = some (.tuple (B'.map PyData.int)) := rfl
  rw [← eu, List.map_nil] at e
  simp only [d__law_order, m__law_order, exB, exS, ev, evs, evB, evO, evC, evI, List.map_cons, List.map_nil, List.cons_append, List.nil_append, List.length_cons, List.length_nil, List.replicate_succ, List.replicate_zero, Nat.reduceSub, Nat.reduceAdd, Nat.sub_self, Nat.sub_zero, getV, setV, setA, setsA, parE, Option.map_some, Option.map_none, bd_some, bd_none, val, vals, dat, dats, truE, Option.bind_some, Option.bind_none, tru, List.any_cons, List.any_nil, Bool.or_false, fin_d, take_len, wipeV, wipe1, tgt, setsV, oneD, Nat.zero_add, Nat.add_zero, pv_add_int, pv_sub_int, pv_len_list, pv_len_tup, pv_sl_list, pv_sl_tup, pv_rev_list, pv_rev_tup, pv_el_list, pv_el_tup, pv_ix_list, pv_ix_tup, pv_lt_int, pv_le_int, pv_gt_int, pv_ge_int, pv_int_int, List.length_map, if_true, if_false, Bool.false_eq_true, Bool.true_eq_false, ite_self, if_pos h1, if_pos h0, Int.toNat_natCast, List.append_assoc, List.length_append, e, q2, hb, q3]
end K79
set_option maxRecDepth 100000
set_option maxHeartbeats 4000000
namespace K79
open PySem PySem.Spec Pv
theorem cut_len (xs : List PyData) (lo hi : Option Int) : (cutD xs lo hi).length ≤ xs.length := by
  unfold cutD
  rw [List.length_take, List.length_drop]
  omega
theorem st_1 {α : Type} (P : List α) (A : α) : (P ++ [A])[P.length]? = some A := by simp
theorem set_1 {α : Type} (P : List α) (A A' : α) : (P ++ [A]).set P.length A' = P ++ [A'] := by
  rw [List.set_append_right _ _ (Nat.le_refl _), Nat.sub_self]
  rfl
theorem at_int {xs : List PyData} {d : Int} (h0 : 0 ≤ d) (h1 : d < xs.length) : ∃ v, atD xs d = some v := by
  rw [show d = ((d.toNat : Nat) : Int) by omega, at_nat]
  exact ⟨_, List.getElem?_eq_getElem (by omega)⟩
theorem e_near (k l : Nat) (xs : List PyData) (S : Sto) (w : List PyData) (hS : S[l]? = some w) (hw : Well w) (h1 : 1 ≤ xs.length) (h2 : xs.length ≤ 100) :
    ∃ (ys w' : List PyData), Well w' ∧ calN T (k + 2) i__law_near [.ref l, .d (.tuple xs)] S = some (.d (.list ys), S.set l w') := by
  have hl : l < S.length := (List.getElem?_eq_some_iff.mp hS).1
  obtain ⟨a, w1, a0, a1, hw1, ea⟩ := e_take k l xs.length S w hS hw (by omega) (by omega)
  obtain ⟨b, w2, b0, b1, hw2, eb⟩ := e_take k l xs.length (S.set l w1) w1 (List.getElem?_set_self hl) hw1 (by omega) (by omega)
  rw [List.set_set] at eb
  obtain ⟨va, hva⟩ := at_int a0 a1
  obtain ⟨vb, hvb⟩ := at_int b0 b1
  have ln : (S.set l w2).length = S.length := List.length_set
  have cl := cut_len xs
  have s1 : ∀ A, (S.set l w2 ++ [A])[S.length]? = some A := fun A => by rw [← ln]; exact st_1 _ _
  have s2 : ∀ A A', (S.set l w2 ++ [A]).set S.length A' = S.set l w2 ++ [A'] := fun A A' => by rw [← ln]; exact set_1 _ _ _
  have s3 : ∀ A, (S.set l w2 ++ A).take S.length = S.set l w2 := fun A => by rw [← ln]; exact List.take_left
  have i1 := ixn_ok a0 a1
  have i2 := ixn_ok b0 b1
  have t1 : ∀ lo hi lo' hi', binD .Add (.tuple (cutD xs lo hi)) (.tuple (cutD xs lo' hi')) = some (.tuple (cutD xs lo hi ++ cutD xs lo' hi')) := fun lo hi lo' hi' => pv_tup_add _ _ (by have := cl lo hi; have := cl lo' hi'; omega)
  have t2 : ∀ lo hi lo' hi', binD .Add (.tuple (cutD xs lo hi).reverse) (.tuple (cutD xs lo' hi').reverse) = some (.tuple ((cutD xs lo hi).reverse ++ (cutD xs lo' hi').reverse)) := fun lo hi lo' hi' => pv_tup_add _ _ (by rw [List.length_reverse, List.length_reverse]; have := cl lo hi; have := cl lo' hi'; omega)
  have t3 : ∀ lo hi, binD .Add (.tuple xs) (.tuple (cutD xs lo hi)) = some (.tuple (xs ++ cutD xs lo hi)) := fun lo hi => pv_tup_add _ _ (by have := cl lo hi; omega)
  have t4 : ∀ lo hi x, binD .Add (.tuple (cutD xs lo hi)) (.tuple [x]) = some (.tuple (cutD xs lo hi ++ [x])) := fun lo hi x => pv_tup_add _ _ (by have := cl lo hi; simp only [List.length_cons, List.length_nil]; omega)
  have t5 : ∀ lo hi x lo' hi', binD .Add (.tuple (cutD xs lo hi ++ [x])) (.tuple (cutD xs lo' hi')) = some (.tuple (cutD xs lo hi ++ [x] ++ cutD xs lo' hi')) := fun lo hi x lo' hi' => pv_tup_add _ _ (by rw [List.length_append]; have := cl lo hi; have := cl lo' hi'; simp only [List.length_cons, List.length_nil]; omega)
  have bt : ∀ ys, bltD .tuple [.list ys] = some (.tuple ys) := fun _ => rfl
  have bl : ∀ ys, bltD .list [.tuple ys] = some (.list ys) := fun _ => rfl
  have n0 : (0 : Nat) ≤ lineN := by unfold lineN; omega
  have n1 : (1 : Nat) ≤ lineN := by unfold lineN; omega
  have n2 : (2 : Nat) ≤ lineN := by unfold lineN; omega
  have n6 : (6 : Nat) ≤ lineN := by unfold lineN; omega
  have n14 : (14 : Nat) ≤ lineN := by unfold lineN; omega
  have fin : ∀ zs ys : List PyData, zs.length = 14 → ys.length = 6 → binD .Add (.list zs) (.list ys) = some (.list (zs ++ ys)) := fun zs ys h h' => pv_list_add _ _ (by omega)
  have key : ∃ ys, calN T (k + 2) i__law_near [.ref l, .d (.tuple xs)] S = some (.d (.list ys), S.set l w2) := by
    show ∃ ys, Pv.run (calN T (k + 1)) d__law_near [.ref l, .d (.tuple xs)] S = _
    rw [run_def rfl]
    simp only [d__law_near, m__law_near, exB, exS, ev, evs, evB, evO, evC, evI, List.map_cons, List.map_nil, List.cons_append, List.nil_append, List.length_cons, List.length_nil, List.replicate_succ, List.replicate_zero, Nat.reduceSub, Nat.reduceAdd, Nat.sub_self, Nat.sub_zero, getV, setV, setA, setsA, parE, Option.map_some, Option.map_none, bd_some, bd_none, val, vals, dat, dats, truE, Option.bind_some, Option.bind_none, tru, List.any_cons, List.any_nil, Bool.or_false, fin_d, take_len, wipeV, wipe1, tgt, setsV, oneD, Nat.zero_add, Nat.add_zero, pv_add_int, pv_sub_int, pv_len_list, pv_len_tup, pv_sl_list, pv_sl_tup, pv_rev_list, pv_rev_tup, pv_el_list, pv_el_tup, pv_ix_list, pv_ix_tup, pv_lt_int, pv_le_int, pv_gt_int, pv_ge_int, pv_int_int, List.length_map, if_true, if_false, Bool.false_eq_true, Bool.true_eq_false, ite_self, ea, eb, List.length_set, s1, hva, hvb, i1, i2, upS, s2, t1, t2, t3, bt, bl, if_pos n0, if_pos n1, if_pos n2, if_pos n6, if_pos n14]
    rw [compL_map (f := fun x => .tuple (cutD xs none (some a) ++ [x] ++ cutD xs (some (a + 1)) none)) (by rfl) (fun x hx => by simp only [exB, exS, ev, evs, evB, evO, evC, evI, List.map_cons, List.map_nil, List.cons_append, List.nil_append, List.length_cons, List.length_nil, List.replicate_succ, List.replicate_zero, Nat.reduceSub, Nat.reduceAdd, Nat.sub_self, Nat.sub_zero, getV, setV, setA, setsA, parE, Option.map_some, Option.map_none, bd_some, bd_none, val, vals, dat, dats, truE, Option.bind_some, Option.bind_none, tru, List.any_cons, List.any_nil, Bool.or_false, fin_d, take_len, wipeV, wipe1, tgt, setsV, oneD, Nat.zero_add, Nat.add_zero, pv_add_int, pv_sub_int, pv_len_list, pv_len_tup, pv_sl_list, pv_sl_tup, pv_rev_list, pv_rev_tup, pv_el_list, pv_el_tup, pv_ix_list, pv_ix_tup, pv_lt_int, pv_le_int, pv_gt_int, pv_ge_int, pv_int_int, List.length_map, if_true, if_false, Bool.false_eq_true, Bool.true_eq_false, ite_self, t4, t5, if_pos n1])]
    simp only [exB, exS, ev, evs, evB, evO, evC, evI, List.map_cons, List.map_nil, List.cons_append, List.nil_append, List.length_cons, List.length_nil, List.replicate_succ, List.replicate_zero, Nat.reduceSub, Nat.reduceAdd, Nat.sub_self, Nat.sub_zero, getV, setV, setA, setsA, parE, Option.map_some, Option.map_none, bd_some, bd_none, val, vals, dat, dats, truE, Option.bind_some, Option.bind_none, tru, List.any_cons, List.any_nil, Bool.or_false, fin_d, take_len, wipeV, wipe1, tgt, setsV, oneD, Nat.zero_add, Nat.add_zero, pv_add_int, pv_sub_int, pv_len_list, pv_len_tup, pv_sl_list, pv_sl_tup, pv_rev_list, pv_rev_tup, pv_el_list, pv_el_tup, pv_ix_list, pv_ix_tup, pv_lt_int, pv_le_int, pv_gt_int, pv_ge_int, pv_int_int, List.length_map, if_true, if_false, Bool.false_eq_true, Bool.true_eq_false, ite_self]
    rw [fin _ _ rfl rfl]
    simp only [exB, exS, ev, evs, evB, evO, evC, evI, List.map_cons, List.map_nil, List.cons_append, List.nil_append, List.length_cons, List.length_nil, List.replicate_succ, List.replicate_zero, Nat.reduceSub, Nat.reduceAdd, Nat.sub_self, Nat.sub_zero, getV, setV, setA, setsA, parE, Option.map_some, Option.map_none, bd_some, bd_none, val, vals, dat, dats, truE, Option.bind_some, Option.bind_none, tru, List.any_cons, List.any_nil, Bool.or_false, fin_d, take_len, wipeV, wipe1, tgt, setsV, oneD, Nat.zero_add, Nat.add_zero, pv_add_int, pv_sub_int, pv_len_list, pv_len_tup, pv_sl_list, pv_sl_tup, pv_rev_list, pv_rev_tup, pv_el_list, pv_el_tup, pv_ix_list, pv_ix_tup, pv_lt_int, pv_le_int, pv_gt_int, pv_ge_int, pv_int_int, List.length_map, if_true, if_false, Bool.false_eq_true, Bool.true_eq_false, ite_self, s3]
    exact ⟨_, rfl⟩
  obtain ⟨ys, e⟩ := key
  exact ⟨ys, w2, hw2, e⟩
end K79
set_option maxRecDepth 100000
set_option maxHeartbeats 4000000
namespace K79
open PySem PySem.Spec Pv
section
variable (k l : Nat) (S0 : Sto) (hl : l < S0.length)
/-- a draw out of the well that stands in S0's place l -/
theorem draw (k l : Nat) (S0 : Sto) (hl : l < S0.length) (many : Int) (w : List PyData) (hw : Well w) (h1 : 1 ≤ many) (h2 : many ≤ 1000) : ∃ d w', 0 ≤ d ∧ d < many ∧ Well w' ∧ calN T (k + 1) i__law_take [.ref l, .d (.int many)] (S0.set l w) = some (.d (.int d), S0.set l w') := by
  obtain ⟨d, w', a, b, c, e⟩ := e_take k l many (S0.set l w) w (List.getElem?_set_self hl) hw h1 h2
  rw [List.set_set] at e
  exact ⟨d, w', a, b, c, e⟩
theorem b_0 (k l : Nat) (S0 : Sto) (hl : l < S0.length) (os : List Int) (ho : Ord os.length os) (h1 : 1 ≤ os.length) (h8 : os.length ≤ 8) (t r b p v y : Option E) (x : PyData) (w : List PyData) (hw : Well w) :
    ∃ y' w', Well w' ∧ exB (calN T (k + 10)) b0__law_right [some (.ref l), t, some (.d (tupI os)), r, b, p, v, some (.d x), y] (S0.set l w) = some (.nx [some (.ref l), t, some (.d (tupI os)), r, b, p, v, some (.d x), y'], S0.set l w') := by
  obtain ⟨d, w', a, b', c, e⟩ := draw (k + 9) l S0 hl 2 w hw (by decide) (by decide)
  have e1 := e_is_pyramid (k + 3) os ho h1 h8 x (S0.set l w')
  have e2 := e_law_is_pyramid (k + 5) os ho h1 h8 x (S0.set l w')
  have e3 := e_same (k + 9) (pyr os x) (S0.set l w')
  refine ⟨some (.d (.bool (pyr os x))), w', c, ?_⟩
  by_cases hd : d = 0
  · simp only [b0__law_right, exB, exS, ev, evs, evB, evO, evC, evI, List.map_cons, List.map_nil, List.cons_append, List.nil_append, List.length_cons, List.length_nil, List.replicate_succ, List.replicate_zero, Nat.reduceSub, Nat.reduceAdd, Nat.sub_self, Nat.sub_zero, getV, setV, setA, setsA, parE, Option.map_some, Option.map_none, bd_some, bd_none, val, vals, dat, dats, truE, Option.bind_some, Option.bind_none, tru, List.any_cons, List.any_nil, Bool.or_false, fin_d, take_len, wipeV, wipe1, tgt, setsV, oneD, Nat.zero_add, Nat.add_zero, pv_add_int, pv_sub_int, pv_len_list, pv_len_tup, pv_sl_list, pv_sl_tup, pv_rev_list, pv_rev_tup, pv_el_list, pv_el_tup, pv_ix_list, pv_ix_tup, pv_lt_int, pv_le_int, pv_gt_int, pv_ge_int, pv_int_int, List.length_map, if_true, if_false, Bool.false_eq_true, Bool.true_eq_false, ite_self, e, pv_eq_int, decide_eq_true hd, e1, e2, e3, Bool.not_true]
  · simp only [b0__law_right, exB, exS, ev, evs, evB, evO, evC, evI, List.map_cons, List.map_nil, List.cons_append, List.nil_append, List.length_cons, List.length_nil, List.replicate_succ, List.replicate_zero, Nat.reduceSub, Nat.reduceAdd, Nat.sub_self, Nat.sub_zero, getV, setV, setA, setsA, parE, Option.map_some, Option.map_none, bd_some, bd_none, val, vals, dat, dats, truE, Option.bind_some, Option.bind_none, tru, List.any_cons, List.any_nil, Bool.or_false, fin_d, take_len, wipeV, wipe1, tgt, setsV, oneD, Nat.zero_add, Nat.add_zero, pv_add_int, pv_sub_int, pv_len_list, pv_len_tup, pv_sl_list, pv_sl_tup, pv_rev_list, pv_rev_tup, pv_el_list, pv_el_tup, pv_ix_list, pv_ix_tup, pv_lt_int, pv_le_int, pv_gt_int, pv_ge_int, pv_int_int, List.length_map, if_true, if_false, Bool.false_eq_true, Bool.true_eq_false, ite_self, e, pv_eq_int, decide_eq_false hd, pick, List.getElem?_cons_succ, List.getElem?_cons_zero, e1, e2, e3, Bool.not_true]
theorem b_1 (k l : Nat) (S0 : Sto) (hl : l < S0.length) (os : List Int) (ho : Ord os.length os) (h1 : 1 ≤ os.length) (h8 : os.length ≤ 8) (t r b p y y2 : Option E) (xs : List PyData) (x1 : 1 ≤ xs.length) (x2 : xs.length ≤ 100) (w : List PyData) (hw : Well w) :
    ∃ y' y2' w', Well w' ∧ exB (calN T (k + 10)) b1__law_right [some (.ref l), t, some (.d (tupI os)), r, b, p, some (.d (.tuple xs)), y, y2] (S0.set l w) = some (.nx [some (.ref l), t, some (.d (tupI os)), r, b, p, some (.d (.tuple xs)), y', y2'], S0.set l w') := by
  obtain ⟨ys, w1, hw1, e⟩ := e_near (k + 8) l xs (S0.set l w) w (List.getElem?_set_self hl) hw x1 x2
  rw [List.set_set] at e
  obtain ⟨Γ2, S2, e2, y', y2', w2, rfl, hw2, rfl⟩ := forL_inv (tg := .nm 7) (body := exB (calN T (k + 10)) b0__law_right) (xs := ys)
    (I := fun _ Γ S => ∃ y' y2' w, Γ = [some (.ref l), t, some (.d (tupI os)), r, b, p, some (.d (.tuple xs)), y', y2'] ∧ Well w ∧ S = S0.set l w)
    (fun j x Γ S _ ⟨y', y2', w, hΓ, hw, hS⟩ => by
      subst hΓ hS
      obtain ⟨y3, w3, hw3, e3⟩ := b_0 k l S0 hl os ho h1 h8 t r b p (some (.d (.tuple xs))) y2' x w hw
      exact ⟨_, _, _, rfl, e3, _, _, _, rfl, hw3, rfl⟩) (Γ := [some (.ref l), t, some (.d (tupI os)), r, b, p, some (.d (.tuple xs)), y, y2]) (S := S0.set l w1) ⟨y, y2, w1, rfl, hw1, rfl⟩
  refine ⟨y', y2', w2, hw2, ?_⟩
  simp only [b1__law_right, exB, exS, ev, evs, evB, evO, evC, evI, List.map_cons, List.map_nil, List.cons_append, List.nil_append, List.length_cons, List.length_nil, List.replicate_succ, List.replicate_zero, Nat.reduceSub, Nat.reduceAdd, Nat.sub_self, Nat.sub_zero, getV, setV, setA, setsA, parE, Option.map_some, Option.map_none, bd_some, bd_none, val, vals, dat, dats, truE, Option.bind_some, Option.bind_none, tru, List.any_cons, List.any_nil, Bool.or_false, fin_d, take_len, wipeV, wipe1, tgt, setsV, oneD, Nat.zero_add, Nat.add_zero, pv_add_int, pv_sub_int, pv_len_list, pv_len_tup, pv_sl_list, pv_sl_tup, pv_rev_list, pv_rev_tup, pv_el_list, pv_el_tup, pv_ix_list, pv_ix_tup, pv_lt_int, pv_le_int, pv_gt_int, pv_ge_int, pv_int_int, List.length_map, if_true, if_false, Bool.false_eq_true, Bool.true_eq_false, ite_self, e, e2]
theorem b_2 (k l : Nat) (S0 : Sto) (hl : l < S0.length) (t o v y y2 : Option E) (x : PyData) (rs bs : List PyData) (hb : rs.length + bs.length ≤ 100) (w : List PyData) (hw : Well w) :
    ∃ rs' bs' w', rs'.length + bs'.length = rs.length + bs.length + 1 ∧ Well w' ∧ exB (calN T (k + 10)) b2__law_right [some (.ref l), t, o, some (.d (.tuple rs)), some (.d (.tuple bs)), some (.d x), v, y, y2] (S0.set l w) =
      some (.nx [some (.ref l), t, o, some (.d (.tuple rs')), some (.d (.tuple bs')), some (.d x), v, y, y2], S0.set l w') := by
  obtain ⟨d, w', a, b', c, e⟩ := draw (k + 9) l S0 hl 2 w hw (by decide) (by decide)
  have n1 : (1 : Nat) ≤ lineN := by unfold lineN; omega
  have n2 : (2 : Nat) ≤ lineN := by unfold lineN; omega
  by_cases hd : d = 0
  · refine ⟨rs ++ [x], bs, w', by rw [List.length_append]; simp only [List.length_cons, List.length_nil]; omega, c, ?_⟩
    have q := pv_tup_add rs [x] (by simp only [List.length_cons, List.length_nil]; omega)
    simp only [b2__law_right, exB, exS, ev, evs, evB, evO, evC, evI, List.map_cons, List.map_nil, List.cons_append, List.nil_append, List.length_cons, List.length_nil, List.replicate_succ, List.replicate_zero, Nat.reduceSub, Nat.reduceAdd, Nat.sub_self, Nat.sub_zero, getV, setV, setA, setsA, parE, Option.map_some, Option.map_none, bd_some, bd_none, val, vals, dat, dats, truE, Option.bind_some, Option.bind_none, tru, List.any_cons, List.any_nil, Bool.or_false, fin_d, take_len, wipeV, wipe1, tgt, setsV, oneD, Nat.zero_add, Nat.add_zero, pv_add_int, pv_sub_int, pv_len_list, pv_len_tup, pv_sl_list, pv_sl_tup, pv_rev_list, pv_rev_tup, pv_el_list, pv_el_tup, pv_ix_list, pv_ix_tup, pv_lt_int, pv_le_int, pv_gt_int, pv_ge_int, pv_int_int, List.length_map, if_true, if_false, Bool.false_eq_true, Bool.true_eq_false, ite_self, e, pv_eq_int, decide_eq_true hd, if_pos n1, if_pos n2, q]
  · refine ⟨rs, [x] ++ bs, w', by rw [List.length_append]; simp only [List.length_cons, List.length_nil]; omega, c, ?_⟩
    have q := pv_tup_add [x] bs (by simp only [List.length_cons, List.length_nil]; omega)
    simp only [b2__law_right, exB, exS, ev, evs, evB, evO, evC, evI, List.map_cons, List.map_nil, List.cons_append, List.nil_append, List.length_cons, List.length_nil, List.replicate_succ, List.replicate_zero, Nat.reduceSub, Nat.reduceAdd, Nat.sub_self, Nat.sub_zero, getV, setV, setA, setsA, parE, Option.map_some, Option.map_none, bd_some, bd_none, val, vals, dat, dats, truE, Option.bind_some, Option.bind_none, tru, List.any_cons, List.any_nil, Bool.or_false, fin_d, take_len, wipeV, wipe1, tgt, setsV, oneD, Nat.zero_add, Nat.add_zero, pv_add_int, pv_sub_int, pv_len_list, pv_len_tup, pv_sl_list, pv_sl_tup, pv_rev_list, pv_rev_tup, pv_el_list, pv_el_tup, pv_ix_list, pv_ix_tup, pv_lt_int, pv_le_int, pv_gt_int, pv_ge_int, pv_int_int, List.length_map, if_true, if_false, Bool.false_eq_true, Bool.true_eq_false, ite_self, e, pv_eq_int, decide_eq_false hd, if_pos n1, if_pos n2, q]
theorem last_len {xs : List PyData} (h : 1 ≤ xs.length) : 1 ≤ (cutD xs (some (-1)) none).length := by
  unfold cutD
  rw [HT.sIx_none]
  have e : HT.sIx xs.length 0 (some (-1)) = xs.length - 1 := by
    show (if (-1 : Int) < 0 then ((-1 : Int) + (xs.length : Int)).toNat else min (-1 : Int).toNat xs.length) = _
    rw [if_pos (by decide)]
    omega
  rw [e, List.length_take, List.length_drop]
  omega
theorem b_3 (k l : Nat) (S0 : Sto) (hl : l < S0.length) (t y2 y3 y4 y5 y6 y7 y8 : Option E) (w : List PyData) (hw : Well w) :
    ∃ z2 z3 z4 z5 z6 z7 z8 w', Well w' ∧ exB (calN T (k + 10)) b3__law_right [some (.ref l), t, y2, y3, y4, y5, y6, y7, y8] (S0.set l w) = some (.nx [some (.ref l), t, z2, z3, z4, z5, z6, z7, z8], S0.set l w') := by
  obtain ⟨d, w1, a, b', hw1, e⟩ := draw (k + 9) l S0 hl 8 w hw (by decide) (by decide)
  obtain ⟨os, w2, ho, hw2, e2⟩ := e_order (k + 8) l (1 + d).toNat (S0.set l w1) w1 (List.getElem?_set_self hl) hw1 (by omega)
  rw [List.set_set, show (((1 + d).toNat : Nat) : Int) = 1 + d by omega] at e2
  have lo := (ord_iff.mp ho).2.1
  have ho2 : Ord os.length os := by rw [lo]; exact ho
  have h1 : 1 ≤ os.length := by omega
  have h8 : os.length ≤ 8 := by omega
  have n0 : (0 : Nat) ≤ lineN := by omega
  have n3 : (3 : Nat) ≤ lineN := by unfold lineN; omega
  have lm : (os.map PyData.int).length = os.length := List.length_map _
  obtain ⟨Γ2, S2, f2, y5', rs, bs, w3, rfl, hw3, hlen, rfl⟩ := forL_inv (tg := .nm 5) (body := exB (calN T (k + 10)) b2__law_right) (xs := cutD (os.map PyData.int) none (some (-1)))
    (I := fun j Γ S => ∃ y5' rs bs w, Γ = [some (.ref l), t, some (.d (tupI os)), some (.d (.tuple rs)), some (.d (.tuple bs)), y5', y6, y7, y8] ∧ Well w ∧ rs.length + bs.length = j ∧ S = S0.set l w)
    (fun j x Γ S hx ⟨y5', rs, bs, w, hΓ, hw, hj, hS⟩ => by
      subst hΓ hS
      have hjl := (List.getElem?_eq_some_iff.mp hx).1
      have := cut_len (os.map PyData.int) none (some (-1))
      obtain ⟨rs', bs', w3, h3, hw3, e3⟩ := b_2 k l S0 hl t (some (.d (tupI os))) y6 y7 y8 x rs bs (by omega) w hw
      exact ⟨_, _, _, rfl, e3, _, _, _, _, rfl, hw3, by omega, rfl⟩)
    (Γ := [some (.ref l), t, some (.d (tupI os)), some (.d (.tuple [])), some (.d (.tuple [])), y5, y6, y7, y8]) (S := S0.set l w2) ⟨y5, [], [], w2, rfl, hw2, rfl, rfl⟩
  have hcl := cut_len (os.map PyData.int) none (some (-1))
  have hcl2 := cut_len (os.map PyData.int) (some (-1)) none
  have hcl3 := last_len (xs := os.map PyData.int) (by omega)
  have q1 := pv_tup_add rs (cutD (os.map PyData.int) (some (-1)) none) (by omega)
  have q2 := pv_tup_add (rs ++ cutD (os.map PyData.int) (some (-1)) none) bs (by rw [List.length_append]; omega)
  obtain ⟨os2, w4, ho4, hw4, e4⟩ := e_order (k + 8) l os.length (S0.set l w3) w3 (List.getElem?_set_self hl) hw3 (by omega)
  rw [List.set_set] at e4
  obtain ⟨ss, e5, s1, s2⟩ := e_supnick (k + 3) os ho2 h1 h8 (S0.set l w4)
  have lo2 := (ord_iff.mp ho4).2.1
  obtain ⟨Γ3, S3, f3, y6', y7', y8', w5, rfl, hw5, rfl⟩ := forL_inv (tg := .nm 6) (body := exB (calN T (k + 10)) b1__law_right) (xs := [.tuple (rs ++ cutD (os.map PyData.int) (some (-1)) none ++ bs), tupI os2, .tuple ss])
    (I := fun j Γ S => ∃ y6' y7' y8' w, Γ = [some (.ref l), t, some (.d (tupI os)), some (.d (.tuple rs)), some (.d (.tuple bs)), y5', y6', y7', y8'] ∧ Well w ∧ S = S0.set l w)
    (fun j x Γ S hx ⟨y6', y7', y8', w, hΓ, hw, hS⟩ => by
      subst hΓ hS
      obtain ⟨xs, rfl, x1, x2⟩ : ∃ xs, x = .tuple xs ∧ 1 ≤ xs.length ∧ xs.length ≤ 100 := by
        have hm := List.mem_of_getElem? hx
        rcases List.mem_cons.mp hm with rfl | hm
        · exact ⟨_, rfl, by rw [List.length_append, List.length_append]; omega, by rw [List.length_append, List.length_append]; omega⟩
        · rcases List.mem_cons.mp hm with rfl | hm
          · exact ⟨_, rfl, by rw [List.length_map]; omega, by rw [List.length_map]; omega⟩
          · rw [List.mem_singleton.mp hm]
            exact ⟨_, rfl, s2, by omega⟩
      obtain ⟨z7, z8, w3, hw3, e3⟩ := b_1 k l S0 hl os ho2 h1 h8 t (some (.d (.tuple rs))) (some (.d (.tuple bs))) y5' y7' y8' xs x1 x2 w hw
      exact ⟨_, _, _, rfl, e3, _, _, _, _, rfl, hw3, rfl⟩)
    (Γ := [some (.ref l), t, some (.d (tupI os)), some (.d (.tuple rs)), some (.d (.tuple bs)), y5', y6, y7, y8]) (S := S0.set l w4) ⟨y6, y7, y8, w4, rfl, hw4, rfl⟩
  refine ⟨some (.d (tupI os)), some (.d (.tuple rs)), some (.d (.tuple bs)), y5', y6', y7', y8', w5, hw5, ?_⟩
  have neg : (-(1 : Int)) = -1 := rfl
  simp only [b3__law_right, exB, exS, ev, evs, evB, evO, evC, evI, List.map_cons, List.map_nil, List.cons_append, List.nil_append, List.length_cons, List.length_nil, List.replicate_succ, List.replicate_zero, Nat.reduceSub, Nat.reduceAdd, Nat.sub_self, Nat.sub_zero, getV, setV, setA, setsA, parE, Option.map_some, Option.map_none, bd_some, bd_none, val, vals, dat, dats, truE, Option.bind_some, Option.bind_none, tru, List.any_cons, List.any_nil, Bool.or_false, fin_d, take_len, wipeV, wipe1, tgt, setsV, oneD, Nat.zero_add, Nat.add_zero, pv_add_int, pv_sub_int, pv_len_list, pv_len_tup, pv_sl_list, pv_sl_tup, pv_rev_list, pv_rev_tup, pv_el_list, pv_el_tup, pv_ix_list, pv_ix_tup, pv_lt_int, pv_le_int, pv_gt_int, pv_ge_int, pv_int_int, List.length_map, if_true, if_false, Bool.false_eq_true, Bool.true_eq_false, ite_self, e, e2, if_pos n0, if_pos n3, neg, f2, q1, q2, e4, e5, f3]
end
end K79
set_option maxRecDepth 100000
set_option maxHeartbeats 4000000
namespace K79
open PySem PySem.Spec Pv
theorem pyr_of (k : Nat) (os vs : List Int) (ho : Ord os.length os) (h1 : 1 ≤ os.length) (h8 : os.length ≤ 8) (S : Sto) (hv : Ord os.length vs) (b : Bool) (hb : pyrB os vs = b) : calN T (k + 7) i_is_pyramid [.d (tupI os), .d (tupI vs)] S = some (.d (.bool b), S) := by
  rw [e_is_pyramid k os ho h1 h8, pyr_tup hv, hb]
theorem e_right (k l : Nat) (S0 : Sto) (w0 : List PyData) (hS : S0[l]? = some w0) (hw0 : Well w0) : ∃ w', Well w' ∧ calN T (k + 11) i__law_right [.ref l] S0 = some (.d (.bool true), S0.set l w') := by
  obtain ⟨hl, hg⟩ := List.getElem?_eq_some_iff.mp hS
  have e0 : S0.set l w0 = S0 := by rw [← hg, List.set_getElem_self]
  obtain ⟨Γ2, S2, f2, y1, y2, y3, y4, y5, y6, y7, y8, w1, rfl, hw1, rfl⟩ := forL_inv (tg := .nm 1) (body := exB (calN T (k + 10)) b3__law_right) (xs := (List.range (16 : Int).toNat).map fun (k : Nat) => PyData.int (k : Int))
    (I := fun j Γ S => ∃ y1 y2 y3 y4 y5 y6 y7 y8 w, Γ = [some (.ref l), y1, y2, y3, y4, y5, y6, y7, y8] ∧ Well w ∧ S = S0.set l w)
    (fun j x Γ S hx ⟨y1, y2, y3, y4, y5, y6, y7, y8, w, hΓ, hw, hS⟩ => by
      subst hΓ hS
      obtain ⟨z2, z3, z4, z5, z6, z7, z8, w3, hw3, e3⟩ := b_3 k l S0 hl (some (.d x)) y2 y3 y4 y5 y6 y7 y8 w hw
      exact ⟨_, _, _, rfl, e3, _, _, _, _, _, _, _, _, _, rfl, hw3, rfl⟩)
    (Γ := [some (.ref l), none, none, none, none, none, none, none, none]) (S := S0.set l w0) ⟨none, none, none, none, none, none, none, none, w0, rfl, hw0, rfl⟩
  rw [e0] at f2
  refine ⟨w1, hw1, ?_⟩
  have n4 : (4 : Nat) ≤ lineN := by unfold lineN; omega
  have n1 : (1 : Nat) ≤ lineN := by unfold lineN; omega
  have p1 := pyr_of (k + 3) [0, 1, 2, 3] [0, 2, 3, 1] (by decide) (by decide) (by decide) (S0.set l w1) (by decide) true (by decide)
  have p2 := pyr_of (k + 3) [0, 1, 2, 3] [0, 2, 1, 3] (by decide) (by decide) (by decide) (S0.set l w1) (by decide) false (by decide)
  have p3 := pyr_of (k + 3) [1, 0, 2, 3] [0, 3, 2, 1] (by decide) (by decide) (by decide) (S0.set l w1) (by decide) true (by decide)
  have p4 := pyr_of (k + 3) [0] [0] (by decide) (by decide) (by decide) (S0.set l w1) (by decide) true (by decide)
  simp only [tupI, List.map_cons, List.map_nil] at p1 p2 p3 p4
  have ce : cmpD .Eq (.list [.bool true, .bool false, .bool true, .bool true]) (.list [.bool true, .bool false, .bool true, .bool true]) = some true := by rfl
  have b16 : (-1000000 : Int) ≤ 16 ∧ (16 : Int) ≤ 1000000 := by decide
  show Pv.run (calN T (k + 10)) d__law_right [.ref l] S0 = _
  rw [run_def rfl]
  simp only [d__law_right, m__law_right, exB, exS, ev, evs, evB, evO, evC, evI, List.map_cons, List.map_nil, List.cons_append, List.nil_append, List.length_cons, List.length_nil, List.replicate_succ, List.replicate_zero, Nat.reduceSub, Nat.reduceAdd, Nat.sub_self, Nat.sub_zero, getV, setV, setA, setsA, parE, Option.map_some, Option.map_none, bd_some, bd_none, val, vals, dat, dats, truE, Option.bind_some, Option.bind_none, tru, List.any_cons, List.any_nil, Bool.or_false, fin_d, take_len, wipeV, wipe1, tgt, setsV, oneD, Nat.zero_add, Nat.add_zero, pv_add_int, pv_sub_int, pv_len_list, pv_len_tup, pv_sl_list, pv_sl_tup, pv_rev_list, pv_rev_tup, pv_el_list, pv_el_tup, pv_ix_list, pv_ix_tup, pv_lt_int, pv_le_int, pv_gt_int, pv_ge_int, pv_int_int, List.length_map, if_true, if_false, Bool.false_eq_true, Bool.true_eq_false, ite_self, if_pos b16, f2, if_pos n4, if_pos n1, p1, p2, p3, p4, ce, set_len]
theorem e_law (k : Nat) (ns : List Int) (hn : ns.length ≤ 63) : ∃ S', calN T (k + 12) i_law [.d (lstI ns)] [] = some (.d (.bool true), S') := by
  show ∃ S', Pv.run (calN T (k + 11)) d_law [.d (lstI ns)] [] = _
  rw [run_def rfl]
  obtain ⟨m, hm1, hm2, hm3⟩ : ∃ m : Int, (bltD .min2 [.int ns.length, .int 3]).bind (fun v => bltD .max2 [.int 2, v]) = some (.int m) ∧ 0 ≤ m ∧ m ≤ 100 := by
    refine ⟨_, rfl, ?_, ?_⟩ <;> (split <;> (try split) <;> omega)
  obtain ⟨q, hq1, hq2⟩ : ∃ q, bltD .min2 [.int ns.length, .int 3] = some q ∧ bltD .max2 [.int 2, q] = some (.int m) := ⟨_, rfl, hm1⟩
  have hb : (-1000000 : Int) ≤ m ∧ m ≤ 1000000 := by omega
  simp only [d_law, m_law, exB, exS, ev, evs, evB, evO, evC, evI, List.map_cons, List.map_nil, List.cons_append, List.nil_append, List.length_cons, List.length_nil, List.replicate_succ, List.replicate_zero, Nat.reduceSub, Nat.reduceAdd, Nat.sub_self, Nat.sub_zero, getV, setV, setA, setsA, parE, Option.map_some, Option.map_none, bd_some, bd_none, val, vals, dat, dats, truE, Option.bind_some, Option.bind_none, tru, List.any_cons, List.any_nil, Bool.or_false, fin_d, take_len, wipeV, wipe1, tgt, setsV, oneD, Nat.zero_add, Nat.add_zero, pv_add_int, pv_sub_int, pv_len_list, pv_len_tup, pv_sl_list, pv_sl_tup, pv_rev_list, pv_rev_tup, pv_el_list, pv_el_tup, pv_ix_list, pv_ix_tup, pv_lt_int, pv_le_int, pv_gt_int, pv_ge_int, pv_int_int, List.length_map, if_true, if_false, Bool.false_eq_true, Bool.true_eq_false, ite_self, hq1, hq2, if_pos hb]
  obtain ⟨S2, e, hS2⟩ := compL_all (n := 0) (body := fun x S => bd (bd (bd (calN T (k + 11) i__law_well [E.d (lstI ns), E.d x] S) fun x S1 => some ([x], S1)) fun xs S1 => calN T (k + 11) i__law_right xs S1) fun y S3 => Option.map (fun d => (some d, S3)) (dat y))
    (I := fun S => S = []) (J := fun x => ∃ j : Nat, x = .int j) (fun x S ⟨j, hj⟩ hS => by
      subst hj hS
      obtain ⟨w, hw, ew⟩ := e_well (k + 10) ns hn j []
      obtain ⟨w', hw', er⟩ := e_right k 0 [w] w rfl hw
      refine ⟨[w'], ?_, rfl⟩
      have ew : calN T (k + 11) i__law_well [E.d (lstI ns), E.d (.int j)] [] = some (.ref 0, [w]) := ew
      have er : calN T (k + 11) i__law_right [.ref 0] [w] = some (.d (.bool true), [w']) := er
      simp only [exB, exS, ev, evs, evB, evO, evC, evI, List.map_cons, List.map_nil, List.cons_append, List.nil_append, List.length_cons, List.length_nil, List.replicate_succ, List.replicate_zero, Nat.reduceSub, Nat.reduceAdd, Nat.sub_self, Nat.sub_zero, getV, setV, setA, setsA, parE, Option.map_some, Option.map_none, bd_some, bd_none, val, vals, dat, dats, truE, Option.bind_some, Option.bind_none, tru, List.any_cons, List.any_nil, Bool.or_false, fin_d, take_len, wipeV, wipe1, tgt, setsV, oneD, Nat.zero_add, Nat.add_zero, pv_add_int, pv_sub_int, pv_len_list, pv_len_tup, pv_sl_list, pv_sl_tup, pv_rev_list, pv_rev_tup, pv_el_list, pv_el_tup, pv_ix_list, pv_ix_tup, pv_lt_int, pv_le_int, pv_gt_int, pv_ge_int, pv_int_int, List.length_map, if_true, if_false, Bool.false_eq_true, Bool.true_eq_false, ite_self, ew, er]) (xs := (List.range m.toNat).map fun (k : Nat) => PyData.int (k : Int)) (S := []) (fun x hx => by
      obtain ⟨j, _, rfl⟩ := List.mem_map.mp hx
      exact ⟨j, rfl⟩) rfl
  simp only [dat, List.map_map] at e
  have hall := blt_all (List.range m.toNat) fun _ => true
  have hl : (List.range m.toNat).all (fun _ => true) = true := by rw [List.all_eq_true]; intros; rfl
  rw [hl] at hall
  rw [e]
  refine ⟨S2.take 0, ?_⟩
  have hc : (((fun _ => PyData.bool true) ∘ fun (k : Nat) => PyData.int (k : Int))) = fun _ => PyData.bool true := rfl
  simp only [exB, exS, ev, evs, evB, evO, evC, evI, List.map_cons, List.map_nil, List.cons_append, List.nil_append, List.length_cons, List.length_nil, List.replicate_succ, List.replicate_zero, Nat.reduceSub, Nat.reduceAdd, Nat.sub_self, Nat.sub_zero, getV, setV, setA, setsA, parE, Option.map_some, Option.map_none, bd_some, bd_none, val, vals, dat, dats, truE, Option.bind_some, Option.bind_none, tru, List.any_cons, List.any_nil, Bool.or_false, fin_d, take_len, wipeV, wipe1, tgt, setsV, oneD, Nat.zero_add, Nat.add_zero, pv_add_int, pv_sub_int, pv_len_list, pv_len_tup, pv_sl_list, pv_sl_tup, pv_rev_list, pv_rev_tup, pv_el_list, pv_el_tup, pv_ix_list, pv_ix_tup, pv_lt_int, pv_le_int, pv_gt_int, pv_ge_int, pv_int_int, List.length_map, if_true, if_false, Bool.false_eq_true, Bool.true_eq_false, ite_self, hc, hall, List.take_zero]
theorem main (ns : List Int) (hn : ns.length ≤ 63) : ∃ S', calN T 100 i_law [.d (.list (ns.map PyData.int))] [] = some (.d (.bool true), S') := e_law 88 ns hn
end K79
theorem PySem.Challenge.cw_roundorders_k79_whole_pyramids_of_anythi_holds : PySem.Challenge.rw_roundorders_k79_whole_pyramids_of_anythi.Holds := by
  exact K79.endK K79.main
