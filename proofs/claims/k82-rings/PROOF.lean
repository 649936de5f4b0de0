import PyProof.Rows.All
import Wide.All
import OpenK.AllK
import Wide.FinOn
import PyProof.P3Statements
import KE.SortKeyed
import KE.LtData
import PyProof.EqLayable
import PySem.Eval
import HandS.ForMost
import HandS.Exc
import HandS.CallSlots
import HandS.EndTab
import HandS.Wide
import HandS.TupAny
import HandS.AnyAll
import HandS.IsInst
import HandS.Comp
import HandS.GenBody
import HandS.GenList
import HandS.TupMul
import HandS.Rev
import KE.SortData
import HandS.Zip
import HandS.Conv
import HandS.RevTup
import HandS.TryOnly
import HandS.Style
import HandS.Small
import HandS.Iter
import KE.GoesMore
import KE.GoesEnum
import HandS.Star
import HandS.Defaults
import HandS.HeadHook4
import HandS.HeadWalk
import KE.KStateDown
import HandS.Head0
import HandS.Head1
import HandS.Head2
import PySem.Challenge.RW_packetsheld_k82_whole_rings_and_blocks
set_option Elab.async false
set_option maxHeartbeats 4000000
section

end
section
set_option Elab.async false
set_option linter.all false
/-! A small language of trees (IR) and its evaluator: what the given defs compute, without a heap. -/
namespace Ev
open PySem PySem.W
abbrev D := PyData

/-- what a slot holds: nothing known; a shared value; a list or dict that this frame alone holds (io: handed in to be changed, lk: being walked) -/
inductive PV where
  | non | shr (d : D) | hld (io lk : Bool) (d : D)
abbrev Sl := List PV
/-- a value in hand: shared, or new and held by nobody yet -/
inductive RV where
  | shr (d : D) | own (d : D)
@[simp] def RV.d : RV → D
  | .shr d => d
  | .own d => d
def RV.pv : RV → PV
  | .shr d => .shr d
  | .own d => .hld false false d

inductive R (α : Type) where
  | fail | exc (c : Str) (ρ : Sl) | ok (a : α) (ρ : Sl)
@[simp] def R.bind {α β : Type} : R α → (α → Sl → R β) → R β
  | .fail, _ => .fail
  | .exc c ρ, _ => .exc c ρ
  | .ok a ρ, k => k a ρ
/-- a call's end: the value, what the handed-in places hold now -/
inductive RC where
  | fail | exc (c : Str) (outs : List D) | ok (v : RV) (outs : List D)
inductive Out where
  | fail | nx (ρ : Sl) | bk (ρ : Sl) | ct (ρ : Sl) | rt (v : RV) (ρ : Sl) | exc (c : Str) (ρ : Sl)
abbrev Calls := Nat → List D → RC

inductive Ty where
  | int | bool | str | tuple | list | dict
  deriving DecidableEq, Repr

inductive Op where
  | add | sub | mul | fdiv | mod | pow | shl | shr | xor | neg
  | eq | ne | lt | le | gt | ge | isn | isnn | ist | isnt | inn | nin
  | len | abs | min2 | max2 | int | list | tuple | sorted | sum | maxl | minl
  | isi (t : Ty) | idx | revl | count | index | get1 | get2 | tupr1 | listr1 | tupr2 | listr2 | dictp
  deriving DecidableEq, Repr

inductive Mt where
  | append | pop | popi | extend | remove
  deriving DecidableEq, Repr

inductive Qt where
  | all | any | sum
  deriving DecidableEq, Repr

mutual
inductive Tg where
  | var (i : Nat) | tup (ts : Tgs)
inductive Tgs where
  | nil | cons (t : Tg) (ts : Tgs)
end
def Tgs.len : Tgs → Nat
  | .nil => 0
  | .cons _ ts => ts.len + 1

mutual
inductive E where
  | cst (d : D) | var (i : Nat) | ref (i : Nat)
  | tup (es : Es) | lst (es : Es) | dic (ks vs : Es)
  | op (o : Op) (es : Es)
  | sl (e : E) (lo hi : Eo) | slr (e : E)
  | not (e : E) | and (a b : E) | or (a b : E) | cond (t : T) (a b : E)
  | chain (o o' : Op) (a b c : E)
  | call (f : Nat) (es : Es)
  | mth (m : Mt) (i : Nat) (es : Es)
  | comp (vs : List Nat) (tg : Tg) (it : It) (ts : T) (e : E)
  | comp2 (vs : List Nat) (tg : Tg) (it : It) (ts : T) (vs1 : List Nat) (tg1 : Tg) (it1 : It) (ts1 : T) (e : E)
  | dcomp (vs : List Nat) (tg : Tg) (it : It) (ts : T) (k v : E)
  | gen (q : Qt) (vs : List Nat) (tg : Tg) (it : It) (ts : T) (e : E)
  | star (e : E) | scall (f : Nat) (m : List Bool) (es : Es) | tups (es : Es) | lsts (es : Es)
inductive Eo where
  | none | some (e : E)
inductive Es where
  | nil | cons (e : E) (es : Es)
inductive T where
  | yes | val (e : E) | not (t : T) | and (a b : T) | or (a b : T) | cmp (o : Op) (a b : E) | chain (o o' : Op) (a b c : E)
inductive It where
  | rng1 (a : E) | rng2 (a b : E) | rng3 (a b c : E) | seq (e : E) | enum (e : E) | zip (a b : E) | rev (e : E) | keys (e : E) | items (e : E) | vals (e : E)
end
mutual
inductive S where
  | pass | brk | cnt | ex (e : E) | set (tg : Tg) (e : E) | par (is : List Nat) (es : Es) | aug (i : Nat) (o : Op) (e : E)
  | sto (i : Nat) (k v : E) | augsto (i : Nat) (k : E) (o : Op) (v : E) | del (i : Nat) (k : E)
  | ret (e : E) | retn | ite (t : T) (a b : Ss) | for_ (tg : Tg) (it : It) (b : Ss) | whl (t : T) (b : Ss)
  | rais (c : Str) | try_ (b : Ss) (c : Str) (s : Ss)
inductive Ss where
  | nil | cons (s : S) (ss : Ss)
end

/-! ### values -/
def mAx : Nat := 16777216
/-- the law's own list, as it was handed in: read, and no more -/
@[reducible] def scrD (ds : List D) : D := .dict [(.none, .list ds)]
def isScr : List (D × D) → Bool
  | (.none, _) :: _ => true
  | _ => false
def truth : D → Option Bool
  | .none => some false
  | .bool b => some b
  | .int i => some (i != 0)
  | .str x => if x.length ≤ mAx then some (!x.cps.isEmpty) else none
  | .list xs => some (!xs.isEmpty)
  | .tuple xs => some (!xs.isEmpty)
  | .dict kvs => if isScr kvs then none else some (!kvs.isEmpty)
/-- compared at any place: data without dicts, not too deep -/
def flat (d : D) : Bool := d.canLay0 && decide (d.depth ≤ 64)
def lim62 (i : Int) : Bool := decide (-(2 ^ 62) ≤ i) && decide (i < 2 ^ 62)
/-- the place that an index means -/
def place (n : Nat) (i : Int) : Option Nat := if 0 ≤ i then (if i < n then some i.toNat else none) else if -(n : Int) ≤ i then some (i + n).toNat else none
def item (xs : List D) (i : Int) : Option D := (place xs.length i).bind fun j => xs[j]?
def six (n d : Nat) : Option Int → Nat
  | none => d
  | some v => if v < 0 then (v + (n : Int)).toNat else min v.toNat n
def cut (xs : List D) (lo hi : Option Int) : List D := (xs.drop (six xs.length 0 lo)).take (six xs.length xs.length hi - six xs.length 0 lo)
/-- a key of a dict: ints and texts, or nested tuples of them -/
def keyOk : D → Bool
  | .int _ => true
  | .str _ => true
  | _ => false
def look (kvs : List (D × D)) (k : D) : Option D := (kvs.find? fun p => PyData.eqv p.1 k).map (·.2)
def put (kvs : List (D × D)) (k v : D) : List (D × D) := if (look kvs k).isSome then kvs.map fun p => if PyData.eqv p.1 k then (p.1, v) else p else kvs ++ [(k, v)]
def rem (kvs : List (D × D)) (k : D) : List (D × D) := kvs.filter fun p => !PyData.eqv p.1 k
def anyEq (x : D) (xs : List D) : Bool := xs.any fun y => PyData.eqv y x
def isNon : D → Bool
  | .none => true
  | _ => false
def intsOf : List D → Option (List Int)
  | [] => some []
  | .int i :: r => (intsOf r).map (i :: ·)
  | _ => none
def rangeL (i : Int) : Nat → List D
  | 0 => []
  | n + 1 => .int i :: rangeL (i + 1) n
def rangeC (i c : Int) : Nat → List D
  | 0 => []
  | n + 1 => .int i :: rangeC (i + c) c n
def isTy : Ty → D → Bool
  | .int, .int _ => true
  | .int, .bool _ => true
  | .bool, .bool _ => true
  | .str, .str _ => true
  | .tuple, .tuple _ => true
  | .list, .list _ => true
  | .dict, .dict _ => true
  | _, _ => false
/-- lists that sorted takes: ints, texts, tuples alike -/
def sortable (xs : List D) : Bool := decide (xs.length ≤ mAx) && xs.all (fun x => decide (x.depth ≤ 64)) && xs.all (fun x => xs.all fun y => alike x y) &&
  ((xs.all fun x => match x with | .tuple (_ :: _) => true | _ => false) || xs.all fun x => match x with | .tuple _ => false | .none => false | _ => true)
def b2o (b : Bool) (v : Option RV) : Option RV := if b then v else none
def rint (i : Int) : Option RV := some (.shr (.int i))
def rbool (b : Bool) : Option RV := some (.shr (.bool b))

/-! ### what an operation gives -/
def opAdd : List D → Option RV
  | [.int i, .int j] => rint (i + j)
  | [.str x, .str y] => b2o (decide (x.length + y.length ≤ mAx)) (some (.shr (.str (x ++ y))))
  | [.list x, .list y] => b2o (decide (x.length + y.length ≤ mAx)) (some (.own (.list (x ++ y))))
  | [.tuple x, .tuple y] => b2o (decide (x.length + y.length ≤ mAx)) (some (.shr (.tuple (x ++ y))))
  | _ => none
def opSub : List D → Option RV
  | [.int i, .int j] => rint (i - j)
  | _ => none
def opMul : List D → Option RV
  | [.int i, .int j] => b2o ((decide (-(2 ^ 64) < i) && decide (i < 2 ^ 64)) || (decide (-(2 ^ 64) < j) && decide (j < 2 ^ 64)) || decide (i.natAbs.log2 + j.natAbs.log2 < 1000000)) (rint (i * j))
  | [.list x, .int k] => b2o (lim62 k && decide (x.length * k.toNat ≤ mAx)) (some (.own (.list (List.replicate k.toNat x).flatten)))
  | [.tuple x, .int k] => b2o (lim62 k && decide (2 ≤ k) && decide (k ≤ 1000) && decide (x.length ≤ 1000) && !x.isEmpty) (some (.shr (.tuple (List.replicate k.toNat x).flatten)))
  | _ => none
def opFdiv : List D → Option RV
  | [.int i, .int j] => b2o (decide (0 < j) && decide (j.natAbs.log2 < 9000)) (rint (i / j))
  | _ => none
def opMod : List D → Option RV
  | [.int i, .int j] => b2o (decide (0 < j)) (rint (i % j))
  | _ => none
def opPow : List D → Option RV
  | [.int i, .int j] => b2o (decide (0 ≤ j) && decide (j ≤ 1000000) && decide (i.natAbs < 2 ^ 64)) (rint (i ^ j.toNat))
  | _ => none
def opShl : List D → Option RV
  | [.int i, .int j] => b2o (decide (0 ≤ j) && decide (j ≤ 1000000) && decide (i.natAbs < 2 ^ 64)) (rint (i * 2 ^ j.toNat))
  | _ => none
def opShr : List D → Option RV
  | [.int i, .int j] => b2o (decide (0 ≤ j)) (rint (i / 2 ^ j.toNat))
  | _ => none
def opXor : List D → Option RV
  | [.int i, .int j] => rint (Builtin.bitXor i j)
  | _ => none
def opNeg : List D → Option RV
  | [.int i] => rint (-i)
  | _ => none
def opEq : List D → Option RV
  | [x, y] => b2o (flat x && flat y) (rbool (PyData.eqv x y))
  | _ => none
def opNe : List D → Option RV
  | [x, y] => b2o (flat x && flat y) (rbool (!PyData.eqv x y))
  | _ => none
def opLt : List D → Option RV
  | [.int i, .int j] => rbool (decide (i < j))
  | [.str x, .str y] => rbool (decide (x.cps.toList < y.cps.toList))
  | _ => none
def opLe : List D → Option RV
  | [.int i, .int j] => rbool (decide (i ≤ j))
  | _ => none
def opGt : List D → Option RV
  | [.int i, .int j] => rbool (decide (j < i))
  | _ => none
def opGe : List D → Option RV
  | [.int i, .int j] => rbool (decide (j ≤ i))
  | _ => none
def opIsn : List D → Option RV
  | [x] => rbool (isNon x)
  | _ => none
def opIsnn : List D → Option RV
  | [x] => rbool (!isNon x)
  | _ => none
def isBl (b : Bool) : D → Bool
  | .bool c => c == b
  | _ => false
def opIst : List D → Option RV
  | [x, .bool b] => rbool (isBl b x)
  | _ => none
def opIsnt : List D → Option RV
  | [x, .bool b] => rbool (!isBl b x)
  | _ => none
def opInn : List D → Option RV
  | [x, .list ys] => b2o (flat x && flat (.list ys)) (rbool (anyEq x ys))
  | [x, .tuple ys] => b2o (flat x && flat (.tuple ys)) (rbool (anyEq x ys))
  | [x, .dict kvs] => b2o (keyOk x && !isScr kvs) (rbool (look kvs x).isSome)
  | _ => none
def opNin : List D → Option RV
  | [x, .list ys] => b2o (flat x && flat (.list ys)) (rbool (!anyEq x ys))
  | [x, .tuple ys] => b2o (flat x && flat (.tuple ys)) (rbool (!anyEq x ys))
  | [x, .dict kvs] => b2o (keyOk x && !isScr kvs) (rbool (!(look kvs x).isSome))
  | _ => none
def opLen : List D → Option RV
  | [.list x] => rint x.length
  | [.tuple x] => rint x.length
  | [.str x] => b2o (decide (x.length ≤ mAx)) (rint x.length)
  | [.dict [(.none, .list x)]] => rint x.length
  | [.dict x] => b2o (!isScr x) (rint x.length)
  | _ => none
def opAbs : List D → Option RV
  | [.int i] => rint (if i < 0 then -i else i)
  | _ => none
def opMin2 : List D → Option RV
  | [.int i, .int j] => rint (if j < i then j else i)
  | _ => none
def opMax2 : List D → Option RV
  | [.int i, .int j] => rint (if j > i then j else i)
  | _ => none
def opInt : List D → Option RV
  | [.int i] => rint i
  | [.bool b] => rint (if b then 1 else 0)
  | _ => none
def opList : List D → Option RV
  | [.list x] => some (.own (.list x))
  | [.tuple x] => some (.own (.list x))
  | _ => none
def opTuple : List D → Option RV
  | [.list x] => some (.shr (.tuple x))
  | [.tuple x] => some (.shr (.tuple x))
  | _ => none
def opSorted : List D → Option RV
  | [.list x] => b2o (sortable x) (some (.own (.list (x.mergeSort (dataLe false id)))))
  | _ => none
def opSum : List D → Option RV
  | [.list x] => (intsOf x).bind fun ns => rint ns.sum
  | [.tuple x] => (intsOf x).bind fun ns => rint ns.sum
  | _ => none
def opMaxl : List D → Option RV
  | [.list x] => (intsOf x).bind fun ns => (ns.max?).bind rint
  | _ => none
def opMinl : List D → Option RV
  | [.list x] => (intsOf x).bind fun ns => (ns.min?).bind rint
  | _ => none
def opIsi (t : Ty) : List D → Option RV
  | [.dict _] => none
  | [x] => rbool (isTy t x)
  | _ => none
def opIdx : List D → Option RV
  | [.list x, .int i] => (item x i).map .shr
  | [.tuple x, .int i] => (item x i).map .shr
  | [.dict [(.none, .list x)], .int i] => (item x i).map .shr
  | [.dict kvs, k] => b2o (keyOk k && !isScr kvs) ((look kvs k).map .shr)
  | _ => none
def opRevl : List D → Option RV
  | [.list x] => some (.own (.list x.reverse))
  | _ => none
def opGet1 : List D → Option RV
  | [.dict kvs, k] => b2o (keyOk k && !isScr kvs) (some (.shr ((look kvs k).getD .none)))
  | _ => none
def opGet2 : List D → Option RV
  | [.dict kvs, k, x] => b2o (keyOk k && !isScr kvs) (some (.shr ((look kvs k).getD x)))
  | _ => none
def opTupr1 : List D → Option RV
  | [.int j] => b2o (decide (0 ≤ j) && decide (j ≤ 10000000)) (some (.shr (.tuple (rangeL 0 j.toNat))))
  | _ => none
def opListr1 : List D → Option RV
  | [.int j] => b2o (decide (0 ≤ j) && decide (j ≤ 10000000)) (some (.own (.list (rangeL 0 j.toNat))))
  | _ => none
def opv : Op → List D → Option RV
  | .add => opAdd
  | .sub => opSub
  | .mul => opMul
  | .fdiv => opFdiv
  | .mod => opMod
  | .pow => opPow
  | .shl => opShl
  | .shr => opShr
  | .xor => opXor
  | .neg => opNeg
  | .eq => opEq
  | .ne => opNe
  | .lt => opLt
  | .le => opLe
  | .gt => opGt
  | .ge => opGe
  | .isn => opIsn
  | .isnn => opIsnn
  | .inn => opInn
  | .nin => opNin
  | .len => opLen
  | .abs => opAbs
  | .min2 => opMin2
  | .max2 => opMax2
  | .int => opInt
  | .list => opList
  | .tuple => opTuple
  | .sorted => opSorted
  | .sum => opSum
  | .maxl => opMaxl
  | .minl => opMinl
  | .isi t => opIsi t
  | .idx => opIdx
  | .revl => opRevl
  | .get1 => opGet1
  | .get2 => opGet2
  | .tupr1 => opTupr1
  | .listr1 => opListr1
  | .count => fun _ => none
  | .index => fun _ => none
  | .ist => opIst
  | .isnt => opIsnt
  | .tupr2 => fun _ => none
  | .listr2 => fun _ => none
  | .dictp => fun _ => none

/-- a list's methods that change it: what they give, the list behind -/
def mAppend (xs : List D) : List D → Option (D × List D)
  | [y] => if xs.length < mAx then some (.none, xs ++ [y]) else none
  | _ => none
def mExtend (xs : List D) : List D → Option (D × List D)
  | [.list ys] => if xs.length + ys.length ≤ mAx then some (.none, xs ++ ys) else none
  | _ => none
def mPop (xs : List D) : List D → Option (D × List D)
  | [] => (xs[xs.length - 1]?).map fun y => (y, xs.dropLast)
  | _ => none
def mPopi (xs : List D) : List D → Option (D × List D)
  | [.int k] => if lim62 k then (place xs.length k).bind fun j => (xs[j]?).map fun y => (y, xs.eraseIdx j) else none
  | _ => none
def mth : Mt → List D → List D → Option (D × List D)
  | .append => mAppend
  | .extend => mExtend
  | .pop => mPop
  | .popi => mPopi
  | .remove => fun _ _ => none
/-! ### slots -/
def getS (ρ : Sl) (i : Nat) : PV := (ρ[i]?).getD .non
/-- may this slot be given another value? -/
def freeS : PV → Bool
  | .hld io lk _ => !io && !lk
  | _ => true
def setS (ρ : Sl) (i : Nat) (p : PV) : Option Sl := if freeS (getS ρ i) && decide (i < ρ.length) then some (ρ.set i p) else none
/-- behind a turn: what was unknown ahead of the loop is forgotten -/
def rst : Sl → Sl → Sl
  | .non :: b, p :: r => (match p with | .hld true _ _ => p | _ => .non) :: rst b r
  | _ :: b, p :: r => p :: rst b r
  | _, r => r
def wipeS (ρ : Sl) : List Nat → Sl
  | [] => ρ
  | v :: vs => (wipeS ρ vs).set v .non
def noMut (ρ : Sl) (vs : List Nat) : Bool := vs.all fun v => match getS ρ v with | .hld .. => false | _ => true
/-- the slots vs as they were in ρ0 -/
def backS (ρ0 ρ : Sl) : List Nat → Sl
  | [] => ρ
  | v :: vs => (backS ρ0 ρ vs).set v (getS ρ0 v)

mutual
def asg : Tg → RV → Sl → Option Sl
  | .var i, v, ρ => setS ρ i v.pv
  | .tup ts, v, ρ => match v.d with
    | .tuple ds => if ds.length = ts.len then asgs ts ds ρ else none
    | .list ds => if ds.length = ts.len then asgs ts ds ρ else none
    | _ => none
def asgs : Tgs → List D → Sl → Option Sl
  | .nil, [], ρ => some ρ
  | .cons t ts, d :: ds, ρ => (asg t (.shr d) ρ).bind fun ρ' => asgs ts ds ρ'
  | _, _, _ => none
end

/-- an operand: a value, or the list or dict of a slot, where it lies -/
inductive Opr where
  | val (d : D) | slot (i : Nat)
def Opr.get (ρ : Sl) : Opr → Option D
  | .val d => some d
  | .slot i => match getS ρ i with
    | .hld _ _ d => some d
    | _ => none
def gets (ρ : Sl) : List Opr → Option (List D)
  | [] => some []
  | o :: os => (o.get ρ).bind fun d => (gets ρ os).map (d :: ·)
/-- the slots that are handed in -/
def maskOf : List Opr → List Bool
  | [] => []
  | .slot _ :: os => true :: maskOf os
  | .val _ :: os => false :: maskOf os
def slotsOf : List Opr → List Nat
  | [] => []
  | .slot i :: os => i :: slotsOf os
  | .val _ :: os => slotsOf os
def putOuts (ρ : Sl) : List Nat → List D → Option Sl
  | [], [] => some ρ
  | i :: is, d :: ds => match getS ρ i with
    | .hld io false _ => putOuts (ρ.set i (.hld io false d)) is ds
    | _ => none
  | _, _ => none
def R.ofO {α : Type} (ρ : Sl) : Option α → R α
  | some a => .ok a ρ
  | none => .fail
def R.dat (r : R RV) : R D := r.bind fun v ρ => .ok v.d ρ

/-- a def is called -/
def callV (c : Calls) (f : Nat) (os : List Opr) (ρ' : Sl) : R RV := match gets ρ' os with
  | some ds => if (slotsOf os).Nodup then match c f ds with
    | .fail => .fail
    | .exc x outs => match putOuts ρ' (slotsOf os) outs with
      | some ρ2 => .exc x ρ2
      | none => .fail
    | .ok v outs => match putOuts ρ' (slotsOf os) outs with
      | some ρ2 => .ok v ρ2
      | none => .fail
    else .fail
  | none => .fail
/-- a place of a list or dict is given another value -/
def stoV (ρ : Sl) (i : Nat) (x : RV) (y : D) : Out := match getS ρ i, x with
  | .hld io false (.list xs), .shr (.int j) => match place xs.length j with
    | some p => .nx (ρ.set i (.hld io false (.list (xs.set p y))))
    | none => .fail
  | .hld io false (.dict kvs), .shr kd => if keyOk kd && !isScr kvs && decide (kvs.length < mAx) then .nx (ρ.set i (.hld io false (.dict (put kvs kd y)))) else .fail
  | _, _ => .fail
/-- .. of a dict is taken out -/
def delV (ρ : Sl) (i : Nat) (x : RV) : Out := match getS ρ i, x with
  | .hld io false (.dict kvs), .shr kd => if keyOk kd && !isScr kvs && (look kvs kd).isSome then .nx (ρ.set i (.hld io false (.dict (rem kvs kd)))) else .fail
  | _, _ => .fail
/-- what a loop walks: the items; the slot that it walks, where it is one -/
structure Its where
  xs : List D
  lk : Option Nat := none
def lockS (ρ : Sl) : Option Nat → Option Sl
  | none => some ρ
  | some i => match getS ρ i with
    | .hld io false d => some (ρ.set i (.hld io true d))
    | .hld _ true _ => some ρ
    | _ => none
/-- the walked slot as it was ahead of the loop -/
def unlockS (ρ0 ρ : Sl) : Option Nat → Sl
  | none => ρ
  | some i => match getS ρ0 i, getS ρ i with
    | .hld io lk _, .hld _ _ d => ρ.set i (.hld io lk d)
    | _, _ => ρ

/-- what the slots are at a statement's end, changed -/
def Out.map (k : Sl → Sl) : Out → Out
  | .fail => .fail
  | .nx ρ => .nx (k ρ)
  | .bk ρ => .bk (k ρ)
  | .ct ρ => .ct (k ρ)
  | .rt v ρ => .rt v (k ρ)
  | .exc c ρ => .exc c (k ρ)
/-- several stores at once -/
def putAll : List Nat → List RV → Sl → Option Sl
  | [], [], ρ => some ρ
  | i :: is, v :: vs, ρ => (setS ρ i v.pv).bind fun ρ' => putAll is vs ρ'
  | _, _, _ => none
def forL (ρ0 : Sl) (f : D → Sl → Out) : List D → Sl → Out
  | [], ρ => .nx ρ
  | x :: xs, ρ => match f x ρ with
    | .nx ρ' => forL ρ0 f xs (rst ρ0 ρ')
    | .ct ρ' => forL ρ0 f xs (rst ρ0 ρ')
    | .bk ρ' => .nx (rst ρ0 ρ')
    | o => o
def whileL (ρ0 : Sl) (t : Sl → R Bool) (f : Sl → Out) : Nat → Sl → Out
  | 0, _ => .fail
  | n + 1, ρ => match t ρ with
    | .fail => .fail
    | .exc c ρ' => .exc c ρ'
    | .ok false ρ' => .nx ρ'
    | .ok true ρ' => match f ρ' with
      | .nx ρ2 => whileL ρ0 t f n (rst ρ0 ρ2)
      | .ct ρ2 => whileL ρ0 t f n (rst ρ0 ρ2)
      | .bk ρ2 => .nx (rst ρ0 ρ2)
      | o => o
/-- a comprehension's turns: f makes of an item none, or one more value -/
def compL (f : D → Sl → R (Option D)) : List D → Sl → R (List D)
  | [], ρ => .ok [] ρ
  | x :: xs, ρ => (f x ρ).bind fun o ρ' => (compL f xs ρ').bind fun ys ρ2 => .ok (o.toList ++ ys) ρ2
/-- all, any: turns until one ends it -/
def stopL (b : Bool) (f : D → Sl → R (Option Bool)) : List D → Sl → R Bool
  | [], ρ => .ok (!b) ρ
  | x :: xs, ρ => (f x ρ).bind fun o ρ' => if o = some b then .ok b ρ' else stopL b f xs ρ'
/-- one turn of a comprehension: the target, the tests, the element; only slots vs were touched -/
def turn {α : Type} (vs : List Nat) (tg : Tg) (t : Sl → R Bool) (e : Sl → R α) (x : D) (ρ : Sl) : R (Option α) :=
  match asg tg (.shr x) ρ with
  | none => .fail
  | some ρ1 => (t ρ1).bind fun b ρ2 => if b then (e ρ2).bind fun d ρ3 => .ok (some d) (wipeS ρ3 vs) else .ok none (wipeS ρ2 vs)
def wFuel : Nat := 1000000
def noX {α : Type} : R α → R α
  | .exc _ _ => .fail
  | r => r
/-- in a comprehension's block: its slots are wiped, then back; nothing is raised -/
def inBlk {α : Type} (vs : List Nat) (ρ : Sl) (f : Sl → R α) : R α :=
  if noMut ρ vs then (noX (f (wipeS ρ vs))).bind fun a ρ' => .ok a (backS ρ ρ' vs) else .fail

def boolOf : RV → Option Bool
  | .shr (.bool b) => some b
  | _ => none
/-- what ends all, any -/
def Qt.end? : Qt → Option Bool
  | .all => some false
  | .any => some true
  | .sum => none

mutual
def evE (h : List Calls) : E → Sl → R RV
  | .cst d, ρ => .ok (.shr d) ρ
  | .var i, ρ => match getS ρ i with
    | .shr d => .ok (.shr d) ρ
    | .hld false false d => .ok (.shr d) (ρ.set i (.shr d))
    | _ => .fail
  | .ref _, _ => .fail
  | .tup es, ρ => (evEs h es ρ).bind fun ds ρ' => .ok (.shr (.tuple ds)) ρ'
  | .lst es, ρ => (evEs h es ρ).bind fun ds ρ' => .ok (.own (.list ds)) ρ'
  | .dic ks vs, ρ => match ks, vs with
    | .nil, .nil => .ok (.own (.dict [])) ρ
    | _, _ => .fail
  | .op o es, ρ => (evOs h es ρ).bind fun os ρ' => R.ofO ρ' ((gets ρ' os).bind (opv o))
  | .sl e lo hi, ρ => (evO h e ρ).bind fun o ρ1 => (evEo h lo ρ1).bind fun l ρ2 => (evEo h hi ρ2).bind fun u ρ3 => match o.get ρ3 with
    | some (.list xs) => .ok (.own (.list (cut xs l u))) ρ3
    | some (.tuple xs) => .ok (.shr (.tuple (cut xs l u))) ρ3
    | _ => .fail
  | .slr e, ρ => (evO h e ρ).bind fun o ρ1 => match o.get ρ1 with
    | some (.list xs) => .ok (.own (.list xs.reverse)) ρ1
    | some (.tuple xs) => .ok (.shr (.tuple xs.reverse)) ρ1
    | _ => .fail
  | .not e, ρ => (evE h e ρ).bind fun v ρ' => match v with
    | .shr (.bool b) => .ok (.shr (.bool (!b))) ρ'
    | _ => .fail
  | .and a b, ρ => (evE h a ρ).bind fun v ρ' => match v with
    | .shr (.bool true) => evE h b ρ'
    | .shr (.bool false) => .ok (.shr (.bool false)) ρ'
    | _ => .fail
  | .or a b, ρ => (evE h a ρ).bind fun v ρ' => match v with
    | .shr (.bool true) => .ok (.shr (.bool true)) ρ'
    | .shr (.bool false) => evE h b ρ'
    | _ => .fail
  | .cond t a b, ρ => (evT h t ρ).bind fun c ρ' => if c then evE h a ρ' else evE h b ρ'
  | .chain o o' a b c, ρ => (evO h a ρ).bind fun x ρ1 => (evO h b ρ1).bind fun y ρ2 => match (gets ρ2 [x, y]).bind (opv o) with
    | some (.shr (.bool true)) => (evO h c ρ2).bind fun z ρ3 => R.ofO ρ3 ((gets ρ3 [y, z]).bind (opv o'))
    | some (.shr (.bool false)) => .ok (.shr (.bool false)) ρ2
    | _ => .fail
  | .call f es, ρ => match h with
    | [] => .fail
    | c :: _ => (evCs h es ρ).bind fun os ρ' => callV c f os ρ'
  | .star _, _ => .fail
  | .tups es, ρ => (evEs h es ρ).bind fun ds ρ' => if ds.length ≤ mAx then .ok (.shr (.tuple ds)) ρ' else .fail
  | .lsts es, ρ => (evEs h es ρ).bind fun ds ρ' => if ds.length ≤ mAx then .ok (.own (.list ds)) ρ' else .fail
  | .scall f m es, ρ => match h with
    | [] => .fail
    | c :: _ => ((evEs h es ρ).bind fun ds ρ' => if maskOf (ds.map .val) = m then .ok (ds.map .val) ρ' else .fail).bind fun os ρ' => callV c f os ρ'
  | .mth m i es, ρ => match getS ρ i with
    | .hld _ _ (.list _) => (evEs h es ρ).bind fun ds ρ' => match getS ρ' i with
      | .hld io false (.list xs) => match mth m xs ds with
        | some (v, ys) => .ok (.shr v) (ρ'.set i (.hld io false (.list ys)))
        | none => .fail
      | _ => .fail
    | _ => .fail
  | .comp vs tg it ts e, ρ => (evIt h it ρ).bind fun its ρ' => match lockS ρ' its.lk with
    | some ρ1 => (inBlk vs ρ1 (compL (turn vs tg (evT h ts) fun r => (evE h e r).dat) its.xs)).bind fun ds ρ2 =>
        if its.xs.length ≤ mAx then .ok (.own (.list ds)) (unlockS ρ' ρ2 its.lk) else .fail
    | none => .fail
  | .comp2 vs tg it ts vs1 tg1 it1 ts1 e, ρ => .fail
  | .dcomp vs tg it ts k v, ρ => .fail
  | .gen q vs tg it ts e, ρ => match h, q.end? with
    | c :: t, some b => (evIt (c :: t) it ρ).bind fun its ρ' => match lockS ρ' its.lk with
      | some ρ1 => (inBlk vs ρ1 (stopL b (turn vs tg (evT t ts) fun r => (evE t e r).bind fun v r' => R.ofO r' (boolOf v)) its.xs)).bind fun k ρ2 => .ok (.shr (.bool k)) (unlockS ρ' ρ2 its.lk)
      | none => .fail
    | _, _ => .fail
def evEo (h : List Calls) : Eo → Sl → R (Option Int)
  | .none, ρ => .ok none ρ
  | .some e, ρ => (evE h e ρ).bind fun v ρ' => match v with
    | .shr (.int i) => .ok (some i) ρ'
    | _ => .fail
/-- values, each shared -/
def evEs (h : List Calls) : Es → Sl → R (List D)
  | .nil, ρ => .ok [] ρ
  | .cons e es, ρ => match e with
    | .star e' => (evO h e' ρ).bind fun o ρ1 => match o.get ρ1 with
      | some (.tuple xs) => (evEs h es ρ1).bind fun ds ρ2 => .ok (xs ++ ds) ρ2
      | some (.list xs) => (evEs h es ρ1).bind fun ds ρ2 => .ok (xs ++ ds) ρ2
      | _ => .fail
    | e => (evE h e ρ).bind fun v ρ' => (evEs h es ρ').bind fun ds ρ2 => .ok (v.d :: ds) ρ2
/-- values, the new ones not yet shared -/
def evRs (h : List Calls) : Es → Sl → R (List RV)
  | .nil, ρ => .ok [] ρ
  | .cons e es, ρ => (evE h e ρ).bind fun v ρ' => (evRs h es ρ').bind fun vs ρ2 => .ok (v :: vs) ρ2
/-- an operand -/
def evO (h : List Calls) : E → Sl → R Opr
  | e, ρ => match e with
    | .var i => match getS ρ i with
      | .shr d => .ok (.val d) ρ
      | .hld _ _ _ => .ok (.slot i) ρ
      | .non => .fail
    | e => (evE h e ρ).bind fun v ρ' => .ok (.val v.d) ρ'
/-- an argument of a def: a value, or a slot that is handed in to be changed -/
def evC (h : List Calls) : E → Sl → R Opr
  | e, ρ => match e with
    | .ref i => match getS ρ i with
      | .hld _ false _ => .ok (.slot i) ρ
      | _ => .fail
    | e => (evE h e ρ).bind fun v ρ' => .ok (.val v.d) ρ'
def evCs (h : List Calls) : Es → Sl → R (List Opr)
  | .nil, ρ => .ok [] ρ
  | .cons e es, ρ => (evC h e ρ).bind fun o ρ' => (evCs h es ρ').bind fun os ρ2 => .ok (o :: os) ρ2
def evOs (h : List Calls) : Es → Sl → R (List Opr)
  | .nil, ρ => .ok [] ρ
  | .cons e es, ρ => (evO h e ρ).bind fun o ρ' => (evOs h es ρ').bind fun os ρ2 => .ok (o :: os) ρ2
def evT (h : List Calls) : T → Sl → R Bool
  | .yes, ρ => .ok true ρ
  | .val e, ρ => (evO h e ρ).bind fun o ρ' => R.ofO ρ' ((o.get ρ').bind truth)
  | .not t, ρ => (evT h t ρ).bind fun b ρ' => .ok (!b) ρ'
  | .and a b, ρ => (evT h a ρ).bind fun c ρ' => if c then evT h b ρ' else .ok false ρ'
  | .or a b, ρ => (evT h a ρ).bind fun c ρ' => if c then .ok true ρ' else evT h b ρ'
  | .cmp o a b, ρ => (evO h a ρ).bind fun x ρ1 => (evO h b ρ1).bind fun y ρ2 => match (gets ρ2 [x, y]).bind (opv o) with
    | some (.shr (.bool c)) => .ok c ρ2
    | _ => .fail
  | .chain o o' a b c, ρ => (evO h a ρ).bind fun x ρ1 => (evO h b ρ1).bind fun y ρ2 => match (gets ρ2 [x, y]).bind (opv o) with
    | some (.shr (.bool true)) => (evO h c ρ2).bind fun z ρ3 => match (gets ρ3 [y, z]).bind (opv o') with
      | some (.shr (.bool r)) => .ok r ρ3
      | _ => .fail
    | some (.shr (.bool false)) => .ok false ρ2
    | _ => .fail
def evIt (h : List Calls) : It → Sl → R Its
  | .rng1 a, ρ => (evE h a ρ).bind fun v ρ' => match v with
    | .shr (.int j) => if lim62 j then .ok ⟨rangeL 0 j.toNat, none⟩ ρ' else .fail
    | _ => .fail
  | .rng2 a b, ρ => (evE h a ρ).bind fun v ρ1 => (evE h b ρ1).bind fun u ρ2 => match v, u with
    | .shr (.int i), .shr (.int j) => if lim62 i && lim62 j then .ok ⟨rangeL i (j - i).toNat, none⟩ ρ2 else .fail
    | _, _ => .fail
  | .rng3 a b c, ρ => .fail
  | .seq e, ρ => (evO h e ρ).bind fun o ρ' => match o, o.get ρ' with
    | .slot i, some (.list xs) => .ok ⟨xs, some i⟩ ρ'
    | .val _, some (.list xs) => .ok ⟨xs, none⟩ ρ'
    | .val _, some (.tuple xs) => .ok ⟨xs, none⟩ ρ'
    | .val _, some (.dict [(.none, .list xs)]) => .ok ⟨xs, none⟩ ρ'
    | _, _ => .fail
  | .enum e, ρ => (evO h e ρ).bind fun o ρ' => match o, o.get ρ' with
    | .slot i, some (.list xs) => .ok ⟨xs.zipIdx.map fun p => .tuple [.int p.2, p.1], some i⟩ ρ'
    | .val _, some (.list xs) => .ok ⟨xs.zipIdx.map fun p => .tuple [.int p.2, p.1], none⟩ ρ'
    | .val _, some (.tuple xs) => .ok ⟨xs.zipIdx.map fun p => .tuple [.int p.2, p.1], none⟩ ρ'
    | _, _ => .fail
  | _, _ => .fail
end

mutual
def evS (h : List Calls) : S → Sl → Out
  | .pass, ρ => .nx ρ
  | .brk, ρ => .bk ρ
  | .cnt, ρ => .ct ρ
  | .ex e, ρ => match evE h e ρ with
    | .ok _ ρ' => .nx ρ'
    | .exc c ρ' => .exc c ρ'
    | .fail => .fail
  | .set tg e, ρ => match evE h e ρ with
    | .ok v ρ' => match asg tg v ρ' with
      | some ρ2 => .nx ρ2
      | none => .fail
    | .exc c ρ' => .exc c ρ'
    | .fail => .fail
  | .par is es, ρ => match evRs h es ρ with
    | .ok vs ρ' => match putAll is vs ρ' with
      | some ρ2 => .nx ρ2
      | none => .fail
    | .exc c ρ' => .exc c ρ'
    | .fail => .fail
  | .aug i o e, ρ => match o, getS ρ i with
    | .add, .shr (.int j) => match evE h e ρ with
      | .ok (.shr (.int k)) ρ' => match setS ρ' i (.shr (.int (j + k))) with
        | some ρ2 => .nx ρ2
        | none => .fail
      | .exc c ρ' => .exc c ρ'
      | _ => .fail
    | _, _ => .fail
  | .sto i k v, ρ => match evE h v ρ with
    | .ok y ρ1 => match getS ρ1 i with
      | .hld _ _ _ => match evE h k ρ1 with
        | .ok x ρ2 => stoV ρ2 i x y.d
        | .exc c ρ' => .exc c ρ'
        | .fail => .fail
      | _ => .fail
    | .exc c ρ' => .exc c ρ'
    | .fail => .fail
  | .augsto _ _ _ _, _ => .fail
  | .del i k, ρ => match getS ρ i with
    | .hld _ _ _ => match evE h k ρ with
      | .ok x ρ2 => delV ρ2 i x
      | .exc c ρ' => .exc c ρ'
      | .fail => .fail
    | _ => .fail
  | .ret e, ρ => match e with
    | .var i => match getS ρ i with
      | .shr d => .rt (.shr d) ρ
      | .hld false false d => .rt (.own d) (ρ.set i .non)
      | _ => .fail
    | e => match evE h e ρ with
      | .ok v ρ' => .rt v ρ'
      | .exc c ρ' => .exc c ρ'
      | .fail => .fail
  | .retn, ρ => .rt (.shr .none) ρ
  | .ite t a b, ρ => match evT h t ρ with
    | .ok c ρ' => if c then evSs h a ρ' else evSs h b ρ'
    | .exc c ρ' => .exc c ρ'
    | .fail => .fail
  | .for_ tg it b, ρ => match evIt h it ρ with
    | .ok its ρ' => match lockS ρ' its.lk with
      | some ρ1 => (forL ρ1 (fun x r => match asg tg (.shr x) r with
          | some r' => evSs h b r'
          | none => .fail) its.xs ρ1).map fun ρ2 => unlockS ρ' ρ2 its.lk
      | none => .fail
    | .exc c ρ' => .exc c ρ'
    | .fail => .fail
  | .whl t b, ρ => whileL ρ (evT h t) (evSs h b) wFuel ρ
  | .rais c, ρ => .exc c ρ
  | .try_ b c s, ρ => .fail
def evSs (h : List Calls) : Ss → Sl → Out
  | .nil, ρ => .nx ρ
  | .cons s ss, ρ => match evS h s ρ with
    | .nx ρ' => evSs h ss ρ'
    | o => o
end

/-- a def: how many slots, its parameters (true: handed in to be changed), its body -/
structure Def where
  slots : Nat
  ps : List Bool
  body : Ss
def parS : List Bool → List D → Option Sl
  | [], [] => some []
  | b :: bs, d :: ds => (parS bs ds).map fun r => (if b then .hld true false d else .shr d) :: r
  | _, _ => none
/-- the parameters' slots, with what is handed back in the changed ones -/
def outS : Sl → List D → Option Sl
  | [], [] => some []
  | .hld io lk _ :: r, d :: ds => (outS r ds).map (.hld io lk d :: ·)
  | .non :: r, ds => (outS r ds).map (.non :: ·)
  | .shr x :: r, ds => (outS r ds).map (.shr x :: ·)
  | _, _ => none
def RC.toR (ρ : Sl) : RC → R RV
  | .fail => .fail
  | .exc c outs => match outS ρ outs with
    | some ρ' => .exc c ρ'
    | none => .fail
  | .ok v outs => match outS ρ outs with
    | some ρ' => .ok v ρ'
    | none => .fail
def outsOf : List Bool → Sl → Option (List D)
  | [], _ => some []
  | true :: bs, .hld true false d :: r => (outsOf bs r).map (d :: ·)
  | false :: bs, _ :: r => outsOf bs r
  | _, _ => none
def runDef (h : List Calls) (d : Def) (ds : List D) : RC :=
  match parS d.ps ds with
  | none => .fail
  | some ρ => match evSs h d.body (ρ ++ List.replicate (d.slots - d.ps.length) .non) with
    | .rt v ρ' => match outsOf d.ps ρ' with
      | some o => .ok v o
      | none => .fail
    | .nx ρ' => match outsOf d.ps ρ' with
      | some o => .ok (.shr .none) o
      | none => .fail
    | .exc c ρ' => match outsOf d.ps ρ' with
      | some o => .exc c o
      | none => .fail
    | _ => .fail
def hist (defs : List Def) : Nat → List Calls
  | 0 => []
  | n + 1 => (fun f ds => match defs[f]? with
    | some d => runDef (hist defs n) d ds
    | none => .fail) :: hist defs n
def callN (defs : List Def) (n f : Nat) (ds : List D) : RC :=
  match hist defs n with
  | c :: _ => c f ds
  | [] => .fail
end Ev
end
section
set_option Elab.async false
set_option linter.all false
/-! From the given text to the small language. -/
namespace Ev
open PySem
/-- what the text's names mean where one stands: nm: the slots' names; sc: the block's scope; st: the slots that may be stored here (none: all); gb: in a generator expression (no further one in it) -/
structure Sta where
  nm : List Str
  sc : Scope
  st : Option (List Nat) := none
  gb : Bool := false
  hg : Bool := false
  fn : List (Str × Nat × List Bool)
  cs : List (Str × D)
  bl : List Str

def kd (g : Sta) (x : Str) : Option NameKind := g.sc.names.lookup x
def seen (g : Sta) (x : Str) : Bool := match kd g x with
  | some .local => true
  | some .cell => true
  | some .free => true
  | _ => false
def slot (g : Sta) (x : Str) : Option Nat := if seen g x && x != ("__debug__" : Str) && x != ("__classdict__" : Str) then (g.nm.idxOf? x) else none
def glb (g : Sta) (x : Str) : Bool := decide (kd g x = some .globalImplicit) && x != ("__debug__" : Str) && x != ("__name__" : Str)
/-- a built-in's name, that nothing of the text hides -/
def blt (g : Sta) (x : Str) : Bool := glb g x && g.bl.contains x
def storable (g : Sta) (i : Nat) : Bool := match g.st with
  | none => true
  | some l => l.contains i

def binOp : Operator → Option Op
  | .Add => some .add
  | .Sub => some .sub
  | .Mult => some .mul
  | .FloorDiv => some .fdiv
  | .Mod => some .mod
  | .Pow => some .pow
  | .LShift => some .shl
  | .RShift => some .shr
  | .BitXor => some .xor
  | _ => none
def cmpOp : CmpOp → Option Op
  | .Eq => some .eq
  | .NotEq => some .ne
  | .Lt => some .lt
  | .LtE => some .le
  | .Gt => some .gt
  | .GtE => some .ge
  | .In => some .inn
  | .NotIn => some .nin
  | .Is => some .ist
  | .IsNot => some .isnt
def isSet : Expr → Bool
  | .Set .. => true
  | _ => false
def isNone : Expr → Bool
  | .Constant .none _ _ => true
  | _ => false
def cCmp (op : CmpOp) (b : Expr) : Option Op := if isSet b then none else match op with
  | .Is => if isNone b then some .isn else some .ist
  | .IsNot => if isNone b then some .isnn else some .isnt
  | op => cmpOp op
def tyOf (x : Str) : Option Ty :=
  if x == "int" then some .int else if x == "bool" then some .bool else if x == "str" then some .str else if x == "tuple" then some .tuple else if x == "list" then some .list else if x == "dict" then some .dict else none
def one1 (x : Str) : Option Op :=
  if x == "len" then some .len else if x == "abs" then some .abs else if x == "int" then some .int else if x == "list" then some .list else if x == "tuple" then some .tuple
  else if x == "sorted" then some .sorted else if x == "sum" then some .sum else if x == "max" then some .maxl else if x == "min" then some .minl else none
def one2 (x : Str) : Option Op := if x == "max" then some .max2 else if x == "min" then some .min2 else none
def quant (x : Str) : Option Qt := if x == "all" then some .all else if x == "any" then some .any else none
def mutOf (x : Str) (n : Nat) : Option Mt :=
  if x == "append" && n == 1 then some .append else if x == "pop" && n == 0 then some .pop else if x == "pop" && n == 1 then some .popi else if x == "extend" && n == 1 then some .extend else none
def relS (scope sc : Scope) : Scope :=
  { scope with names := scope.names.map fun (n, k) => if (k == .free && sc.kind == .function && sc.names.lookup n == some .cell) then (n, .cell) else (n, k) }
/-- a comprehension's own slots -/
def ownOf (nm : List Str) (scope : Scope) : List (Str × Nat) := scope.names.filterMap fun p => match p.2 with
  | .local => (nm.idxOf? p.1).map fun i => (p.1, i)
  | .cell => (nm.idxOf? p.1).map fun i => (p.1, i)
  | _ => none
def blkC (nm : List Str) (sc scope : Scope) (own : List (Str × Nat)) : Bool :=
  (match scope.kind with | .function => true | _ => false) && (scope.names.all fun y => decide (scope.names.lookup y.1 = some y.2)) && (own.all fun p => decide (nm[p.2]? = some p.1)) &&
    (scope.names.all fun y => match y.2 with
      | .free => (match sc.names.lookup y.1 with | some .cell => true | some .free => true | _ => false)
      | .local => decide (y.1 ∈ own.map (·.1)) || decide (y.1 ∉ nm)
      | .cell => decide (y.1 ∈ own.map (·.1)) || decide (y.1 ∉ nm)
      | _ => true)
def inBlkS (g : Sta) (scope : Scope) (own : List (Str × Nat)) : Sta := { g with sc := relS scope g.sc, st := some (own.map (·.2)) }
/-- within a generator expression: its own frame -/
def inGenS (g : Sta) (scope : Scope) (own : List (Str × Nat)) : Sta := { g with sc := scope, st := some (own.map (·.2)), gb := true }
def genC (nm : List Str) (sc scope : Scope) (own : List (Str × Nat)) : Bool :=
  blkC nm sc scope own && !scope.isCoroutine && (scope.names.all fun y => decide (y.2 ≠ .cell)) && decide (scope.names.lookup (".0" : Str) = some NameKind.local) && decide ((".0" : Str) ∉ nm)

def cTg (g : Sta) : Nat → Expr → Option Tg
  | 0, _ => none
  | n + 1, e => match e with
    | .Name x _ => (slot g x).bind fun i => if storable g i && (decide (kd g x = some .local) || decide (kd g x = some .cell)) then some (.var i) else none
    | .Tuple es _ _ => (cTgs g n es).map .tup
    | _ => none
where cTgs (g : Sta) : Nat → List Expr → Option Tgs
  | 0, _ => none
  | _ + 1, [] => some .nil
  | n + 1, e :: es => (cTg g n e).bind fun t => (cTgs g n es).map (Tgs.cons t)
/-- tuples of a loop's target: walked pairs are told as new -/
def isTup : Expr → Bool
  | .Tuple .. => true
  | _ => false
/-- no call of super() -/
def plainBase : Expr → Bool
  | .Call (.Name _ _) [] [] _ => false
  | _ => true
def isStd : Expr → Bool
  | .Starred .. => true
  | _ => false
def isLst : Expr → Bool
  | .List .. => true
  | _ => false
/-- no comprehension -/
def noComp : Expr → Bool
  | .ListComp .. => false
  | .SetComp .. => false
  | .DictComp .. => false
  | _ => true
/-- no pair of rows of one length -/
def noPair : Expr → Expr → Bool
  | .Tuple .., .Tuple .. => false
  | .List .., .Tuple .. => false
  | _, _ => true
def nmAt (g : Sta) (ln : Nat) : Expr → Option Str
  | .Name id p => if kd g id == some .local && p.line == ln then some id else none
  | _ => none
def bkd (g : Sta) : ScopeKind := if g.sc.kind.isAnnotationScope then .function else g.sc.kind
/-- what swappedStores says: none where it will not say -/
def parK (g : Sta) (ts vs : List Expr) : Option (Option (List Str)) :=
  if !(ts.length == 2 || ts.length == 3) || vs.length != ts.length || bkd g != .function then some none
  else if vs.any isStd then some none
  else if (ts.filterMap (nmAt g ((ts.head?.map (·.pos.line)).getD 0))).length != ts.length || (ts.filterMap (nmAt g ((ts.head?.map (·.pos.line)).getD 0))).eraseDups.length != (ts.filterMap (nmAt g ((ts.head?.map (·.pos.line)).getD 0))).length then some none
  else if vs.all (foldedForSure 8) then some none
  else if vs.all (constantsAlone 8) then none else some (some (ts.filterMap (nmAt g ((ts.head?.map (·.pos.line)).getD 0))))
def isNm : Expr → Option Str
  | .Name x _ => some x
  | _ => none
/-- names that may be stored: their slots -/
def nmSl (g : Sta) : List Expr → Option (List Nat)
  | [] => some []
  | e :: es => (isNm e).bind fun x => (slot g x).bind fun i => if storable g i && (decide (kd g x = some .local) || decide (kd g x = some .cell)) then (nmSl g es).map (i :: ·) else none
/-- a, b = x, y -/
def parC (g : Sta) (ts es : List Expr) : Option (List Nat) := (nmSl g ts).bind fun is => (parK g ts es).bind fun r =>
  if decide (is.Nodup) && decide (es.length = ts.length) && decide (es.length ≤ 1000) && !es.any isStd && (match r with
    | none => true
    | some l => decide (l = ts.filterMap isNm) && ts.all fun e => match isNm e with | some x => decide (kd g x = some .local) | none => false) then some is else none
/-- f(e) within a call -/
def inner : Expr → Option (Str × Expr)
  | .Call (.Name r _) [a] [] _ => some (r, a)
  | _ => none
def genOf : Expr → Option (Expr × Expr × Expr × List Expr × Scope)
  | .GeneratorExp elt [⟨tg, iter, ifs, 0⟩] scope _ => some (elt, tg, iter, ifs, scope)
  | _ => none
/-- x[::-1] -/
def isRev : Expr → Bool
  | .Slice none none (some (.UnaryOp .USub (.Constant (.int 1) _ _) _)) _ => true
  | _ => false
def isSlice : Expr → Bool
  | .Slice .. => true
  | _ => false

inductive RgE where
  | r1 (a : Expr) | r2 (a b : Expr) | en (a : Expr) | sq
/-- what a loop walks: range(..), enumerate(..), or a value -/
def rangeOf (g : Sta) (tg e : Expr) : RgE := match e with
  | .Call (.Name r _) [a] [] _ => if r == "range" && blt g r then .r1 a else if r == "enumerate" && blt g r && isTup tg then .en a else .sq
  | .Call (.Name r _) [a, b] [] _ => if r == "range" && blt g r then .r2 a b else .sq
  | _ => .sq
mutual
def cE : Nat → Sta → Expr → Option E
  | 0, _, _ => none
  | n + 1, g, e => match e with
    | .Constant c _ _ => match c with
      | .none => some (.cst .none)
      | .bool b => some (.cst (.bool b))
      | .int i => some (.cst (.int i))
      | .str x => some (.cst (.str x))
      | _ => none
    | .Name x _ => match slot g x with
      | some i => some (.var i)
      | none => if glb g x then (g.cs.lookup x).map .cst else none
    | .Tuple es _ _ => if es.any isStd then (cEs n g es).map .tups else if es.length ≤ 1000 then (cEs n g es).map .tup else none
    | .List es _ => if es.any isStd then (cEs n g es).map .lsts else if es.length ≤ 1000 then (cEs n g es).map .lst else none
    | .Dict [] [] _ => some (.dic .nil .nil)
    | .BinOp a o b _ => (binOp o).bind fun o => (cE n g a).bind fun x => (cE n g b).map fun y => .op o (.cons x (.cons y .nil))
    | .UnaryOp .USub a _ => (cE n g a).map fun x => .op .neg (.cons x .nil)
    | .UnaryOp .Not a _ => (cE n g a).map .not
    | .BoolOp op es _ => match es with
      | a :: b :: r => cBool n g op (a :: b :: r)
      | _ => none
    | .IfExp t a b _ => (cT n g t).bind fun t => (cE n g a).bind fun x => (cE n g b).map fun y => .cond t x y
    | .Compare a [o] [b] _ => (cCmp o b).bind fun op => match op with
      | .isn => (cE n g a).map fun x => .op .isn (.cons x .nil)
      | .isnn => (cE n g a).map fun x => .op .isnn (.cons x .nil)
      | op => (cE n g a).bind fun x => (cE n g b).map fun y => .op op (.cons x (.cons y .nil))
    | .Compare a [o, o'] [b, c] _ => (cmpOp o).bind fun op => (cmpOp o').bind fun op' => if isSet b || isSet c then none else
        (cE n g a).bind fun x => (cE n g b).bind fun y => (cE n g c).map fun z => .chain op op' x y z
    | .Subscript e i _ => if isRev i then (cE n g e).map .slr else match i with
      | .Slice lo hi none _ => (cE n g e).bind fun x => (cEo n g lo).bind fun l => (cEo n g hi).map fun h => .sl x l h
      | i => if isSlice i then none else (cE n g e).bind fun x => (cE n g i).map fun y => .op .idx (.cons x (.cons y .nil))
    | .Call (.Name f _) args [] _ => cCall n g f args
    | .Call (.Attribute (.Name x _) m ap) args [] cp => if ap.endLine == cp.line && decide (args.length < 20) && !args.any isStd then
        (slot g x).bind fun i => (mutOf m args.length).bind fun k => (cEs n g args).map fun xs => .mth k i xs
      else none
    | .ListComp elt [⟨tg, iter, ifs, 0⟩] scope _ => if blkC g.nm g.sc scope (ownOf g.nm scope) && !isSet iter then
        (cIt n g tg iter).bind fun it => (cTg (inBlkS g scope (ownOf g.nm scope)) n tg).bind fun t => (cIfs n (inBlkS g scope (ownOf g.nm scope)) ifs).bind fun ts =>
          (cE n (inBlkS g scope (ownOf g.nm scope)) elt).map fun x => .comp ((ownOf g.nm scope).map (·.2)) t it ts x
      else none
    | _ => none
def cCall : Nat → Sta → Str → List Expr → Option E
  | 0, _, _, _ => none
  | n + 1, g, f, args => match g.fn.lookup f, args with
    | some (k, m), e1 :: es => if !glb g f then none else if es.any isStd then (if isStd e1 then none else (cEs n g (e1 :: es)).map fun xs => .scall k m xs) else (cAs n g m (e1 :: es)).map fun xs => .call k xs
    | some _, [] => none
    | none, [a] => if !blt g f then none else match genOf a with
      | some (elt, tg, iter, ifs, scope) => (quant f).bind fun q => if genC g.nm g.sc scope (ownOf g.nm scope) && !g.gb && g.hg && !isSet iter && !isLst iter then
          (cIt n g tg iter).bind fun it => (cTg (inGenS g scope (ownOf g.nm scope)) n tg).bind fun t => (cIfs n (inGenS g scope (ownOf g.nm scope)) ifs).bind fun ts =>
            (cE n (inGenS g scope (ownOf g.nm scope)) elt).map fun x => .gen q ((ownOf g.nm scope).map (·.2)) t it ts x
        else none
      | none => match inner a with
        | some (r, b) => if r == "range" && blt g r && f == "tuple" then (cE n g b).map fun x => .op .tupr1 (.cons x .nil)
            else if r == "range" && blt g r && f == "list" then (cE n g b).map fun x => .op .listr1 (.cons x .nil)
            else if r == "reversed" && blt g r && f == "list" then (cE n g b).map fun x => .op .revl (.cons x .nil)
            else (one1 f).bind fun o => (cE n g a).map fun x => .op o (.cons x .nil)
        | none => (one1 f).bind fun o => (cE n g a).map fun x => .op o (.cons x .nil)
    | none, [a, b] => if !blt g f then none else if f == "isinstance" then (match isNm b with
          | some t => if blt g t then (tyOf t).bind fun ty => (cE n g a).map fun x => .op (.isi ty) (.cons x .nil) else none
          | none => none)
        else (one2 f).bind fun o => (cE n g a).bind fun x => (cE n g b).map fun y => .op o (.cons x (.cons y .nil))
    | none, _ => none
def cBool : Nat → Sta → BoolOp → List Expr → Option E
  | 0, _, _, _ => none
  | n + 1, g, op, es => match es with
    | [] => none
    | [a] => cE n g a
    | a :: b :: r => (cE n g a).bind fun x => (cBool n g op (b :: r)).map fun y => match op with
      | .And => .and x y
      | .Or => .or x y
def cEs : Nat → Sta → List Expr → Option Es
  | 0, _, _ => none
  | _ + 1, _, [] => some .nil
  | n + 1, g, e :: es => match e with
    | .Starred e _ => (cE n g e).bind fun x => (cEs n g es).map (Es.cons (.star x))
    | e => (cE n g e).bind fun x => (cEs n g es).map (Es.cons x)
/-- arguments: what is handed in to be changed is a slot -/
def cAs : Nat → Sta → List Bool → List Expr → Option Es
  | 0, _, _, _ => none
  | _ + 1, _, [], [] => some .nil
  | n + 1, g, true :: bs, e :: es => (isNm e).bind fun x => (slot g x).bind fun i => (cAs n g bs es).map (Es.cons (.ref i))
  | n + 1, g, false :: bs, e :: es => (cE n g e).bind fun x => (cAs n g bs es).map (Es.cons x)
  | _ + 1, _, _, _ => none
def cEo : Nat → Sta → Option Expr → Option Eo
  | 0, _, _ => none
  | _ + 1, _, none => some .none
  | n + 1, g, some e => (cE n g e).map .some
def cT : Nat → Sta → Expr → Option T
  | 0, _, _ => none
  | n + 1, g, e => match e with
    | .UnaryOp .Not a _ => (cT n g a).map .not
    | .BoolOp op es _ => cTs n g op es
    | .IfExp .. => none
    | .Compare a [o] [b] _ => (cCmp o b).bind fun op => match op with
      | .isn => (cE n g a).map fun x => .val (.op .isn (.cons x .nil))
      | .isnn => (cE n g a).map fun x => .val (.op .isnn (.cons x .nil))
      | op => (cE n g a).bind fun x => (cE n g b).map fun y => .cmp op x y
    | .Compare a [o, o'] [b, c] _ => (cmpOp o).bind fun op => (cmpOp o').bind fun op' => if isSet b || isSet c then none else
        (cE n g a).bind fun x => (cE n g b).bind fun y => (cE n g c).map fun z => .chain op op' x y z
    | .Compare .. => none
    | e => (cE n g e).map .val
def cTs : Nat → Sta → BoolOp → List Expr → Option T
  | 0, _, _, _ => none
  | n + 1, g, op, es => match es with
    | [] => none
    | [a] => cT n g a
    | a :: b :: r => (cT n g a).bind fun x => (cTs n g op (b :: r)).map fun y => match op with
      | .And => .and x y
      | .Or => .or x y
def cIfs : Nat → Sta → List Expr → Option T
  | 0, _, _ => none
  | n + 1, g, ifs => match ifs with
    | [] => some .yes
    | [c] => cT n g c
    | _ => none
def cIt : Nat → Sta → Expr → Expr → Option It
  | 0, _, _, _ => none
  | n + 1, g, tg, e => match rangeOf g tg e with
    | .r1 a => (cE n g a).map .rng1
    | .r2 a b => (cE n g a).bind fun x => (cE n g b).map fun y => .rng2 x y
    | .en a => (cE n g a).map .enum
    | .sq => if isSet e then none else (cE n g e).map .seq
end

mutual
def cS : Nat → Sta → Stmt → Option S
  | 0, _, _ => none
  | n + 1, g, s => match s with
    | .Pass _ => some .pass
    | .Break _ => some .brk
    | .Continue _ => some .cnt
    | .Expr e _ => if noComp e then (cE n g e).map .ex else none
    | .Return none _ => some .retn
    | .Return (some e) _ => (cE n g e).map .ret
    | .If t a b _ => (cT n g t).bind fun t => (cSs n g a).bind fun x => (cSs n g b).map fun y => .ite t x y
    | .While t b [] _ => (cT n g t).bind fun t => (cSs n g b).map fun x => .whl t x
    | .For tg it b [] _ => (cIt n g tg it).bind fun i => (cTg g n tg).bind fun t => (cSs n g b).map fun x => .for_ t i x
    | .Assign [tg] e _ => match tg with
      | .Name x p => (cTg g n (.Name x p)).bind fun t => (cE n g e).map fun y => .set t y
      | .Subscript (.Name x _) i _ => if isSlice i then none else (slot g x).bind fun j => (cE n g i).bind fun k => (cE n g e).map fun y => .sto j k y
      | .Tuple ts _ _ => match e with
        | .Tuple es _ _ => (parC g ts es).bind fun is => (cEs n g es).map fun y => .par is y
        | e => if noComp e then (cTg.cTgs g n ts).bind fun t => (cE n g e).map fun y => .set (.tup t) y else none
      | _ => none
    | .AugAssign (.Name x _) .Add e _ => (slot g x).bind fun j => if storable g j && (decide (kd g x = some .local) || decide (kd g x = some .cell)) then (cE n g e).map fun y => .aug j .add y else none
    | .Delete [.Subscript (.Name x _) i _] _ => if isSlice i then none else (slot g x).bind fun j => (cE n g i).map fun k => .del j k
    | _ => none
def cSs : Nat → Sta → List Stmt → Option Ss
  | 0, _, _ => none
  | _ + 1, _, [] => some .nil
  | n + 1, g, s :: ss => (cS n g s).bind fun x => (cSs n g ss).map (Ss.cons x)
end
end Ev
end
section
set_option Elab.async false
set_option linter.all false
set_option maxRecDepth 100000
/-! Trees at values: what stands where (Rp), slots (SEnv), how one state follows another (Go), what is wanted behind (After). -/
namespace Ev
open PySem PySem.Spec PyProof.Rows L2

abbrev Sg := L2.St
def keyD : Key → D
  | .inl i => .int i
  | .inr x => .str x
/-- a tuple of xs: tracked, or of the written part -/
def TupAt (K : PySem.W.Frag) (F : Hp) (a : Addr) (xs : List V) : Prop := F a = some (.tup xs) ∨
  ∃ (o : Obj) (its : Array Value) (n : Nat), K.lookup a = some o ∧ o.cls = .type "tuple" ∧ o.data = .seq its n ∧ its.size ≤ sizeLine ∧ Vals xs its.toList
theorem TupAt.sq {K : PySem.W.Frag} {F : Hp} {a : Addr} {xs : List V} (h : TupAt K F a xs) : SqT K F a xs := h.imp .inl id
theorem TupAt.mono {K : PySem.W.Frag} {F F' : Hp} {a : Addr} {xs : List V} (e : Same F F') (h : TupAt K F a xs) : TupAt K F' a xs := h.imp (e _ _) id
mutual
/-- the tree d stands at v, in what is shared (F) or written (K) -/
inductive Rp (K : PySem.W.Frag) (F : Hp) : V → D → Prop
  | non : Rp K F .non .none
  | bl (b : Bool) : Rp K F (.bl b) (.bool b)
  | int (i : Int) : Rp K F (.int i) (.int i)
  | str (x : Str) : Rp K F (.str x) (.str x)
  | lst {a : Addr} {xs : List V} {ds : List D} : F a = some (.lst xs) → RpA K F xs ds → Rp K F (.ref a) (.list ds)
  | scr {a : Addr} {xs : List V} {ds : List D} : SqL K F a xs → RpA K F xs ds → Rp K F (.ref a) (.dict [(.none, .list ds)])
  | tup {a : Addr} {xs : List V} {ds : List D} : TupAt K F a xs → RpA K F xs ds → Rp K F (.ref a) (.tuple ds)
  | dic {a : Addr} {kvs : List (Key × V)} {ps : List (D × D)} : Rd F a (.dK kvs) → RpK K F kvs ps → Rp K F (.ref a) (.dict ps)
inductive RpA (K : PySem.W.Frag) (F : Hp) : List V → List D → Prop
  | nil : RpA K F [] []
  | cons {v : V} {vs : List V} {d : D} {ds : List D} : Rp K F v d → RpA K F vs ds → RpA K F (v :: vs) (d :: ds)
inductive RpK (K : PySem.W.Frag) (F : Hp) : List (Key × V) → List (D × D) → Prop
  | nil : RpK K F [] []
  | cons {k : Key} {v : V} {kvs : List (Key × V)} {d : D} {ps : List (D × D)} : Rp K F v d → RpK K F kvs ps → RpK K F ((k, v) :: kvs) ((keyD k, d) :: ps)
end
variable {K : PySem.W.Frag} {F F' F1 F2 H H' H1 H2 : Hp} {T : List Addr}
theorem Same.seqT {a : Addr} {xs : List V} (e : Same F F') (h : SqT K F a xs) : SqT K F' a xs := by
  rcases h with (h | ⟨o, h⟩) | h
  · exact .inl (.inl (e _ _ h))
  · exact .inl (.inr ⟨o, e _ _ h⟩)
  · exact .inr h
theorem Same.rd {a : Addr} {u : HO} (e : Same F F') (h : Rd F a u) : Rd F' a u := by
  rcases h with h | ⟨o, h⟩
  · exact .inl (e _ _ h)
  · exact .inr ⟨o, e _ _ h⟩
mutual
theorem Rp.mono (e : Same F F') : ∀ {v : V} {d : D}, Rp K F v d → Rp K F' v d
  | _, _, .non => .non
  | _, _, .bl b => .bl b
  | _, _, .int i => .int i
  | _, _, .str x => .str x
  | _, _, .lst h r => .lst (e _ _ h) (r.mono e)
  | _, _, .scr h r => .scr (e.seq h) (r.mono e)
  | _, _, .tup h r => .tup (h.mono e) (r.mono e)
  | _, _, .dic h r => .dic (Same.rd e h) (r.mono e)
theorem RpA.mono (e : Same F F') : ∀ {vs : List V} {ds : List D}, RpA K F vs ds → RpA K F' vs ds
  | _, _, .nil => .nil
  | _, _, .cons h r => .cons (h.mono e) (r.mono e)
theorem RpK.mono (e : Same F F') : ∀ {vs : List (Key × V)} {ds : List (D × D)}, RpK K F vs ds → RpK K F' vs ds
  | _, _, .nil => .nil
  | _, _, .cons h r => .cons (h.mono e) (r.mono e)
end
theorem RpA.length : ∀ {vs : List V} {ds : List D}, RpA K F vs ds → vs.length = ds.length
  | _, _, .nil => rfl
  | _, _, .cons _ r => by rw [List.length_cons, List.length_cons, r.length]
theorem RpA.get : ∀ {vs : List V} {ds : List D} {i : Nat} {d : D}, RpA K F vs ds → ds[i]? = some d → ∃ v, vs[i]? = some v ∧ Rp K F v d
  | _, _, _, _, .nil, h => by simp at h
  | _, _, 0, _, .cons h r, e => by simp at e; subst e; exact ⟨_, rfl, h⟩
  | _, _, i + 1, d, .cons h r, e => by
    obtain ⟨v, h1, h2⟩ := r.get (i := i) (d := d) (by simpa using e)
    exact ⟨v, by simpa using h1, h2⟩
theorem RpA.append : ∀ {vs us : List V} {ds es : List D}, RpA K F vs ds → RpA K F us es → RpA K F (vs ++ us) (ds ++ es)
  | _, _, _, _, .nil, s => s
  | _, _, _, _, .cons h r, s => .cons h (r.append s)
theorem RpA.take : ∀ {vs : List V} {ds : List D} (n : Nat), RpA K F vs ds → RpA K F (vs.take n) (ds.take n)
  | _, _, 0, _ => .nil
  | _, _, _ + 1, .nil => .nil
  | _, _, n + 1, .cons h r => .cons h (r.take n)
theorem RpA.drop : ∀ {vs : List V} {ds : List D} (n : Nat), RpA K F vs ds → RpA K F (vs.drop n) (ds.drop n)
  | _, _, 0, r => r
  | _, _, _ + 1, .nil => .nil
  | _, _, n + 1, .cons _ r => r.drop n
theorem RpA.set : ∀ {vs : List V} {ds : List D} {v : V} {d : D} (i : Nat), RpA K F vs ds → Rp K F v d → RpA K F (vs.set i v) (ds.set i d)
  | _, _, _, _, _, .nil, _ => .nil
  | _, _, _, _, 0, .cons _ r, h => .cons h r
  | _, _, _, _, i + 1, .cons q r, h => .cons q (r.set i h)
theorem RpA.reverse {vs : List V} {ds : List D} (h : RpA K F vs ds) : RpA K F vs.reverse ds.reverse := by
  induction ds generalizing vs with
  | nil => cases h; exact .nil
  | cons d ds ih =>
    cases h with
    | cons h r => rw [List.reverse_cons, List.reverse_cons]; exact (ih r).append (.cons h .nil)
theorem RpA.dropLast {vs : List V} {ds : List D} (h : RpA K F vs ds) : RpA K F vs.dropLast ds.dropLast := by
  rw [List.dropLast_eq_take, List.dropLast_eq_take, h.length]; exact h.take _
theorem RpA.eraseIdx : ∀ {vs : List V} {ds : List D} (i : Nat), RpA K F vs ds → RpA K F (vs.eraseIdx i) (ds.eraseIdx i)
  | _, _, _, .nil => .nil
  | _, _, 0, .cons _ r => r
  | _, _, i + 1, .cons h r => .cons h (r.eraseIdx i)
theorem RpA.none {vs : List V} {ds : List D} {i : Nat} (h : RpA K F vs ds) (e : ds[i]? = Option.none) : vs[i]? = Option.none := by
  rw [List.getElem?_eq_none_iff] at e ⊢; rw [h.length]; exact e

/-- what a frame alone holds at a: a list or a dict of shared things -/
def Holds (K : PySem.W.Frag) (F H : Hp) (a : Addr) : D → Prop
  | .list ds => ∃ xs, H a = some (.lst xs) ∧ RpA K F xs ds
  | .dict ps => ∃ kvs, H a = some (.dK kvs) ∧ RpK K F kvs ps
  | _ => False
theorem Holds.some {a : Addr} {d : D} (h : Holds K F H a d) : ∃ o, H a = some o := by
  cases d <;> first | exact h.elim | (obtain ⟨_, e, _⟩ := h; exact ⟨_, e⟩)
theorem Holds.mono {a : Addr} {d : D} (h : Holds K F H a d) (e : Same F F') (q : H' a = H a) : Holds K F' H' a d := by
  cases d <;> first | exact h.elim | (obtain ⟨x, e1, r⟩ := h; exact ⟨x, q.trans e1, r.mono e⟩)
/-- .. shared from now on -/
theorem Holds.rp {a : Addr} {d : D} (h : Holds K F H a d) (e : Same F F') (q : F' a = H a) : Rp K F' (.ref a) d := by
  cases d <;> first | exact h.elim | skip
  · obtain ⟨x, e1, r⟩ := h; exact .lst (q.trans e1) (r.mono e)
  · obtain ⟨x, e1, r⟩ := h; exact .dic (.inl (q.trans e1)) (r.mono e)

def stV (σ : Sg) (i : Nat) : Option V := (σ[i]?).join
def SlotOk (K : PySem.W.Frag) (T : List Addr) (F H : Hp) (p : PV) (o : Option V) : Prop := match p with
  | .non => True
  | .shr d => ∃ v, o = some v ∧ Rp K F v d
  | .hld _ _ d => ∃ a, o = some (.ref a) ∧ F a = none ∧ a ∉ T ∧ Holds K F H a d
/-- the slot i holds the object at a alone -/
def OA (ρ : Sl) (σ : Sg) (i : Nat) (a : Addr) : Prop := (∃ io lk d, getS ρ i = .hld io lk d) ∧ stV σ i = some (.ref a)
def Own (ρ : Sl) (σ : Sg) (a : Addr) : Prop := ∃ i, OA ρ σ i a
structure SEnv (K : PySem.W.Frag) (T : List Addr) (F H : Hp) (ρ : Sl) (σ : Sg) : Prop where
  len : ρ.length = σ.length
  sub : Same F H
  tabF : ∀ a ∈ T, F a = none
  tabH : ∀ a ∈ T, GxR.TabG H a
  slot : ∀ i, SlotOk K T F H (getS ρ i) (stV σ i)
  apart : ∀ i j a, OA ρ σ i a → OA ρ σ j a → i = j
/-- from one state to another, by one who holds O alone -/
structure Fw (T : List Addr) (O : Addr → Prop) (F H F' H' : Hp) : Prop where
  fsub : Same F F'
  keep : ∀ a o, H a = some o → ¬ O a → a ∉ T → H' a = some o
  stay : ∀ a o, H a = some o → ∃ o', H' a = some o'
  new : ∀ a o, F' a = some o → F a = some o ∨ H a = none ∨ O a
structure Go (K : PySem.W.Frag) (T : List Addr) (σ : Sg) (ρ : Sl) (F H : Hp) (ρ' : Sl) (F' H' : Hp) : Prop where
  fw : Fw T (Own ρ σ) F H F' H'
  env : SEnv K T F' H' ρ' σ
  own : ∀ a, Own ρ' σ a → Own ρ σ a
  pin : ∀ i io lk d, getS ρ i = .hld io lk d → io = true ∨ lk = true → ∃ d', getS ρ' i = .hld io lk d' ∧ (lk = true → d' = d)
variable {σ σ' : Sg} {ρ ρ' ρ1 ρ2 : Sl}
theorem Fw.refl {O : Addr → Prop} : Fw T O F H F H := ⟨Same.refl _, fun _ _ h _ _ => h, fun _ o h => ⟨o, h⟩, fun _ _ h => .inl h⟩
theorem Fw.trans {O O1 : Addr → Prop} (a : Fw T O F H F1 H1) (b : Fw T O1 F1 H1 F2 H2) (ho : ∀ x, O1 x → O x ∨ H x = none) : Fw T O F H F2 H2 where
  fsub := a.fsub.trans b.fsub
  keep := fun x o h n t => b.keep x o (a.keep x o h n t) (fun q => (ho x q).elim n fun z => by rw [h] at z; cases z) t
  stay := fun x o h => let ⟨o1, h1⟩ := a.stay x o h; b.stay x o1 h1
  new := fun x o h => by
    rcases b.new x o h with h | h | h
    · exact a.new x o h
    · cases q : H x with
      | none => exact .inr (.inl rfl)
      | some u => obtain ⟨_, z⟩ := a.stay x u q; rw [h] at z; cases z
    · exact (ho x h).elim (fun q => .inr (.inr q)) fun q => .inr (.inl q)
theorem Go.refl (e : SEnv K T F H ρ σ) : Go K T σ ρ F H ρ F H := ⟨.refl, e, fun _ h => h, fun _ _ _ d h _ => ⟨d, h, fun _ => rfl⟩⟩
theorem Go.trans (a : Go K T σ ρ F H ρ1 F1 H1) (b : Go K T σ ρ1 F1 H1 ρ2 F2 H2) : Go K T σ ρ F H ρ2 F2 H2 :=
  ⟨a.fw.trans b.fw fun x h => .inl (a.own x h), b.env, fun x h => a.own x (b.own x h), fun i io lk d h q => by
    obtain ⟨d1, h1, e1⟩ := a.pin i io lk d h q
    obtain ⟨d2, h2, e2⟩ := b.pin i io lk d1 h1 q
    exact ⟨d2, h2, fun z => (e2 z).trans (e1 z)⟩⟩
theorem SEnv.own_some (e : SEnv K T F H ρ σ) {a : Addr} (h : Own ρ σ a) : ∃ o, H a = some o := by
  obtain ⟨i, ⟨io, lk, d, hi⟩, ha⟩ := h
  have s := e.slot i
  rw [hi, ha] at s
  obtain ⟨b, hb, _, _, q⟩ := s
  cases hb
  exact q.some
theorem SEnv.own_F (e : SEnv K T F H ρ σ) {a : Addr} (h : Own ρ σ a) : F a = none ∧ a ∉ T := by
  obtain ⟨i, ⟨io, lk, d, hi⟩, ha⟩ := h
  have s := e.slot i
  rw [hi, ha] at s
  obtain ⟨b, hb, f, t, _⟩ := s
  cases hb
  exact ⟨f, t⟩

/-- a value in hand, H0: the heap ahead of it -/
def RvOk (K : PySem.W.Frag) (T : List Addr) (F H H0 : Hp) (v : V) : RV → Prop
  | .shr d => Rp K F v d
  | .own d => ∃ a, v = .ref a ∧ F a = none ∧ a ∉ T ∧ H0 a = none ∧ Holds K F H a d
abbrev ExW := Str → Value → Prop
/-- what is wanted behind r, begun at ρ F H: W of an exception, Ok of a value -/
def After {α : Type} (K : PySem.W.Frag) (T : List Addr) (C : ExW) (W : WX) (σ : Sg) (ρ : Sl) (F H : Hp) (Ok : α → Sl → Hp → Hp → Prop) : R α → Prop
  | .fail => False
  | .exc c ρ' => ∀ F' H' cls dd, Go K T σ ρ F H ρ' F' H' → C c cls → W cls dd σ H'
  | .ok a ρ' => ∀ F' H', Go K T σ ρ F H ρ' F' H' → Ok a ρ' F' H'
variable {C : ExW} {W : WX}
theorem After.from {α : Type} {Ok : α → Sl → Hp → Hp → Prop} {r : R α} (g : Go K T σ ρ F H ρ1 F1 H1) (h : After K T C W σ ρ F H Ok r) : After K T C W σ ρ1 F1 H1 Ok r := by
  cases r with
  | fail => exact h
  | exc c ρ' => exact fun F' H' cls dd q => h F' H' cls dd (g.trans q)
  | ok a ρ' => exact fun F' H' q => h F' H' (g.trans q)
theorem After.mono {α : Type} {Ok Ok' : α → Sl → Hp → Hp → Prop} {r : R α} (h : After K T C W σ ρ F H Ok r) (m : ∀ a ρ' F' H', Go K T σ ρ F H ρ' F' H' → Ok a ρ' F' H' → Ok' a ρ' F' H') : After K T C W σ ρ F H Ok' r := by
  cases r with
  | fail => exact h
  | exc c ρ' => exact h
  | ok a ρ' => exact fun F' H' q => m _ _ _ _ q (h F' H' q)
theorem After.split {α β : Type} {Ok : β → Sl → Hp → Hp → Prop} {r : R α} {k : α → Sl → R β} (h : After K T C W σ ρ F H Ok (r.bind k)) :
    After K T C W σ ρ F H (fun a ρ1 F1 H1 => After K T C W σ ρ1 F1 H1 Ok (k a ρ1)) r := by
  cases r with
  | fail => exact h
  | exc c ρ' => exact h
  | ok a ρ' => exact fun F' H' q => After.from q h
theorem After.here {α : Type} {Ok : α → Sl → Hp → Hp → Prop} {a : α} (e : SEnv K T F H ρ σ) (h : After K T C W σ ρ F H Ok (.ok a ρ)) : Ok a ρ F H := h F H (.refl e)
end Ev
end
section
set_option Elab.async false
set_option linter.all false
set_option maxRecDepth 100000
set_option maxHeartbeats 1000000
/-! all(..), any(..) of a generator expression whose parts may call defs. -/
namespace Ev
open PySem PySem.Spec PyProof.Rows L2
open Sem (wp)
/-- the context of the generator's frame, begun at s -/
abbrev gcx (X : Cx) (A' : Around) (s : Shared) (H : Hp) (cenv : Env) (fp : List Addr) : Cx :=
  { X with A := A', s_0 := s, H_0 := H, env := cenv, outer := X.stack, stack := cenv :: X.stack, ex := fp, fn := fun _ => false, pn := [], xe := fun _ _ => False }
/-- all that stood stands -/
structure Kp (s s' : Shared) : Prop where
  os : s'.os = s.os
  bare : AllBare s'.gens
  keep : ∀ b o, s.heap.get? b = some o → s'.heap.get? b = some o
theorem Kp.inv {X : Cx} {pins : List (Addr × Obj)} {σ : L2.St} {H : Hp} {s s' : Shared} (k : Kp s s') (I : Inv X pins σ H s) : Inv X pins σ H s' :=
  I.call' (ch := []) k.os (Un.kept k.keep) (I.hok.kept k.keep) k.bare fun b hb => absurd hb (by simp)
/-- the generator's scope -/
structure GenOk (N : List Str) (sc scope : Scope) (own : List (Str × Nat)) : Prop where
  blk : BlkOk N sc scope own
  co : scope.isCoroutine = false
  cell : ∀ y ∈ scope.names, y.2 ≠ .cell
  dot : scope.names.lookup (".0" : Str) = some NameKind.local
section
variable {X : Cx} {pins : List (Addr × Obj)} {σ : L2.St} {H : Hp} {s : Shared}
theorem gen_free {scope : Scope} {own : List (Str × Nat)} (I : Inv X pins σ H s) (ok : GenOk X.N X.env.scope scope own) : ∀ y ∈ scope.names, y.2 = .free → ∃ c, X.env.cells.lookup y.1 = some c := fun y hy e => by
  rcases ok.blk.free y hy e with k | k
  · exact I.ok.has _ (.inl k)
  · exact I.ok.has _ (.inr k)
/-- a generator has been made -/
theorem gen_start {scope : Scope} {own : List (Str × Nat)} {fp : List Addr} {A' : Around} {code : Value} {h' : Heap} {G : Array GenState} {tk : Nat} {o : Obj} {it : Value} (I : Inv X pins σ H s) (ok : GenOk X.N X.env.scope scope own) (hN : X.N.Nodup) (hfp : ∀ b ∈ fp, FpOk X pins H b ∧ b < s.heap.objs.size)
    (hA : A'.handled = none) (hfr : A'.frames = some (genEnv scope (cloFrom X.env.cells scope.names []) s.heap.objs.size code builtinsNs X.env :: X.stack))
    (hn : h'.Ns s.heap.objs.size (fun y => if y = ".0" then some it else none)) (hs : Heap.SameBut s.heap.objs.size (s.heap.push { cls := .type "frame", data := .dict #[] }) h') (hG : AllBare G) (ho : ∀ v, o.data ≠ .cell v) (hf : o.isFreed = false) :
    Inv (gcx X A' s H (genEnv scope (cloFrom X.env.cells scope.names []) s.heap.objs.size code builtinsNs X.env) fp) [(h'.objs.size, o)] (wipe σ (own.map (·.2))) H { s with gens := G, toks := tk, heap := h'.push o } := by
  have hfree := gen_free I ok
  generalize hcenv : genEnv scope (cloFrom X.env.cells scope.names []) s.heap.objs.size code builtinsNs X.env = cenv at hfr
  have hsz : h'.objs.size = s.heap.objs.size + 1 := by rw [hs.1, Heap.size_push]
  have kp : ∀ b u, s.heap.get? b = some u → (h'.push o).get? b = some u := fun b u e => Heap.get?_push_of_some _ (hs.extBut b u (Nat.ne_of_lt (Heap.lt_size e)) (Heap.get?_push_of_some _ e))
  have hL : cenv.locals = s.heap.objs.size := by rw [← hcenv]; rfl
  have hcl : cenv.cells = cloFrom X.env.cells scope.names [] := by rw [← hcenv]; rfl
  have hsc : cenv.scope = scope := by rw [← hcenv]; rfl
  have mem : ∀ {y c}, cenv.cells.lookup y = some c → X.env.cells.lookup y = some c ∧ c < s.heap.objs.size := fun {y c} e => by
    rw [hcl] at e
    rcases cloFrom_mem (PySem.mem_of_lookup e) with hm | ⟨h1, rfl⟩
    · cases hm
    · obtain ⟨c, hc⟩ := hfree _ h1 rfl
      rw [hc]
      obtain ⟨w, z⟩ := I.cell _ _ hc
      exact ⟨rfl, z.lt⟩
  have look : ∀ {y}, scope.names.lookup y = some .free → ∃ c, cenv.cells.lookup y = some c ∧ X.env.cells.lookup y = some c := fun {y} hl => by
    obtain ⟨c', e'⟩ := mem_lookup (cloFrom_has (cells := X.env.cells) (acc := []) (PySem.mem_of_lookup hl))
    rw [← hcl] at e'
    exact ⟨c', e', (mem e').1⟩
  have noCell : ∀ {y}, scope.names.lookup y ≠ some .cell := fun {y} e => ok.cell _ (PySem.mem_of_lookup e) rfl
  have okB : (gcx X A' s H cenv fp).Ok := by
    refine ⟨I.ok.mod, by show cenv.scope.kind = _; rw [hsc]; exact ok.blk.kind, by show cenv.globals = _; rw [← hcenv]; exact I.ok.glob, by show cenv.builtins = _; rw [← hcenv]; rfl, by show s.heap.objs.size ≤ cenv.locals; rw [hL]; exact Nat.le_refl _,
      fun y z c e1 e2 => I.ok.inj y z c (mem e1).1 (mem e2).1, fun y hy => ?_, fun y c z e => (by cases z), fun _ => hA, hfr, .inr ⟨rfl, ?_⟩, fun b hb => ⟨?_, fun y c e z => (hfp b hb).1.2.2.2.2.1 y c (mem e).1 z⟩, I.bs, Nat.le_trans I.ok.bsz I.sz, fun b o e hb => ?_, fun b hb z => ?_, I.stack, I.stkFree⟩
    · show ∃ c, cenv.cells.lookup y = some c
      have hy : cenv.scope.names.lookup y = some .cell ∨ cenv.scope.names.lookup y = some .free := hy
      rw [hsc] at hy
      rcases hy with hy | hy
      · exact absurd hy noCell
      · obtain ⟨c, h1, _⟩ := look hy
        exact ⟨c, h1⟩
    · show cenv.frame = some cenv.locals
      rw [← hcenv]; rfl
    · show b ≠ cenv.locals
      rw [hL]; exact Nat.ne_of_lt (hfp b hb).2
    · rcases (hfp b hb).1.2.2.2.1 with z | z
      · exact I.ok.noex b o e z
      · have e' : X.base.get? b = some o := e
        have := Heap.lt_size e'
        exact absurd (Nat.lt_of_lt_of_le this (Nat.le_trans I.ok.bsz z)) (Nat.lt_irrefl _)
    · rcases List.mem_cons.mp (I.stkSub b z) with w | w
      · exact (hfp b hb).1.2.1 w
      · exact (hfp b hb).1.2.2.1 w
  refine ⟨okB, rfl, hG, Un.kept kp, ⟨_, by show (h'.push o).Ns cenv.locals _; rw [hL]; exact hn.push _, fun i x v e1 e2 e3 => ?_⟩, fun x c e => ?_, ?_, fun x c e => I.freeC x c (mem e).1, fun p hp => ?_, I.hok.kept kp, ?_⟩
  · obtain ⟨w1, w2⟩ := wipe_some e2
    have e3 : Vis cenv.scope x := e3
    rw [hsc] at e3
    rcases e3 with k | k | k
    · exfalso
      rcases ok.blk.own _ (PySem.mem_of_lookup k) (.inl rfl) with z | z
      · obtain ⟨⟨y, j⟩, hm, rfl⟩ := List.mem_map.mp z
        have := nodup_ix hN (ok.blk.ix _ hm) e1
        subst this
        exact w2 (List.mem_map.mpr ⟨_, hm, rfl⟩)
      · exact z (List.mem_of_getElem? e1)
    · exact absurd k noCell
    · obtain ⟨c, h1, h2⟩ := look k
      have hk := ok.blk.free _ (PySem.mem_of_lookup k) rfl
      obtain ⟨m, hm, hl⟩ := I.loc
      obtain ⟨u, ru, lu⟩ := hl i x v e1 w1 (hk.elim (fun z => .inr (.inl z)) fun z => .inr (.inr z))
      refine ⟨u, ru, .inr ⟨.inr (by show cenv.scope.names.lookup x = _; rw [hsc]; exact k), c, h1, ?_⟩⟩
      rcases lu with ⟨z, _⟩ | ⟨_, c', q1, q2⟩
      · have z : X.env.scope.names.lookup x = some .local := z
        rcases hk with hk | hk <;> (rw [show X.env.scope.names.lookup x = _ from hk] at z; cases z)
      · rw [h2] at q1
        cases q1
        obtain ⟨ob, q3, q4⟩ := q2
        exact ⟨ob, kp _ _ q3, q4⟩
  · obtain ⟨v, ob, q3, q4⟩ := I.cell x c (mem e).1
    exact ⟨v, ob, kp _ _ q3, q4⟩
  · show H cenv.locals = none
    rw [hL]; exact I.hok.fresh (Nat.le_refl _)
  · rcases List.mem_append.mp hp with z | z
    · cases z
    · rw [List.mem_singleton.mp z]
      refine ⟨Heap.get?_push_size _ hf, I.hok.fresh (by rw [hsz]; exact Nat.le_succ _), ?_, fun w => ?_, ho⟩
      · show h'.objs.size ≠ cenv.locals
        rw [hL, hsz]; exact Nat.succ_ne_self _
      · rcases List.mem_cons.mp (I.stkSub _ w) with q | q
        · have := I.lt; rw [← q, hsz] at this; exact absurd (Nat.lt_of_succ_lt this) (Nat.lt_irrefl _)
        · exact I.nofs (by rw [hsz]; exact Nat.le_succ _) q
  · show (wipe σ _).length = X.N.length
    rw [wipe_length]; exact I.len
end
theorem over_genLoop {A : Around} {elt : Expr} {gs : List Comprehension} {sc : Scope} {pos : Pos} {it acc : Value} {env : Env} : A.over (.compLoop (.GeneratorExp elt gs sc pos) 0 it acc env) [] = A.deeper env := by
  first
    | rfl
    | (obtain ⟨hd, d, fr, g, u⟩ := A; simp [Around.over, Around.deeper, marksOver, frameCount, unitsOf, envsOf, guardsOf, pushEnvs, pushGuards, Code.envs, Code.env?, Code.isFrame, Code.guards, Code.isGuard, Code.weight, Code.frames, Code.isCreation, Code.isCaller, Code.cUnits])
theorem over_genStart {A : Around} {elt : Expr} {gs : List Comprehension} {sc : Scope} {pos : Pos} {it acc : Value} {env : Env} : A.over (.compStart (.GeneratorExp elt gs sc pos) 0 it acc env) [] = A.deeper env := by
  first
    | rfl
    | (obtain ⟨hd, d, fr, g, u⟩ := A; simp [Around.over, Around.deeper, marksOver, frameCount, unitsOf, envsOf, guardsOf, pushEnvs, pushGuards, Code.envs, Code.env?, Code.isFrame, Code.guards, Code.isGuard, Code.weight, Code.frames, Code.isCreation, Code.isCaller, Code.cUnits])
/-! ### its turns -/
/-- what all(..) (b: false) or any(..) (b: true) reads -/
def tQu (b : Bool) (P : Addr) (wi : TI) (g : TG) (tt : TT) (te : TE) (vs : List Nat) : TE := fun σ H Q => wi σ H fun J H1 => GxR.TabG H1 P ∧ ∀ H2, GxR.Tabbed P H1 H2 → ∃ W : Nat → Nat → Hp → Prop, (∃ m, W 0 m H2) ∧ ∀ i m H, W i m H →
  (J.stop i H ∧ Q (.bl (!b)) H) ∨ (J.go i H ∧ ∃ Nx : Hp → Prop, (∀ H', Nx H' → ∃ m', m' < m ∧ W (i + 1) m' H') ∧ ∀ x H', J.yld i H x H' → g x (wipe σ vs) H' fun σ2 H2 => wipe σ2 vs = wipe σ vs ∧ tt σ2 H2 fun k H3 =>
    if k = true then te σ2 H3 fun y H4 => ∃ r, y = .bl r ∧ if r = b then Q (.bl b) H4 else Nx H4 else Nx H3)
section
variable {X : Cx} {a : Addr} {o : Obj} {b : Bool} {Q : VK} {σ0 : L2.St}
/-- the generator's end, and what it hands out -/
def QEnd (X : Cx) (a : Addr) (o : Obj) (b : Bool) (Q : VK) (s1 : Shared) : Prop := ∃ σ H, Inv X [(a, o)] σ H s1 ∧ Q (.bl (!b)) H
def QYld (X : Cx) (a : Addr) (o : Obj) (b : Bool) (Q : VK) : Protocol := fun n s₀ v s kap => ∃ r σ H, v = .bool r ∧ Inv X [(a, o)] σ H s ∧ (r = b → Q (.bl b) H) ∧ (r ≠ b → ∀ s', Kp s s' → kap (.send .none) s')
theorem seg_qu {A : Around} {elt tg iter : Expr} {ifs : List Expr} {scope : Scope} {pos : Pos} {fp : List Addr} {it : Addr} {tn : Nat → Heap → Prop} {J : L2.It} {g : TG} {tt : TT} {te : TE} {vs : List Nat} {W : Nat → Nat → Hp → Prop}
    (hA : X.A = A.deeper X.env) (hc : X.calm = true) (hxe : X.xe = fun _ _ => False) (hex : X.ex = fp) (hpn : X.pn = []) (hco : X.env.scope.isCoroutine = false) (haf : a ∉ fp) (T : Turn X.prog X.w X.K tg J fp it tn)
    (pg : PG X tg g) (pt : PTs X ifs tt) (pe : PE X elt te)
    (turn : ∀ i m H, W i m H → (J.stop i H ∧ Q (.bl (!b)) H) ∨ (J.go i H ∧ ∃ Nx : Hp → Prop, (∀ H', Nx H' → ∃ m', m' < m ∧ W (i + 1) m' H') ∧ ∀ x H', J.yld i H x H' → g x (wipe σ0 vs) H' fun σ2 H2 => wipe σ2 vs = wipe σ0 vs ∧ tt σ2 H2 fun k H3 =>
      if k = true then te σ2 H3 fun y H4 => ∃ r, y = .bl r ∧ if r = b then Q (.bl b) H4 else Nx H4 else Nx H3)) :
    ∀ (m n i : Nat) (s₀ s : Shared) (H : Hp), m < n → W i m H → Inv X [(a, o)] (wipe σ0 vs) H s → tn i s.heap → (∀ b ∈ fp, H b = none) →
      Seg (model X.prog X.w) A (fun _ _ r s₁ => r = .ok .next ∧ QEnd X a o b Q s₁) (QYld X a o b Q) n s₀
        (.compLoop (.GeneratorExp elt [⟨tg, iter, ifs, 0⟩] scope pos) 0 (.ref it) .none X.env)
        ((model X.prog X.w).den (.compLoop (.GeneratorExp elt [⟨tg, iter, ifs, 0⟩] scope pos) 0 (.ref it) .none X.env)) [] s := by
  have hov : A.over (.compLoop (.GeneratorExp elt [⟨tg, iter, ifs, 0⟩] scope pos) 0 (.ref it) .none X.env) [] = X.A := over_genLoop.trans hA.symm
  have stat : ∀ {σ' : L2.St} {H' : Hp} {s' : Shared}, Inv X [(a, o)] σ' H' s' → (∀ b ∈ fp, H' b = none) → ∀ b ∈ fp, FpOk X [(a, o)] H' b := fun {σ' H' s'} I' hn b hb =>
    have hb' : b ∈ X.ex := by rw [hex]; exact hb
    ⟨hn b hb, (I'.ok.exf b hb').1, I'.ok.exfs b hb', .inl hb', fun x c e => (I'.ok.exf b hb').2 x c e, fun p hp => by
      rw [hpn, List.nil_append, List.mem_singleton] at hp
      subst hp
      exact fun z => haf (by rw [show a = b from z]; exact hb)⟩
  intro m
  induction m using Nat.strongRecOn with
  | ind m ih =>
    intro n i s₀ s H hmn w I st nf
    show Seg _ A _ _ _ s₀ _ ((compTurn (.GeneratorExp elt [⟨tg, iter, ifs, 0⟩] scope pos) 0 (.ref it) .none X.env).onRaise (leaving X.env)) [] s
    rw [compTurn_gen, Sem.onRaise_eq_wrap]
    refine seg_bind_wrap (wpAny_standAt ?_)
    rcases turn i m H w with ⟨stop, qq⟩ | ⟨go, Nx, hNx, step⟩
    · refine seg_bind_wrap ?_
      rw [hov]
      have td := T.done X rfl rfl rfl hc i [(a, o)] s _ H (fun _ _ => False) I (stat I nf) st stop
      refine thnF td fun r s6 ⟨hr, I6⟩ => ?_
      subst hr
      exact seg_end (.ok .next) ⟨rfl, _, H, I6, qq⟩
    · refine seg_bind_wrap ?_
      rw [hov]
      have ti := T.item X rfl rfl rfl hc i [(a, o)] s _ H (fun _ _ => False) I (stat I nf) st go
      refine thnF ti fun r s6 ⟨u, hr, h6⟩ => ?_
      subst hr
      refine seg_bind_wrap ?_
      rw [hov]
      refine thnF h6 fun _ s7 ⟨x, H7, I7, r7, y7, st7, n7⟩ => ?_
      have I7' := I7.pinned (stat I7 n7) (T.obj _ _ st7)
      have pgr := pg.run _ s7 _ H7 x u _ I7' r7 (step x H7 y7)
      refine seg_bind_wrap ?_
      rw [hov]
      rw [hxe] at pgr
      refine thnF pgr fun _ s8 ⟨σ8, H8, I8, hw8, q8⟩ => ?_
      have ptr := pt.run _ s8 σ8 H8 _ I8 q8
      rw [hxe] at ptr
      refine seg_bind_wrap ?_
      rw [hov]
      refine thnF ptr fun k s9 ⟨H9, I9, q9⟩ => ?_
      -- the turn's end
      have fin : ∀ {s' : Shared} {H' : Hp}, Inv X ([(a, o)] ++ pinsAt fp s7.heap) σ8 H' s' → Nx H' → ∀ n' s₀', m ≤ n' →
          Seg (model X.prog X.w) A (fun _ _ r s₁ => r = .ok .next ∧ QEnd X a o b Q s₁) (QYld X a o b Q) n' s₀' (.compLoop (.GeneratorExp elt [⟨tg, iter, ifs, 0⟩] scope pos) 0 (.ref it) .none X.env)
            ((model X.prog X.w).den (.compLoop (.GeneratorExp elt [⟨tg, iter, ifs, 0⟩] scope pos) 0 (.ref it) .none X.env)) [] s' := fun {s' H'} I' nx n' s₀' hn' => by
        obtain ⟨m', hm, w'⟩ := hNx H' nx
        have pin' : ∀ c ∈ fp, ∀ u, s7.heap.get? c = some u → s'.heap.get? c = some u ∧ H' c = none := fun c hb u e =>
          let z := I'.pin (c, u) (List.mem_append_right _ (List.mem_append_right _ (mem_pinsAt hb e)))
          ⟨z.1, z.2.1⟩
        have hl : (wipe σ0 vs).length = σ8.length := by rw [← hw8, wipe_length]
        refine ih m' hm n' (i + 1) s₀' s' H' (by omega) w' ((I'.unpinned (pins := [(a, o)])).weak hl fun j v e => ?_) (T.keep _ _ _ st7 fun c hb u e => (pin' c hb u e).1) fun c hb => ?_
        · rw [← hw8] at e
          exact (wipe_some e).1
        · obtain ⟨u, e, _⟩ := T.obj _ _ st7 c hb
          exact (pin' c hb u e).2
      cases k with
      | false =>
        simp only [Bool.false_eq_true, if_false] at q9 ⊢
        exact seg_again rfl (fin I9 q9 n s₀ (by omega))
      | true =>
        simp only [if_true] at q9 ⊢
        have hy : ∀ v, yieldOut X.env v = yieldValue v := fun v => by simp only [yieldOut, hco, Bool.false_eq_true, if_false]
        simp only [hy]
        rw [Sem.bind_eq_wrap', Sem.bind_eq_wrap', Sem.wrap_wrap, Sem.wrap_wrap]
        have per := pe.run _ s9 σ8 H9 _ I9 q9
        rw [hxe] at per
        refine seg_wrap ?_
        rw [hov]
        refine thnF per fun z s10 ⟨yv, H10, I10, r10, r, ey, nx⟩ => ?_
        subst ey
        cases r10
        obtain ⟨n, rfl⟩ : ∃ n', n = n' + 1 := ⟨n - 1, by omega⟩
        refine seg_at (seg_yield rfl rfl rfl ⟨r, σ8, H10, rfl, I10.unpinned (pins := [(a, o)]), fun e => ?_, fun e s'' kp => ?_⟩)
        · rw [if_pos e] at nx; exact nx
        · rw [if_neg e] at nx
          exact seg_again rfl (fin (kp.inv I10) nx n s'' (by omega))
/-- .. from its start -/
theorem seg_quStart {A : Around} {elt tg iter : Expr} {ifs : List Expr} {scope : Scope} {pos : Pos} {it : Addr} {R : GenEnd} {Y : Protocol} {n : Nat} {s₀ s : Shared} {env : Env}
    (loop : Seg (model X.prog X.w) A R Y n s₀ (.compLoop (.GeneratorExp elt [⟨tg, iter, ifs, 0⟩] scope pos) 0 (.ref it) .none env)
        ((model X.prog X.w).den (.compLoop (.GeneratorExp elt [⟨tg, iter, ifs, 0⟩] scope pos) 0 (.ref it) .none env)) [] s)
    (self : ∀ (A' : Around) (Q : Value → Shared → Prop) (E : Value → Shared → Prop), Q (.ref it) s → wpAny (model X.prog X.w) A' (pyIter (.ref it)) Q E s) :
    Seg (model X.prog X.w) A R Y n s₀ (.compStart (.GeneratorExp elt [⟨tg, iter, ifs, 0⟩] scope pos) 0 (.ref it) .none env)
        ((model X.prog X.w).den (.compStart (.GeneratorExp elt [⟨tg, iter, ifs, 0⟩] scope pos) 0 (.ref it) .none env)) [] s := by
  show Seg _ A _ _ _ s₀ _ ((compStart (.GeneratorExp elt [⟨tg, iter, ifs, 0⟩] scope pos) 0 (.ref it) .none env).onRaise (leaving env)) [] s
  unfold compStart
  rw [Sem.onRaise_eq_wrap]
  show Seg _ A _ _ _ s₀ _ ((ask >>= _).wrap _ _ _ _) [] s
  refine seg_bind_wrap (wpAny_askSetting ?_)
  split
  · exact seg_again rfl loop
  · first
      | exact seg_bind_wrap (wpAny_rule (seg_bind_wrap (wpAny_standAt (seg_bind_wrap (self _ _ _ (seg_again rfl loop))))))
      | (refine seg_bind_wrap (wpAny_rule ?_); show Seg _ A _ _ _ s₀ _ ((standAt iter.pos >>= _).wrap _ _ _ _) [] s; exact seg_bind_wrap (wpAny_standAt (seg_bind_wrap (self _ _ _ (seg_again rfl loop)))))

/-! ### who asks it -/
/-- the generator a (its number: gi), asleep -/
def QSleep (X : Cx) (A : Around) (a : Addr) (o : Obj) (b : Bool) (Q : VK) (gi n : Nat) (s : Shared) : Prop :=
  s.heap.IsGen a gi ∧ s.heap.NoLimit ∧ AllBare s.gens ∧ ∃ gs, s.gens[gi]? = some gs ∧ ∀ s', Kp s s' → gs.Goes (model X.prog X.w) A (fun _ _ r s₁ => r = .ok .next ∧ QEnd X a o b Q s₁) (QYld X a o b Q) n (.send .none) s'
/-- its next -/
theorem next_qu {A : Around} {gi n : Nat} {s : Shared} {K : Option Value → Shared → Prop} {E : Value → Shared → Prop} (ho : ∃ nm qn, o.cls = .type "generator" ∧ o.data = .fields #[.int gi 0, nm, qn] ∧ o.slots = #[]) (hh : A.handled = none) (hroom : A.depth < recursionLimit) (h : QSleep X A.in1 a o b Q gi n s)
    (hK : ∀ s', QEnd X a o b Q s' → K none s') (hY : ∀ r σ H s', Inv X [(a, o)] σ H s' → (r = b → Q (.bl b) H) → (r ≠ b → ∃ m, n = m + 1 ∧ QSleep X A.in1 a o b Q gi m s') → K (some (.bool r)) s') :
    wpAny (model X.prog X.w) A (pyNext (.ref a)) K E s := by
  obtain ⟨hg, hl, hb, gs, hgs, hgo⟩ := h
  have hgi : gi < s.gens.size := by
    rcases Nat.lt_or_ge gi s.gens.size with z | z
    · exact z
    · rw [Array.getElem?_eq_none z] at hgs; cases hgs
  refine GenW.wpAny_gsz (n := gi + 1) hgi ?_
  refine wpAny_pyNext_genexpQ (P := fun _ _ s₁ => QEnd X a o b Q s₁) hh hl hroom hg hgs (hgo _ ⟨rfl, allBare_setGen hb rfl, fun _ _ e => e⟩) (fun v s₁ gs' hbr hv hsz => ?_) (fun s₁ hp h' hk hsz => ?_)
  · obtain ⟨r, σ, H, rfl, I, h1, h2⟩ := hv
    have kp : Kp s₁ (s₁.setGen gi gs') := ⟨rfl, allBare_setGen I.bare hbr, fun _ _ e => e⟩
    have hlt : gi < s₁.gens.size := by
      have : (s₁.setGen gi gs').gens.size = s₁.gens.size := GenW.setGen_size s₁ gi gs'
      omega
    refine hY r σ H _ (kp.inv I) h1 fun ne => ?_
    cases n with
    | zero => exact (h2 ne s₁ ⟨rfl, I.bare, fun _ _ e => e⟩).elim
    | succ m =>
      refine ⟨m, rfl, ?_, I.nolimit, kp.bare, gs', by simp [Shared.setGen, hlt], fun s' k => h2 ne s' ⟨k.os, k.bare, k.keep⟩⟩
      obtain ⟨nm, qn, c1, c2, c3⟩ := ho
      exact ⟨o, nm, qn, (I.pin (a, o) (List.mem_append_right _ List.mem_cons_self)).1, c1, c2, c3⟩
  · obtain ⟨σ, H, I, q⟩ := hp
    have kp : Kp s₁ { s₁.setGen gi .finished with heap := h' } := ⟨rfl, allBare_setGen I.bare rfl, hk⟩
    exact hK _ ⟨σ, H, kp.inv I, q⟩
/-- all(..) -/
theorem all_loop {A : Around} {gi : Nat} {R : Result → Shared → Prop} (ho : ∃ nm qn, o.cls = .type "generator" ∧ o.data = .fields #[.int gi 0, nm, qn] ∧ o.slots = #[]) (hh : A.handled = none) (hroom : A.depth < recursionLimit)
    (hQ : ∀ k σ H s', Inv X [(a, o)] σ H s' → Q (.bl k) H → R (.ok (.ret (.bool k))) s') : ∀ (n : Nat) (s : Shared), QSleep X A.in1.in1 a o false Q gi n s → codeAny (model X.prog X.w) A (.builtin "all.loop" ⟨[.ref a], []⟩) R s := by
  intro n
  induction n using Nat.strongRecOn with
  | ind n ih =>
    intro s h
    refine codeAny_builtin F.entry_all_loop ?_
    rw [Around.under_plainId F.plain_all_loop _]
    show wpAny _ A.in1 (pyNext (.ref a) >>= _) _ _ s
    refine wpAny_bind (next_qu ho hh hroom h (fun s' he => ?_) fun r σ H s' I h1 h2 => ?_)
    · obtain ⟨σ, H, I, q⟩ := he
      exact wpAny_bind (wpAny_rule (wpAny_pure (hQ true σ H s' I q)))
    · refine wpAny_bind (wpAny_holding (wpAny_truthy_bool ?_))
      refine wpAny_bind (wpAny_letGo ?_)
      cases r with
      | true =>
        simp only [if_true]
        obtain ⟨m, hm, hs⟩ := h2 (fun z => Bool.noConfusion z)
        exact wpAny_pure ⟨plainId_quiet F.plain_all_loop _, ih m (by omega) s' hs⟩
      | false =>
        simp only [Bool.false_eq_true, if_false]
        exact wpAny_bind (wpAny_rule (wpAny_pure (hQ false σ H s' I (h1 rfl))))
/-- any(..) -/
theorem any_loop {A : Around} {gi : Nat} {R : Result → Shared → Prop} (ho : ∃ nm qn, o.cls = .type "generator" ∧ o.data = .fields #[.int gi 0, nm, qn] ∧ o.slots = #[]) (hh : A.handled = none) (hroom : A.depth < recursionLimit)
    (hQ : ∀ k σ H s', Inv X [(a, o)] σ H s' → Q (.bl k) H → R (.ok (.ret (.bool k))) s') : ∀ (n : Nat) (s : Shared), QSleep X A.in1.in1 a o true Q gi n s → codeAny (model X.prog X.w) A (.builtin "any.loop" ⟨[.ref a], []⟩) R s := by
  intro n
  induction n using Nat.strongRecOn with
  | ind n ih =>
    intro s h
    refine codeAny_builtin F.entry_any_loop ?_
    rw [Around.under_plainId F.plain_any_loop _]
    show wpAny _ A.in1 (pyNext (.ref a) >>= _) _ _ s
    refine wpAny_bind (next_qu ho hh hroom h (fun s' he => ?_) fun r σ H s' I h1 h2 => ?_)
    · obtain ⟨σ, H, I, q⟩ := he
      exact wpAny_bind (wpAny_rule (wpAny_pure (hQ false σ H s' I q)))
    · refine wpAny_bind (wpAny_holding (wpAny_truthy_bool ?_))
      refine wpAny_bind (wpAny_letGo ?_)
      cases r with
      | false =>
        simp only [Bool.false_eq_true, if_false]
        obtain ⟨m, hm, hs⟩ := h2 (fun z => Bool.noConfusion z)
        exact wpAny_pure ⟨plainId_quiet F.plain_any_loop _, ih m (by omega) s' hs⟩
      | true =>
        simp only [if_true]
        exact wpAny_bind (wpAny_rule (wpAny_pure (hQ true σ H s' I (h1 rfl))))
end
/-! ### it is made -/
section
variable {X : Cx} {pins : List (Addr × Obj)} {σ : L2.St} {H : Hp} {s : Shared}
/-- the environment of the generator's frame -/
abbrev genE (X : Cx) (scope : Scope) (C : Addr) (code : Value) : Env := genEnv scope (cloFrom X.env.cells scope.names []) C code builtinsNs X.env
abbrev genX (X : Cx) (scope : Scope) (s : Shared) (H : Hp) (code : Value) (fp : List Addr) : Cx := gcx X (X.A.in1.in1.deeper (genE X scope s.heap.objs.size code)) s H (genE X scope s.heap.objs.size code) fp
theorem gen_make {c P : Addr} {elt tg iter : Expr} {ifs : List Expr} {gpos : Pos} {scope : Scope} {own : List (Str × Nat)} {wi : TI} {k : Nat} {Q' : Value → Shared → Prop} {R : L2.It → Hp → Prop}
    (hr : Room k X.A) (hcalm : X.calm = true) (hN : X.N.Nodup) (TB : GxR.TabB X.base X.mg c P) (hcode : X.env.code = .ref c) (ok : GenOk X.N X.env.scope scope own) (hi : PI X tg iter wi)
    (hs : ∀ v, genFold iter X.env v = pure v) (I : Inv X pins σ H s) (h : wi σ H fun J H1 => GxR.TabG H1 P ∧ ∀ H2, GxR.Tabbed P H1 H2 → R J H2)
    (hQ : ∀ (J : L2.It) (H2 : Hp) (s4 : Shared) (code : Value) (fp : List Addr) (it : Addr) (tn : Nat → Heap → Prop) (a : Addr) (o : Obj) (gi : Nat) (s5 : Shared), R J H2 → Inv (genX X scope s4 H2 code fp) [(a, o)] (wipe σ (own.map (·.2))) H2 s5 → Turn X.prog X.w X.K tg J fp it tn → tn 0 s5.heap → (∀ b ∈ fp, H2 b = none) → a ∉ fp →
      (∃ nm qn, o.cls = .type "generator" ∧ o.data = .fields #[.int gi 0, nm, qn] ∧ o.slots = #[]) → s5.gens[gi]? = some (.fresh (.compStart (.GeneratorExp elt [⟨tg, iter, ifs, 0⟩] scope gpos) 0 (.ref it) .none (genE X scope s4.heap.objs.size code))) →
      (∀ σ' H' s', Inv (genX X scope s4 H2 code fp) [(a, o)] σ' H' s' → Inv X pins σ H' s') → Q' (.ref a) s5) :
    wpAny (model X.prog X.w) X.A (eval (.GeneratorExp elt [⟨tg, iter, ifs, 0⟩] scope gpos) X.env) Q' X.xe s := by
  have hkind := ok.blk.kind
  refine wpAny_GeneratorExp_make ok.co (closure_ok (gen_free I ok)) ok.cell ok.dot hkind (by have := hr.dp; omega) ?_ hs
  refine thn (hi.run pins s σ H _ I h) fun xv s1 hx => thn hx fun itv s2 h2 => ?_
  obtain ⟨it, fp, tn, J, H2, e, I2, T, st2, f2, ⟨ps, hP, ht⟩, hR⟩ := h2
  subst e
  have hPs : s2.heap.get? P = some { cls := .none, data := .fields ps } := I2.hok P _ hP
  have hPlt : P < s2.heap.objs.size := Heap.lt_size hPs
  have cd : PySem.W.CodeHd s2.heap c P := TB.code.keeps fun b u e => I2.bk b u e
  refine ⟨I2.nolimit, ?_⟩
  have cont : ∀ (code : Value) (h3 : Heap) (tk : Nat) (ps' : Array Value), Heap.ExtBut P s2.heap h3 → s2.heap.objs.size ≤ h3.objs.size → h3.get? P = some { cls := .none, data := .fields ps' } → (∃ more, ps' = ps ++ more) → TriplesOk ps'.toList →
      wpAny (model X.prog X.w) X.A (builtinsFor X.env.globals X.env.builtins) (fun bi s₄ =>
        ∀ h', h'.Ns s₄.heap.objs.size (fun y => if y = ".0" then some (.ref it) else none) → Heap.SameBut s₄.heap.objs.size (s₄.heap.push { cls := .type "frame", data := .dict #[] }) h' →
          Q' (.ref h'.objs.size) { s₄ with
            gens := s₄.gens.push (.fresh (.compStart (.GeneratorExp elt [⟨tg, iter, ifs, 0⟩] scope gpos) 0 (.ref it) .none (genEnv scope (cloFrom X.env.cells scope.names []) s₄.heap.objs.size code bi X.env))),
            toks := s₄.toks + 1 + 1 + 1,
            heap := h'.push { cls := .type "generator", data := .fields #[.int s₄.gens.size 0, .str "<genexpr>" (s₄.toks + 1), .str (X.env.qual ++ "<genexpr>") (s₄.toks + 1 + 1)] } }) X.xe { s2 with heap := h3, toks := tk } := by
    intro code h3 tk ps' hx hsz hP3 hmore ht3
    obtain ⟨bm, ob, e1, e2, e3, e4, e5, e6, e7, e8⟩ := TB.bm
    have keep3 : ∀ b u, b ≠ P → s2.heap.get? b = some u → h3.get? b = some u := fun b u hb e => hx b u hb e
    refine wpAny_builtinsFor (m := X.mg) (by rw [I2.ok.glob]; exact (I2.mod.glob.keeps I2.bk).extBut hx TB.gP) e1 e2 (keep3 _ _ e4 (I2.bk _ _ e5)) e6 e7 e8 ?_
    intro h' hn hsb
    obtain ⟨more, em⟩ := hmore
    have J3 := GxR.inv_tab (more := more) (h' := h3) (g' := s2.gens) (d' := s2.drawn) (t' := tk) I2 hP keep3 (by rw [← em]; exact hP3) I2.bare
    generalize hs4 : ({ s2 with heap := h3, toks := tk } : Shared) = s4 at hn hsb J3 ⊢
    have g4 : s4.gens = s2.gens := by rw [← hs4]
    have h4 : s4.heap = h3 := by rw [← hs4]
    have hTb : GxR.Tabbed P H2 (upd H2 P (.tbl (ps ++ more))) := ⟨⟨ps ++ more, upd_same, by rw [← em]; exact ht3⟩, fun b hb => upd_ne hb⟩
    have f4 : ∀ b ∈ fp, FpOk X pins (upd H2 P (.tbl (ps ++ more))) b ∧ b < s4.heap.objs.size := fun b hb => by
      obtain ⟨u, e, _⟩ := T.obj _ _ st2 b hb
      have nb : b ≠ P := fun z => by
        have := (f2 b hb).1
        rw [z, hP] at this; cases this
      refine ⟨⟨by rw [upd_ne nb]; exact (f2 b hb).1, (f2 b hb).2⟩, ?_⟩
      rw [h4]; exact Heap.lt_size (keep3 b u nb e)
    have I5 := gen_start (A' := X.A.in1.in1.deeper (genE X scope s4.heap.objs.size code)) (code := code) (it := .ref it) (h' := h') (tk := s4.toks + 1 + 1 + 1) (G := s4.gens.push (.fresh (.compStart (.GeneratorExp elt [⟨tg, iter, ifs, 0⟩] scope gpos) 0 (.ref it) .none (genE X scope s4.heap.objs.size code))))
      (o := { cls := .type "generator", data := .fields #[.int s4.gens.size 0, .str "<genexpr>" (s4.toks + 1), .str (X.env.qual ++ "<genexpr>") (s4.toks + 1 + 1)] }) J3 ok hN f4 hr.hd (Around.frames_deeper I2.ok.frames) hn hsb
      (AllBare.push (by rw [g4]; exact I2.bare) rfl) (fun v z => by cases z) rfl
    have st5 : tn 0 (h'.push { cls := .type "generator", data := .fields #[.int s4.gens.size 0, .str "<genexpr>" (s4.toks + 1), .str (X.env.qual ++ "<genexpr>") (s4.toks + 1 + 1)] }) := T.keep _ _ _ st2 fun b hb u e => by
      have nb : b ≠ P := fun z => by
        have := (f2 b hb).1
        rw [z, hP] at this; cases this
      exact Heap.get?_push_of_some _ (hsb.extBut b u (Nat.ne_of_lt (f4 b hb).2) (Heap.get?_push_of_some _ (by rw [h4]; exact keep3 b u nb e)))
    refine hQ J _ s4 code fp it tn h'.objs.size _ s4.gens.size _ (hR _ hTb) I5 T st5 (fun b hb => (f4 b hb).1.1) (fun z => ?_) ⟨_, _, rfl, rfl, rfl⟩ (Array.getElem?_push_size ..) fun σ' H' s' I' => ?_
    · have q1 := (f4 _ z).2
      have q2 : h'.objs.size = s4.heap.objs.size + 1 := by rw [hsb.1, Heap.size_push]
      rw [q2] at q1
      exact absurd (Nat.lt_of_succ_lt q1) (Nat.lt_irrefl _)
    · exact J3.call' (ch := fp) I'.os I'.base I'.hok I'.bare fun b hb => ⟨(f4 b hb).1.2.2.2.1, (f4 b hb).1.2.1, (f4 b hb).1.2.2.2.2.1, (f4 b hb).1.2.2.2.2.2⟩
  cases hf : codeAmong gpos ps.toList with
  | none =>
    refine wpAny_genexprCodeX hcode (cd.code hPs ht) (cd.tab hPs) hf fun c' h' tk hx hge hlt hco' _ htab' _ => ?_
    obtain ⟨o1, vs, f1, tf, fl, tg', inF, tx, tt, op, _, _, _, _, _, _, _, _, _, htr, _⟩ := hco'
    exact cont _ h' tk _ hx (Nat.le_trans hge (Nat.le_of_lt hlt)) htab'.2 ⟨_, rfl⟩ htr
  | some cv =>
    refine wpAny_genexprCode_hit hcode (cd.code hPs ht) hf ?_
    exact cont cv s2.heap s2.toks ps (Heap.ExtBut.refl _ _) (Nat.le_refl _) hPs ⟨#[], by simp⟩ ht
/-- all(.. for ..) -/
theorem pe_allQ {c P : Addr} {elt tg iter : Expr} {ifs : List Expr} {p gpos pos : Pos} {scope : Scope} {own : List (Str × Nat)} {wi : TI} {g : TG} {tt : TT} {te : TE} {k : Nat}
    (hr : Room k X.A) (hcalm : X.calm = true) (hN : X.N.Nodup) (hg : Gl X "all") (hm : X.mg "all" = none) (TB : GxR.TabB X.base X.mg c P) (hcode : X.env.code = .ref c) (ok : GenOk X.N X.env.scope scope own) (hi : PI X tg iter wi)
    (hs : ∀ v, genFold iter X.env v = pure v) (pg : ∀ s H code fp, PG (genX X scope s H code fp) tg g) (pt : ∀ s H code fp, PTs (genX X scope s H code fp) ifs tt) (pe : ∀ s H code fp, PE (genX X scope s H code fp) elt te) :
    PE X (.Call (.Name "all" p) [.GeneratorExp elt [⟨tg, iter, ifs, 0⟩] scope gpos] [] pos) (tQu false P wi g tt te (own.map (·.2))) := by
  refine ⟨fun pins s σ H Q I h => ?_⟩
  have he : starEach [.GeneratorExp elt [⟨tg, iter, ifs, 0⟩] scope gpos] X.env = (false, eval (.GeneratorExp elt [⟨tg, iter, ifs, 0⟩] scope gpos) X.env) :: starEach [] X.env := rfl
  refine wpAny_Call_Name_kw (ld_blt I hg hm (show bootBuiltins "all" = some (.builtin "all") by decide) ?_)
  refine PyProof.Rows.callWith_builtin1 ?_ he (by rfl)
  rw [he]
  show wpAny _ _ (spliced ((false, eval (.GeneratorExp elt [⟨tg, iter, ifs, 0⟩] scope gpos) X.env) :: backTo pos (starEach [] X.env))) _ _ s
  refine Calls.spliced_cons (gen_make hr hcalm hN TB hcode ok hi hs I h fun J H2 s4 code fp it tn a o gi s5 hR I5 T st5 nf haf ho hgs hback => ?_)
  obtain ⟨W, ⟨m0, w0⟩, turn⟩ := hR
  refine Calls.spliced_nil ?_
  refine call_function_tree F.kind_all F.plain_all F.entry_all (F.args_all1 _) ?_
  unfold Builtin.«all»
  refine wpAny_bind (m := oneArg "all" _) (wpAny_pure ?_)
  have hgen : s5.heap.IsGen a gi := by
    obtain ⟨nm, qn, c1, c2, c3⟩ := ho
    exact ⟨o, nm, qn, (I5.pin (a, o) (List.mem_append_right _ List.mem_cons_self)).1, c1, c2, c3⟩
  refine wpAny_bind (wpAny_pyIter_gen hgen ?_)
  refine wpAny_pure ⟨plainId_quiet F.plain_all_loop _, ?_⟩
  refine all_loop (X := genX X scope s4 H2 code fp) (A := X.A) (Q := Q) ho hr.hd (by have := hr.dp; omega) (fun k σ' H' s' I' q => ⟨.bl k, H', hback σ' H' s' I', rfl, q⟩) (m0 + 1) s5 ⟨hgen, I5.nolimit, I5.bare, _, hgs, fun s' kp => ⟨rfl, ?_⟩⟩
  refine seg_quStart (X := genX X scope s4 H2 code fp) (seg_qu (X := genX X scope s4 H2 code fp) (fp := fp) (vs := own.map (·.2)) (σ0 := σ) (J := J) (tn := tn) (W := W) rfl hcalm rfl rfl rfl ok.co haf T (pg _ _ _ _) (pt _ _ _ _) (pe _ _ _ _) turn m0 (m0 + 1) 0 s' s' H2 (Nat.lt_succ_self _) w0 (kp.inv I5) (T.keep _ _ _ st5 fun b _ u e => kp.keep b u e) nf) ?_
  exact fun A' Q' E' hq => T.self A' 0 s' Q' E' (T.keep _ _ _ st5 fun b _ u e => kp.keep b u e) hq
/-- any(.. for ..) -/
theorem pe_anyQ {c P : Addr} {elt tg iter : Expr} {ifs : List Expr} {p gpos pos : Pos} {scope : Scope} {own : List (Str × Nat)} {wi : TI} {g : TG} {tt : TT} {te : TE} {k : Nat}
    (hr : Room k X.A) (hcalm : X.calm = true) (hN : X.N.Nodup) (hg : Gl X "any") (hm : X.mg "any" = none) (TB : GxR.TabB X.base X.mg c P) (hcode : X.env.code = .ref c) (ok : GenOk X.N X.env.scope scope own) (hi : PI X tg iter wi)
    (hs : ∀ v, genFold iter X.env v = pure v) (pg : ∀ s H code fp, PG (genX X scope s H code fp) tg g) (pt : ∀ s H code fp, PTs (genX X scope s H code fp) ifs tt) (pe : ∀ s H code fp, PE (genX X scope s H code fp) elt te) :
    PE X (.Call (.Name "any" p) [.GeneratorExp elt [⟨tg, iter, ifs, 0⟩] scope gpos] [] pos) (tQu true P wi g tt te (own.map (·.2))) := by
  refine ⟨fun pins s σ H Q I h => ?_⟩
  have he : starEach [.GeneratorExp elt [⟨tg, iter, ifs, 0⟩] scope gpos] X.env = (false, eval (.GeneratorExp elt [⟨tg, iter, ifs, 0⟩] scope gpos) X.env) :: starEach [] X.env := rfl
  refine wpAny_Call_Name_kw (ld_blt I hg hm (show bootBuiltins "any" = some (.builtin "any") by decide) ?_)
  refine PyProof.Rows.callWith_builtin1 ?_ he (by rfl)
  rw [he]
  show wpAny _ _ (spliced ((false, eval (.GeneratorExp elt [⟨tg, iter, ifs, 0⟩] scope gpos) X.env) :: backTo pos (starEach [] X.env))) _ _ s
  refine Calls.spliced_cons (gen_make hr hcalm hN TB hcode ok hi hs I h fun J H2 s4 code fp it tn a o gi s5 hR I5 T st5 nf haf ho hgs hback => ?_)
  obtain ⟨W, ⟨m0, w0⟩, turn⟩ := hR
  refine Calls.spliced_nil ?_
  refine call_function_tree F.kind_any F.plain_any F.entry_any (F.args_any1 _) ?_
  unfold Builtin.«any»
  refine wpAny_bind (m := oneArg "any" _) (wpAny_pure ?_)
  have hgen : s5.heap.IsGen a gi := by
    obtain ⟨nm, qn, c1, c2, c3⟩ := ho
    exact ⟨o, nm, qn, (I5.pin (a, o) (List.mem_append_right _ List.mem_cons_self)).1, c1, c2, c3⟩
  refine wpAny_bind (wpAny_pyIter_gen hgen ?_)
  refine wpAny_pure ⟨plainId_quiet F.plain_any_loop _, ?_⟩
  refine any_loop (X := genX X scope s4 H2 code fp) (A := X.A) (Q := Q) ho hr.hd (by have := hr.dp; omega) (fun k σ' H' s' I' q => ⟨.bl k, H', hback σ' H' s' I', rfl, q⟩) (m0 + 1) s5 ⟨hgen, I5.nolimit, I5.bare, _, hgs, fun s' kp => ⟨rfl, ?_⟩⟩
  refine seg_quStart (X := genX X scope s4 H2 code fp) (seg_qu (X := genX X scope s4 H2 code fp) (fp := fp) (vs := own.map (·.2)) (σ0 := σ) (J := J) (tn := tn) (W := W) rfl hcalm rfl rfl rfl ok.co haf T (pg _ _ _ _) (pt _ _ _ _) (pe _ _ _ _) turn m0 (m0 + 1) 0 s' s' H2 (Nat.lt_succ_self _) w0 (kp.inv I5) (T.keep _ _ _ st5 fun b _ u e => kp.keep b u e) nf) ?_
  exact fun A' Q' E' hq => T.self A' 0 s' Q' E' (T.keep _ _ _ st5 fun b _ u e => kp.keep b u e) hq
end
end Ev
end
section
set_option Elab.async false
set_option linter.all false
set_option maxRecDepth 100000
/-! The rules: what an expression of the text does, as the evaluator says. -/
namespace Ev
open PySem PySem.Spec PyProof.Rows L2

/-- the weakest reading of an expression, of arguments, tests, statements, targets, what a for walks -/
def wE (X : Cx) (e : Expr) (σ : Sg) (H : Hp) (Q : VK) : Prop := ∀ pins s, Inv X pins σ H s → wpAny (model X.prog X.w) X.A (eval e X.env) (EP X pins σ Q) X.xe s
theorem pe_w {X : Cx} {e : Expr} : PE X e (wE X e) := ⟨fun pins s _ _ _ I h => h pins s I⟩
theorem wE_of {X : Cx} {e : Expr} {t : TE} {σ : Sg} {H : Hp} {Q : VK} (h : PE X e t) (q : t σ H Q) : wE X e σ H Q := fun pins s I => h.run pins s σ H Q I q
theorem wE.mono {X : Cx} {e : Expr} {σ : Sg} {H : Hp} {Q Q' : VK} (h : wE X e σ H Q) (m : ∀ v H', Q v H' → Q' v H') : wE X e σ H Q' :=
  fun pins s I => thn (h pins s I) fun _ _ ⟨v, H', I', r, q⟩ => ⟨v, H', I', r, m v H' q⟩
def wT (X : Cx) (e : Expr) (σ : Sg) (H : Hp) (Q : Bool → Hp → Prop) : Prop := ∀ pins s, Inv X pins σ H s → wpAny (model X.prog X.w) X.A (isTrue e X.env (eval e X.env)) (TP X pins σ Q) X.xe s
theorem pt_w {X : Cx} {e : Expr} : PT X e (wT X e) := ⟨fun pins s _ _ _ I h => h pins s I⟩
theorem wT_of {X : Cx} {e : Expr} {t : TT} {σ : Sg} {H : Hp} {Q : Bool → Hp → Prop} (h : PT X e t) (q : t σ H Q) : wT X e σ H Q := fun pins s I => h.run pins s σ H Q I q
theorem wT.mono {X : Cx} {e : Expr} {σ : Sg} {H : Hp} {Q Q' : Bool → Hp → Prop} (h : wT X e σ H Q) (m : ∀ v H', Q v H' → Q' v H') : wT X e σ H Q' :=
  fun pins s I => thn (h pins s I) fun _ _ ⟨H', I', q⟩ => ⟨H', I', m _ H' q⟩
def wA (X : Cx) (es : List Expr) (σ : Sg) (H : Hp) (Q : List V → Hp → Prop) : Prop := ∀ pos pins s, Inv X pins σ H s → wpAny (model X.prog X.w) X.A (spliced (backTo pos (starEach es X.env))) (AP X pins σ Q) X.xe s
theorem pa_w {X : Cx} {es : List Expr} : PA X es (wA X es) := ⟨fun pos pins s _ _ _ I h => h pos pins s I⟩
theorem wA_of {X : Cx} {es : List Expr} {t : TA} {σ : Sg} {H : Hp} {Q : List V → Hp → Prop} (h : PA X es t) (q : t σ H Q) : wA X es σ H Q := fun pos pins s I => h.run pos pins s σ H Q I q
def wS (X : Cx) (st : Stmt) (D : Ends) (σ : Sg) (H : Hp) : Prop := ∀ pins s, Inv X pins σ H s → wpAny (model X.prog X.w) X.A (exec st X.env) (SP X pins D) X.xe s
theorem ps_w {X : Cx} {st : Stmt} : PS X st (wS X st) := ⟨fun pins s _ _ _ I h => h pins s I⟩
theorem wS_of {X : Cx} {st : Stmt} {t : TS} {σ : Sg} {H : Hp} {D : Ends} (h : PS X st t) (q : t D σ H) : wS X st D σ H := fun pins s I => h.run pins s σ H D I q
def wSs (X : Cx) (st : List Stmt) (D : Ends) (σ : Sg) (H : Hp) : Prop := ∀ pins s, Inv X pins σ H s → wpAny (model X.prog X.w) X.A (execs st X.env) (SP X pins D) X.xe s
theorem pss_w {X : Cx} {st : List Stmt} : PSs X st (wSs X st) := ⟨fun pins s _ _ _ I h => h pins s I⟩
theorem wSs_of {X : Cx} {st : List Stmt} {t : TS} {σ : Sg} {H : Hp} {D : Ends} (h : PSs X st t) (q : t D σ H) : wSs X st D σ H := fun pins s I => h.run pins s σ H D I q
def wG (X : Cx) (tg : Expr) (v : V) (σ : Sg) (H : Hp) (Q : Sg → Hp → Prop) : Prop := ∀ pins s u, Inv X pins σ H s → RelV v u → wpAny (model X.prog X.w) X.A (assign tg X.env u) (fun _ s' => ∃ σ' H', Inv X pins σ' H' s' ∧ Q σ' H') X.xe s
theorem pg_w {X : Cx} {tg : Expr} : PG X tg (wG X tg) := ⟨fun pins s _ _ _ u _ I r h => h pins s u I r⟩
theorem wG_of {X : Cx} {tg : Expr} {t : TG} {v : V} {σ : Sg} {H : Hp} {Q : Sg → Hp → Prop} (h : PG X tg t) (q : t v σ H Q) : wG X tg v σ H Q := fun pins s u I r => h.run pins s σ H v u Q I r q
def wGs (X : Cx) (ts : List Expr) (vs : List V) (σ : Sg) (H : Hp) (Q : Sg → Hp → Prop) : Prop := ∀ pins s us, Inv X pins σ H s → Vals vs us → wpAny (model X.prog X.w) X.A (assignInOrder ((assignEach ts X.env).map (·.2)) us) (fun _ s' => ∃ σ' H', Inv X pins σ' H' s' ∧ Q σ' H') X.xe s
theorem pgs_w {X : Cx} {ts : List Expr} : PGs X ts (wGs X ts) := ⟨fun pins s _ _ _ us _ I r h => h pins s us I r⟩
theorem wGs_of {X : Cx} {ts : List Expr} {t : TGs} {vs : List V} {σ : Sg} {H : Hp} {Q : Sg → Hp → Prop} (h : PGs X ts t) (q : t vs σ H Q) : wGs X ts vs σ H Q := fun pins s us I r => h.run pins s σ H vs us Q I r q
def wI (X : Cx) (tg iter : Expr) (σ : Sg) (H : Hp) (R : L2.It → Hp → Prop) : Prop := ∀ pins s, Inv X pins σ H s →
  wpAny (model X.prog X.w) X.A (eval iter X.env) (fun v s1 => wpAny (model X.prog X.w) X.A (pyIter v) (PIE X pins σ tg R) X.xe s1) X.xe s
theorem pi_w {X : Cx} {tg iter : Expr} : PI X tg iter (wI X tg iter) := ⟨fun pins s _ _ _ I h => h pins s I⟩
theorem wI_of {X : Cx} {tg iter : Expr} {t : TI} {σ : Sg} {H : Hp} {R : L2.It → Hp → Prop} (h : PI X tg iter t) (q : t σ H R) : wI X tg iter σ H R := fun pins s I => h.run pins s σ H R I q

/-- what is fixed while the law runs -/
structure Fix where
  P : Program
  w : World
  K : PySem.W.Frag
  mg : Str → Option Value
  base : Heap
  T : List Addr
/-- an exception's class, by the text's name for it -/
def exC (Z : Fix) : ExW := fun c cls => Z.mg c = some cls
/-- what is wanted of a value -/
def okV (Z : Fix) (H : Hp) (Q : VK) : RV → Sl → Hp → Hp → Prop := fun rv _ F' H' => ∀ v, RvOk Z.K Z.T F' H' H v rv → Q v H'
/-- a def's promise, from what the evaluator says of it -/
def SpOf (Z : Fix) (m : List Bool) (call : List D → RC) : Sp := fun vs H Q E => ∃ F ds ρ, parS m ds = some ρ ∧ SEnv Z.K Z.T F H ρ (vs.map some) ∧
  After Z.K Z.T (exC Z) (fun cls dd _ H' => E cls dd H') (vs.map some) ρ F H (okV Z H Q) ((call ds).toR ρ)
structure FnGood (Z : Fix) (g : Sta) (c : Calls) (lev : Nat) : Prop where
  fn : ∀ x k m, g.fn.lookup x = some (k, m) → ∃ f fd ps, Z.mg x = some (.ref f) ∧ PySem.W.keepIn Z.K (.ref f) = true ∧ Binds Z.K fd ps [] ∧ FnOk Z.P Z.w Z.K Z.mg Z.base (CX Z.P Z.w) lev f fd ps (SpOf Z m (c k))
/-- what the text's names mean -/
structure Named (Z : Fix) (g : Sta) : Prop where
  cs : ∀ x d, g.cs.lookup x = some d → ∃ u v, Z.mg x = some u ∧ RelV v u ∧ ∀ F, Rp Z.K F v d
  bl : ∀ x ∈ g.bl, Z.mg x = none
/-- where one stands -/
structure At (Z : Fix) (g : Sta) (h : List Calls) (W : WX) (X : Cx) : Prop where
  prog : X.prog = Z.P
  w : X.w = Z.w
  K : X.K = Z.K
  mg : X.mg = Z.mg
  base : X.base = Z.base
  nm : X.N = g.nm
  sc : X.env.scope = g.sc
  nd : g.nm.Nodup
  room : Room (2 * h.length + 1) X.A
  calm : X.calm = true
  takes : Takes X W
  owns : PassesOwn (model X.prog X.w) X.A X.env X.xe
  st : ∀ i x, storable g i = true → g.nm[i]? = some x → X.fn x = true ∨ X.env.scope.names.lookup x = some .local
  fns : ∀ c t, (c :: t) <:+ h → FnGood Z g c (2 * (t.length + 1))
  named : Named Z g
  code : g.hg = true → g.gb = false → ∃ c P, X.env.code = .ref c ∧ GxR.TabB X.base X.mg c P ∧ P ∈ Z.T
/-- the expression e does what f says -/
def SE (Z : Fix) (g : Sta) (h : List Calls) (e : Expr) (f : Sl → R RV) : Prop := ∀ X W, At Z g h W X → ∀ σ ρ F H Q, SEnv Z.K Z.T F H ρ σ →
  After Z.K Z.T (exC Z) W σ ρ F H (okV Z H Q) (f ρ) → wE X e σ H Q
end Ev
end
section
set_option Elab.async false
set_option linter.all false
set_option maxRecDepth 100000
/-! The operations. -/
namespace Ev
open PySem PySem.Spec PyProof.Rows L2
variable {K : PySem.W.Frag} {F F' F1 F2 H H' H1 H2 : Hp} {T : List Addr} {σ σ' : Sg} {ρ ρ' ρ1 ρ2 : Sl}

/-- an operand's tree: shared, or a slot's own list or dict, where it lies -/
def Rq (K : PySem.W.Frag) (F H : Hp) (v : V) (d : D) : Prop := Rp K F v d ∨ ∃ a, v = .ref a ∧ Holds K F H a d
inductive RqA (K : PySem.W.Frag) (F H : Hp) : List V → List D → Prop
  | nil : RqA K F H [] []
  | cons {v : V} {vs : List V} {d : D} {ds : List D} : Rq K F H v d → RqA K F H vs ds → RqA K F H (v :: vs) (d :: ds)
/-- only new things -/
structure Ext (F H F' H' : Hp) : Prop where
  fsub : Same F F'
  hsub : Same H H'
  sub : Same F' H'
  new : ∀ a o, F' a = some o → F a = some o ∨ H a = none
theorem Ext.refl (h : Same F H) : Ext F H F H := ⟨.refl _, .refl _, h, fun _ _ q => .inl q⟩
theorem same_upd {p : Addr} {o : HO} (h : H p = none) : Same H (upd H p o) := fun b x e => by rw [upd_ne (ne_of_none e h)]; exact e
/-- a new thing that is shared at once -/
theorem Ext.shr (h : Same F H) {p : Addr} {o : HO} (n : H p = none) : Ext F H (upd F p o) (upd H p o) := by
  have nf : F p = none := by
    cases q : F p with
    | none => rfl
    | some u => have := h _ _ q; rw [n] at this; cases this
  refine ⟨same_upd nf, same_upd n, fun b x e => ?_, fun b x e => ?_⟩
  · by_cases hb : b = p
    · subst hb; rw [upd_same] at e ⊢; exact e
    · rw [upd_ne hb] at e ⊢; exact h _ _ e
  · by_cases hb : b = p
    · subst hb; exact .inr n
    · rw [upd_ne hb] at e; exact .inl e
/-- a new thing that nobody holds yet -/
theorem Ext.own (h : Same F H) {p : Addr} {o : HO} (n : H p = none) : Ext F H F (upd H p o) :=
  ⟨.refl _, same_upd n, fun b x e => same_upd n _ _ (h _ _ e), fun _ _ q => .inl q⟩
theorem free_of (h : Same F H) {p : Addr} (n : H p = none) : F p = none := by
  cases q : F p with
  | none => rfl
  | some u => have := h _ _ q; rw [n] at this; cases this
theorem SEnv.tabs (e : SEnv K T F H ρ σ) : ∀ a ∈ T, H a ≠ none := fun a ha q => by
  obtain ⟨ps, z, _⟩ := e.tabH a ha
  rw [q] at z; cases z
theorem SlotOk.ext {p : PV} {o : Option V} (h : SlotOk K T F H p o) (x : Ext F H F' H') : SlotOk K T F' H' p o := by
  cases p with
  | non => trivial
  | shr d => obtain ⟨v, e, r⟩ := h; exact ⟨v, e, r.mono x.fsub⟩
  | hld io lk d =>
    obtain ⟨a, e, f, t, q⟩ := h
    obtain ⟨u, hu⟩ := q.some
    refine ⟨a, e, ?_, t, q.mono x.fsub ((x.hsub _ _ hu).trans hu.symm)⟩
    cases z : F' a with
    | none => rfl
    | some w =>
      rcases x.new _ _ z with y | y
      · rw [f] at y; cases y
      · rw [hu] at y; cases y
theorem Go.ext (e : SEnv K T F H ρ σ) (x : Ext F H F' H') : Go K T σ ρ F H ρ F' H' := by
  refine ⟨⟨x.fsub, fun a o h _ _ => x.hsub _ _ h, fun a o h => ⟨o, x.hsub _ _ h⟩, fun a o h => (x.new a o h).imp id .inl⟩, ⟨e.len, x.sub, fun a ha => ?_, fun a ha => ?_, fun i => (e.slot i).ext x, e.apart⟩, fun _ h => h, fun _ _ _ d h _ => ⟨d, h, fun _ => rfl⟩⟩
  · cases z : F' a with
    | none => rfl
    | some w =>
      rcases x.new _ _ z with y | y
      · rw [e.tabF a ha] at y; cases y
      · exact absurd y (e.tabs a ha)
  · obtain ⟨ps, z, q⟩ := e.tabH a ha
    exact ⟨ps, x.hsub _ _ z, q⟩
/-- what is in hand is shared from now on -/
theorem Go.dat {H0 : Hp} {v : V} {rv : RV} (e0 : SEnv K T F H0 ρ σ) (g : Go K T σ ρ F H0 ρ' F' H') (r : RvOk K T F' H' H0 v rv) :
    ∃ F'', Go K T σ ρ F H0 ρ' F'' H' ∧ Rp K F'' v rv.d ∧ Same F' F'' := by
  cases rv with
  | shr d => exact ⟨F', g, r, .refl _⟩
  | own d =>
    obtain ⟨a, rfl, f, t, n, q⟩ := r
    obtain ⟨o, ho⟩ := q.some
    have sm : Same F' (upd F' a o) := same_upd f
    have no : ¬ Own ρ' σ a := fun z => by
      obtain ⟨u, hu⟩ := e0.own_some (g.own a z)
      rw [n] at hu; cases hu
    refine ⟨upd F' a o, ⟨⟨g.fw.fsub.trans sm, g.fw.keep, g.fw.stay, fun b u z => ?_⟩, ⟨g.env.len, fun b u z => ?_, fun b hb => ?_, g.env.tabH, fun i => ?_, g.env.apart⟩, g.own, g.pin⟩, q.rp sm (by rw [upd_same, ho]), sm⟩
    · by_cases hb : b = a
      · subst hb; exact .inr (.inl n)
      · rw [upd_ne hb] at z; exact g.fw.new b u z
    · by_cases hb : b = a
      · subst hb; rw [upd_same] at z; cases z; exact ho
      · rw [upd_ne hb] at z; exact g.env.sub _ _ z
    · have nb : b ≠ a := fun z => t (by rw [← z]; exact hb)
      rw [upd_ne nb]; exact g.env.tabF b hb
    · have s := g.env.slot i
      cases hp : getS ρ' i with
      | non => trivial
      | shr d' => rw [hp] at s; obtain ⟨v, e, r⟩ := s; exact ⟨v, e, r.mono sm⟩
      | hld io lk d' =>
        rw [hp] at s
        obtain ⟨b, e, fb, tb, qb⟩ := s
        have nb : b ≠ a := fun z => no ⟨i, ⟨io, lk, d', hp⟩, by rw [e, z]⟩
        exact ⟨b, e, by rw [upd_ne nb]; exact fb, tb, qb.mono sm rfl⟩

/-! ### operands read -/
theorem Rq.lst {v : V} {ds : List D} (h : Rq K F H v (.list ds)) (s : Same F H) : ∃ a xs, v = .ref a ∧ H a = some (.lst xs) ∧ RpA K F xs ds := by
  rcases h with h | ⟨a, rfl, xs, e, r⟩
  · cases h with
    | lst e r => exact ⟨_, _, rfl, s _ _ e, r⟩
  · exact ⟨a, xs, rfl, e, r⟩
theorem Rq.tup {v : V} {ds : List D} (h : Rq K F H v (.tuple ds)) (s : Same F H) : ∃ a xs, v = .ref a ∧ SqT K H a xs ∧ RpA K F xs ds := by
  rcases h with h | ⟨a, rfl, q⟩
  · cases h with
    | tup e r => exact ⟨_, _, rfl, Same.seqT s e.sq, r⟩
  · exact q.elim
theorem Rq.int {v : V} {i : Int} (h : Rq K F H v (.int i)) : v = .int i := by
  rcases h with h | ⟨a, rfl, q⟩
  · cases h; rfl
  · exact q.elim
theorem Rq.str {v : V} {x : Str} (h : Rq K F H v (.str x)) : v = .str x := by
  rcases h with h | ⟨a, rfl, q⟩
  · cases h; rfl
  · exact q.elim
theorem Rq.bl {v : V} {b : Bool} (h : Rq K F H v (.bool b)) : v = .bl b := by
  rcases h with h | ⟨a, rfl, q⟩
  · cases h; rfl
  · exact q.elim
theorem Rq.non {v : V} (h : Rq K F H v .none) : v = .non := by
  rcases h with h | ⟨a, rfl, q⟩
  · cases h; rfl
  · exact q.elim
theorem noScr {kvs : List (Key × V)} {d : D} {ps : List (D × D)} (h : RpK K F kvs ((.none, d) :: ps)) : False := by
  generalize e : ((PyData.none, d) :: ps : List (D × D)) = l at h
  cases h with
  | nil => cases e
  | cons a r =>
    rename_i k _ _ _ _
    have z := (List.cons.inj e).1
    cases k <;> exact nomatch congrArg Prod.fst z
theorem Rq.scr {v : V} {ds : List D} (h : Rq K F H v (scrD ds)) (s : Same F H) : ∃ a xs, v = .ref a ∧ SqL K H a xs ∧ RpA K F xs ds := by
  rcases h with h | ⟨a, rfl, kvs, e, r⟩
  · cases h with
    | scr e r => exact ⟨_, _, rfl, s.seq e, r⟩
    | dic e r => exact (noScr r).elim
  · exact (noScr r).elim
theorem Rq.dic {v : V} {ps : List (D × D)} (h : Rq K F H v (.dict ps)) (n : isScr ps = false) (s : Same F H) : ∃ a kvs, v = .ref a ∧ Rd H a (.dK kvs) ∧ RpK K F kvs ps := by
  rcases h with h | ⟨a, rfl, kvs, e, r⟩
  · cases h with
    | scr e r => exact absurd n (by simp [isScr])
    | dic e r => exact ⟨_, _, rfl, Same.rd s e, r⟩
  · exact ⟨a, kvs, rfl, .inl e, r⟩
theorem one {vs : List V} {x : D} (h : RqA K F H vs [x]) : ∃ v, vs = [v] ∧ Rq K F H v x := by
  cases h with
  | cons a r => cases r; exact ⟨_, rfl, a⟩
theorem two {vs : List V} {x y : D} (h : RqA K F H vs [x, y]) : ∃ v u, vs = [v, u] ∧ Rq K F H v x ∧ Rq K F H u y := by
  cases h with
  | cons a r => obtain ⟨u, rfl, b⟩ := one r; exact ⟨_, _, rfl, a, b⟩
theorem three {vs : List V} {x y z : D} (h : RqA K F H vs [x, y, z]) : ∃ v u w, vs = [v, u, w] ∧ Rq K F H v x ∧ Rq K F H u y ∧ Rq K F H w z := by
  cases h with
  | cons a r => obtain ⟨u, w, rfl, b, c⟩ := two r; exact ⟨_, _, _, rfl, a, b, c⟩


/-- what holds of every place of a def -/
structure Xok (K : PySem.W.Frag) (X : Cx) : Prop where
  K : X.K = K
  calm : X.calm = true
  hu : X.A.units + 80 < cLine
/-- the weakest readings, by values -/
def w2 (X : Cx) (f : Value → Value → Sem Value) : List V → Hp → VK → Prop := fun vs H Q => ∃ x y, vs = [x, y] ∧ ∀ pins s σ v u, Inv X pins σ H s → RelV x v → RelV y u → wpAny (model X.prog X.w) X.A (f v u) (EP X pins σ Q) X.xe s
def w1 (X : Cx) (f : Value → Sem Value) : List V → Hp → VK → Prop := fun vs H Q => ∃ x, vs = [x] ∧ ∀ pins s σ v, Inv X pins σ H s → RelV x v → wpAny (model X.prog X.w) X.A (f v) (EP X pins σ Q) X.xe s
def wC (X : Cx) (f : Value) : List V → Hp → VK → Prop := fun vs H Q => ∀ pins s σ us, Inv X pins σ H s → Vals vs us → wpAny (model X.prog X.w) X.A (call f us) (EP X pins σ Q) X.xe s
variable {X : Cx}
theorem w2_of {f : Value → Value → Sem Value} {r : R2} {x y : V} {Q : VK} (h : OpR X f r) (q : r x y H Q) : w2 X f [x, y] H Q := ⟨x, y, rfl, fun pins s σ v u I rx ry => h pins s σ H x y v u Q I rx ry q⟩
theorem w1_of {f : Value → Sem Value} {r : V → Hp → VK → Prop} {x : V} {Q : VK} (h : UnR X f r) (q : r x H Q) : w1 X f [x] H Q := ⟨x, rfl, fun pins s σ v I rx => h pins s σ H x v Q I rx q⟩
theorem wC_of {f : Value} {r : List V → Hp → VK → Prop} {vs : List V} {Q : VK} (h : CallR X f r) (q : r vs H Q) : wC X f vs H Q := fun pins s σ us I rv => h pins s σ H vs us Q I rv q
theorem op_w {f : Value → Value → Sem Value} : OpR X f (fun x y => w2 X f [x, y]) := fun pins s σ H x y v u Q I rx ry h => by
  obtain ⟨_, _, e, h⟩ := h
  cases e
  exact h pins s σ v u I rx ry
theorem un_w {f : Value → Sem Value} : UnR X f (fun x => w1 X f [x]) := fun pins s σ H x v Q I rx h => by
  obtain ⟨_, e, h⟩ := h
  cases e
  exact h pins s σ v I rx
theorem call_w {f : Value} : CallR X f (wC X f) := fun pins s σ H vs us Q I rv h => h pins s σ us I rv

/-- the reading r does what p says -/
def Pure (K : PySem.W.Frag) (T : List Addr) (p : List D → Option RV) (r : List V → Hp → VK → Prop) : Prop :=
  ∀ ds rv, p ds = some rv → ∀ F H vs Q, Same F H → (∀ a ∈ T, H a ≠ none) → RqA K F H vs ds → (∀ F' H' v, Ext F H F' H' → RvOk K T F' H' H v rv → Q v H') → r vs H Q
theorem b2o_some {b : Bool} {v : Option RV} {rv : RV} (h : b2o b v = some rv) : b = true ∧ v = some rv := by
  unfold b2o at h
  split at h
  · rename_i q; exact ⟨q, h⟩
  · cases h
section
variable {rv : RV} {Q : VK} (s : Same F H) (q : ∀ F' H' v, Ext F H F' H' → RvOk K T F' H' H v rv → Q v H')
include s q
theorem okI {i : Int} (e : rint i = some rv) : Q (.int i) H := by
  cases e; exact q F H _ (.refl s) (.int i)
theorem okB {b : Bool} (e : rbool b = some rv) : Q (.bl b) H := by
  cases e; exact q F H _ (.refl s) (.bl b)
theorem okS {v : V} {d : D} (e : some (RV.shr d) = some rv) (r : Rp K F v d) : Q v H := by
  cases e; exact q F H _ (.refl s) r
/-- a new tuple -/
theorem okT {xs : List V} {ds : List D} (e : some (RV.shr (.tuple ds)) = some rv) (r : RpA K F xs ds) : ∀ p, H p = none → Q (.ref p) (upd H p (.tup xs)) := fun p n => by
  cases e
  have x := Ext.shr (o := .tup xs) s n
  exact q _ _ _ x (.tup (.inl upd_same) (r.mono x.fsub))
/-- a new list -/
theorem okL {xs : List V} {ds : List D} (t : ∀ a ∈ T, H a ≠ none) (e : some (RV.own (.list ds)) = some rv) (r : RpA K F xs ds) : ∀ p, H p = none → Q (.ref p) (upd H p (.lst xs)) := fun p n => by
  cases e
  exact q _ _ _ (Ext.own s n) ⟨p, rfl, free_of s n, fun z => t p z n, n, xs, upd_same, r⟩
end
theorem sz {n : Nat} (h : decide (n ≤ mAx) = true) : n ≤ sizeLine := by rw [sizeLine_eq]; exact of_decide_eq_true h
theorem Rq.tupR {v : V} {ds : List D} (h : Rq K F H v (.tuple ds)) : Rp K F v (.tuple ds) := h.elim id fun ⟨_, _, q⟩ => q.elim
theorem RpA.nil_iff {vs : List V} {ds : List D} (h : RpA K F vs ds) : vs = [] ↔ ds = [] := by
  cases h <;> simp
theorem RpA.rep {vs : List V} {ds : List D} (h : RpA K F vs ds) : ∀ k : Nat, RpA K F (List.replicate k vs).flatten (List.replicate k ds).flatten
  | 0 => .nil
  | k + 1 => by rw [List.replicate_succ, List.replicate_succ, List.flatten_cons, List.flatten_cons]; exact h.append (h.rep k)
section
variable (Y : Xok K X)
include Y
/-! ### arithmetic -/
theorem pu_add : Pure K T opAdd (w2 X (binaryOp .Add)) := by
  intro ds rv h F H vs Q s t ra q
  have hK := Y.K
  subst hK
  unfold opAdd at h
  split at h
  · obtain ⟨v, u, rfl, a, b⟩ := two ra
    exact w2_of op_add ⟨_, _, a.int, b.int, okI s q h⟩
  · obtain ⟨v, u, rfl, a, b⟩ := two ra
    obtain ⟨z, h⟩ := b2o_some h
    exact w2_of op_add_str ⟨_, _, a.str, b.str, sz z, okS s q h (.str _)⟩
  · obtain ⟨v, u, rfl, a, b⟩ := two ra
    obtain ⟨z, h⟩ := b2o_some h
    obtain ⟨l, xs, rfl, hl, rx⟩ := a.lst s
    obtain ⟨m, ys, rfl, hm, ry⟩ := b.lst s
    exact w2_of op_cat ⟨l, m, xs, ys, rfl, rfl, hl, hm, by rw [rx.length, ry.length]; exact sz z, okL s q t h (rx.append ry)⟩
  · obtain ⟨v, u, rfl, a, b⟩ := two ra
    obtain ⟨z, h⟩ := b2o_some h
    have a' := a.tupR
    have b' := b.tupR
    obtain ⟨l, xs, rfl, hl, rx⟩ := a.tup s
    obtain ⟨m, ys, rfl, hm, ry⟩ := b.tup s
    refine w2_of op_catA ⟨l, m, xs, ys, rfl, rfl, hl, hm, by rw [rx.length, ry.length]; exact sz z, fun e => ?_, fun _ e => ?_, fun _ _ => okT s q h (rx.append ry)⟩
    · have e2 := rx.nil_iff.mp e
      rw [e2, List.nil_append] at h
      exact okS s q h b'
    · have e2 := ry.nil_iff.mp e
      rw [e2, List.append_nil] at h
      exact okS s q h a'
  · cases h
theorem pu_sub : Pure K T opSub (w2 X (binaryOp .Sub)) := by
  intro ds rv h F H vs Q s t ra q
  unfold opSub at h
  split at h
  · obtain ⟨v, u, rfl, a, b⟩ := two ra
    exact w2_of op_sub ⟨_, _, a.int, b.int, okI s q h⟩
  · cases h
theorem pu_mul : Pure K T opMul (w2 X (binaryOp .Mult)) := by
  intro ds rv h F H vs Q s t ra q
  have hK := Y.K
  subst hK
  unfold opMul at h
  split at h
  · obtain ⟨v, u, rfl, a, b⟩ := two ra
    obtain ⟨z, h⟩ := b2o_some h
    rw [Bool.or_eq_true, Bool.or_eq_true, Bool.and_eq_true, Bool.and_eq_true] at z
    rcases z with (z | z) | z
    · exact w2_of op_mul ⟨_, _, a.int, b.int, .inl ⟨of_decide_eq_true z.1, of_decide_eq_true z.2⟩, okI s q h⟩
    · exact w2_of op_mul ⟨_, _, a.int, b.int, .inr ⟨of_decide_eq_true z.1, of_decide_eq_true z.2⟩, okI s q h⟩
    · exact w2_of op_mulW ⟨_, _, a.int, b.int, show CMulW _ _ from (of_decide_eq_true z : _ < 1000000), okI s q h⟩
  · obtain ⟨v, u, rfl, a, b⟩ := two ra
    obtain ⟨z, h⟩ := b2o_some h
    rw [Bool.and_eq_true, lim62, Bool.and_eq_true] at z
    obtain ⟨⟨z1, z2⟩, z3⟩ := z
    have z1 := of_decide_eq_true z1
    have z2 := of_decide_eq_true z2
    obtain ⟨l, xs, rfl, hl, rx⟩ := a.lst s
    exact w2_of op_rep ⟨l, _, xs, rfl, b.int, hl, by omega, by omega, by rw [rx.length]; exact sz z3, okL s q t h (rx.rep _)⟩
  · obtain ⟨v, u, rfl, a, b⟩ := two ra
    obtain ⟨z, h⟩ := b2o_some h
    simp only [Bool.and_eq_true, decide_eq_true_eq] at z
    obtain ⟨⟨⟨⟨_, z1⟩, z2⟩, z3⟩, z4⟩ := z
    obtain ⟨l, xs, rfl, hl, rx⟩ := a.tup s
    refine w2_of op_repT ⟨l, _, xs, rfl, b.int, hl, fun e => ?_, z1, z2, by rw [rx.length]; exact z3, okT s q h (rx.rep _)⟩
    rw [rx.nil_iff.mp e] at z4
    exact absurd z4 (by decide)
  · cases h
theorem pu_fdiv : Pure K T opFdiv (w2 X (binaryOp .FloorDiv)) := by
  intro ds rv h F H vs Q s t ra q
  unfold opFdiv at h
  split at h
  · obtain ⟨v, u, rfl, a, b⟩ := two ra
    obtain ⟨z, h⟩ := b2o_some h
    rw [Bool.and_eq_true] at z
    exact w2_of op_fdivW ⟨_, _, a.int, b.int, ⟨of_decide_eq_true z.1, of_decide_eq_true z.2⟩, okI s q h⟩
  · cases h
theorem pu_mod : Pure K T opMod (w2 X (binaryOp .Mod)) := by
  intro ds rv h F H vs Q s t ra q
  unfold opMod at h
  split at h
  · obtain ⟨v, u, rfl, a, b⟩ := two ra
    obtain ⟨z, h⟩ := b2o_some h
    exact w2_of op_mod ⟨_, _, a.int, b.int, of_decide_eq_true z, okI s q h⟩
  · cases h
theorem pu_pow : Pure K T opPow (w2 X (binaryOp .Pow)) := by
  intro ds rv h F H vs Q s t ra q
  unfold opPow at h
  split at h
  · obtain ⟨v, u, rfl, a, b⟩ := two ra
    obtain ⟨z, h⟩ := b2o_some h
    simp only [Bool.and_eq_true, decide_eq_true_eq] at z
    exact w2_of op_pow ⟨_, _, a.int, b.int, ⟨z.1.1, z.1.2, z.2⟩, okI s q h⟩
  · cases h
theorem pu_shl : Pure K T opShl (w2 X (binaryOp .LShift)) := by
  intro ds rv h F H vs Q s t ra q
  unfold opShl at h
  split at h
  · obtain ⟨v, u, rfl, a, b⟩ := two ra
    obtain ⟨z, h⟩ := b2o_some h
    simp only [Bool.and_eq_true, decide_eq_true_eq] at z
    exact w2_of op_shl ⟨_, _, a.int, b.int, ⟨z.1.1, z.1.2, z.2⟩, okI s q h⟩
  · cases h
theorem pu_shr : Pure K T opShr (w2 X (binaryOp .RShift)) := by
  intro ds rv h F H vs Q s t ra q
  unfold opShr at h
  split at h
  · obtain ⟨v, u, rfl, a, b⟩ := two ra
    obtain ⟨z, h⟩ := b2o_some h
    exact w2_of op_shr ⟨_, _, a.int, b.int, of_decide_eq_true z, okI s q h⟩
  · cases h
theorem pu_xor : Pure K T opXor (w2 X (binaryOp .BitXor)) := by
  intro ds rv h F H vs Q s t ra q
  unfold opXor at h
  split at h
  · obtain ⟨v, u, rfl, a, b⟩ := two ra
    exact w2_of op_xor ⟨_, _, a.int, b.int, okI s q h⟩
  · cases h
theorem pu_neg : Pure K T opNeg (w1 X (unaryOp .USub)) := by
  intro ds rv h F H vs Q s t ra q
  unfold opNeg at h
  split at h
  · obtain ⟨v, rfl, a⟩ := one ra
    exact w1_of un_neg ⟨_, a.int, okI s q h⟩
  · cases h

/-! ### comparisons -/
theorem RpA_dp (ih : ∀ v d, Rp K F v d → PyData.canLay0 d = true → Dp K F v d) : True := trivial
end
mutual
theorem Rp.dp (s : Same F H) : ∀ {v : V} {d : D}, Rp K F v d → PyData.canLay0 d = true → Dp K H v d
  | _, _, .non, _ => .non
  | _, _, .bl b, _ => .bl b
  | _, _, .int i, _ => .int i
  | _, _, .str x, _ => .str x
  | _, _, .lst h r, c => .lst (.inl (.inl (s _ _ h))) (r.dp s (by rw [PyData.canLay0] at c; exact c))
  | _, _, .tup h r, c => .tup (Same.seqT s h.sq) (r.dp s (by rw [PyData.canLay0] at c; exact c))
  | _, _, .scr h r, c => absurd c (by rw [PyData.canLay0]; decide)
  | _, _, .dic h r, c => absurd c (by rw [PyData.canLay0]; decide)
theorem RpA.dp (s : Same F H) : ∀ {vs : List V} {ds : List D}, RpA K F vs ds → PyData.canLayAll0 ds = true → DpAll K H vs ds
  | _, _, .nil, _ => .nil
  | _, _, .cons h r, c => by
    rw [PyData.canLayAll0, Bool.and_eq_true] at c
    exact .cons (h.dp s c.1) (r.dp s c.2)
end
mutual
theorem Rp.dpA (s : Same F H) : ∀ {v : V} {d : D}, Rp K F v d → PySem.W.alike d d = true → Dp K H v d
  | _, _, .non, _ => .non
  | _, _, .bl b, _ => .bl b
  | _, _, .int i, _ => .int i
  | _, _, .str x, _ => .str x
  | _, _, .lst h r, c => .lst (.inl (.inl (s _ _ h))) (r.dpA s (by rw [PySem.W.alike] at c; exact c))
  | _, _, .tup h r, c => .tup (Same.seqT s h.sq) (r.dpA s (by rw [PySem.W.alike] at c; exact c))
  | _, _, .scr h r, c => absurd c (by simp [PySem.W.alike])
  | _, _, .dic h r, c => absurd c (by simp [PySem.W.alike])
theorem RpA.dpA (s : Same F H) : ∀ {vs : List V} {ds : List D}, RpA K F vs ds → PySem.W.alikeAll ds ds = true → DpAll K H vs ds
  | _, _, .nil, _ => .nil
  | _, _, .cons h r, c => .cons (h.dpA s (PySem.W.alike_all_cons c).1) (r.dpA s (PySem.W.alike_all_cons c).2)
end
theorem flat_sh {d : D} (h : flat d = true) : SeqAt.shaped d = true := h
theorem flat_cl {d : D} (h : flat d = true) : d.canLay0 = true := (Bool.and_eq_true_iff.mp h).1
theorem Rq.dp {v : V} {d : D} (h : Rq K F H v d) (s : Same F H) (f : flat d = true) : Dp K H v d := by
  rcases h with h | ⟨a, rfl, q⟩
  · exact h.dp s (flat_cl f)
  · have c := flat_cl f
    cases d <;> first | exact q.elim | skip
    · obtain ⟨xs, e, r⟩ := q
      exact .lst (.inl (.inl e)) (r.dp s (by rw [PyData.canLay0] at c; exact c))
    · exact absurd c (by rw [PyData.canLay0]; decide)
theorem anyEq_eqv (x : D) (ys : List D) : (ys.any fun z => PyData.eqv z x) = anyEq x ys := rfl
section
variable (Y : Xok K X)
include Y
theorem pu_eq : Pure K T opEq (w2 X (compareOp .Eq)) := by
  intro ds rv h F H vs Q s t ra q
  have hK := Y.K
  subst hK
  have hu := Y.hu
  unfold opEq at h
  split at h
  · obtain ⟨v, u, rfl, a, b⟩ := two ra
    obtain ⟨z, h⟩ := b2o_some h
    rw [Bool.and_eq_true] at z
    exact w2_of (op_eqD (by omega)) ⟨_, _, a.dp s z.1, b.dp s z.2, flat_sh z.1, flat_sh z.2, okB s q h⟩
  · cases h
theorem pu_ne : Pure K T opNe (w2 X (compareOp .NotEq)) := by
  intro ds rv h F H vs Q s t ra q
  have hK := Y.K
  subst hK
  have hu := Y.hu
  unfold opNe at h
  split at h
  · obtain ⟨v, u, rfl, a, b⟩ := two ra
    obtain ⟨z, h⟩ := b2o_some h
    rw [Bool.and_eq_true] at z
    exact w2_of (op_neD (by omega)) ⟨_, _, a.dp s z.1, b.dp s z.2, flat_sh z.1, flat_sh z.2, okB s q h⟩
  · cases h
theorem pu_lt : Pure K T opLt (w2 X (compareOp .Lt)) := by
  intro ds rv h F H vs Q s t ra q
  unfold opLt at h
  split at h
  · obtain ⟨v, u, rfl, a, b⟩ := two ra
    exact w2_of op_lt ⟨_, _, a.int, b.int, okB s q h⟩
  · obtain ⟨v, u, rfl, a, b⟩ := two ra
    exact w2_of op_lt_str ⟨_, _, a.str, b.str, okB s q h⟩
  · cases h
theorem pu_le : Pure K T opLe (w2 X (compareOp .LtE)) := by
  intro ds rv h F H vs Q s t ra q
  unfold opLe at h
  split at h
  · obtain ⟨v, u, rfl, a, b⟩ := two ra
    exact w2_of op_le ⟨_, _, a.int, b.int, okB s q h⟩
  · cases h
theorem pu_gt : Pure K T opGt (w2 X (compareOp .Gt)) := by
  intro ds rv h F H vs Q s t ra q
  unfold opGt at h
  split at h
  · obtain ⟨v, u, rfl, a, b⟩ := two ra
    exact w2_of op_gt ⟨_, _, a.int, b.int, okB s q h⟩
  · cases h
theorem pu_ge : Pure K T opGe (w2 X (compareOp .GtE)) := by
  intro ds rv h F H vs Q s t ra q
  unfold opGe at h
  split at h
  · obtain ⟨v, u, rfl, a, b⟩ := two ra
    exact w2_of op_ge ⟨_, _, a.int, b.int, okB s q h⟩
  · cases h
end
theorem non_iff {v : V} {d : D} (h : Rq K F H v d) : decide (v = .non) = isNon d := by
  rcases h with h | ⟨a, rfl, q⟩
  · cases h <;> rfl
  · cases d <;> first | exact q.elim | rfl
theorem non_iff' {v : V} {d : D} (h : Rq K F H v d) : (!decide (v = .non)) = (!isNon d) := by
  rw [non_iff h]
/-- is None: the other side is None itself -/
theorem pu_isn {ds : List D} {rv : RV} {v : V} {Q : VK} (h : opIsn ds = some rv) (s : Same F H) (ra : RqA K F H [v] ds) (q : ∀ F' H' v, Ext F H F' H' → RvOk K T F' H' H v rv → Q v H') : w2 X (compareOp .Is) [v, .non] H Q := by
  unfold opIsn at h
  split at h
  · obtain ⟨_, e, a⟩ := one ra
    cases e
    refine w2_of op_isN ⟨rfl, ?_⟩
    rw [non_iff a]
    exact okB s q h
  · cases h
theorem pu_isnn {ds : List D} {rv : RV} {v : V} {Q : VK} (h : opIsnn ds = some rv) (s : Same F H) (ra : RqA K F H [v] ds) (q : ∀ F' H' v, Ext F H F' H' → RvOk K T F' H' H v rv → Q v H') : w2 X (compareOp .IsNot) [v, .non] H Q := by
  unfold opIsnn at h
  split at h
  · obtain ⟨_, e, a⟩ := one ra
    cases e
    refine w2_of op_notN ⟨rfl, ?_⟩
    rw [non_iff' a]
    exact okB s q h
  · cases h
/-- is True, is False -/
theorem op_isB {X : Cx} : OpR X (compareOp .Is) (fun x y H Q => ∃ b, y = .bl b ∧ (∃ F d, Rq X.K F H x d) ∧ Q (.bl (decide (x = .bl b))) H) := by
  intro pins s σ H x y v u Q I rx ry h
  obtain ⟨b, rfl, ⟨F, d, hd⟩, q⟩ := h
  cases (show u = Value.bool b from ry)
  refine wpAny_is_plain (by
    rcases hd with h | ⟨a, rfl, _⟩
    · cases h <;> first | (cases rx; rfl) | (obtain ⟨t, rfl⟩ := rx; rfl)
    · cases rx; rfl) (fin_bl I q ?_)
  rcases hd with h | ⟨a, rfl, _⟩
  · cases h <;> first | (cases rx; rfl) | (obtain ⟨t, rfl⟩ := rx; rfl) | skip
    all_goals (rename_i c; cases (show v = Value.bool c from rx); cases c <;> cases b <;> rfl)
  · cases rx; rfl
theorem op_notB {X : Cx} : OpR X (compareOp .IsNot) (fun x y H Q => ∃ b, y = .bl b ∧ (∃ F d, Rq X.K F H x d) ∧ Q (.bl (!decide (x = .bl b))) H) := by
  intro pins s σ H x y v u Q I rx ry h
  obtain ⟨b, rfl, ⟨F, d, hd⟩, q⟩ := h
  cases (show u = Value.bool b from ry)
  refine wpAny_isNot_plain (by
    rcases hd with h | ⟨a, rfl, _⟩
    · cases h <;> first | (cases rx; rfl) | (obtain ⟨t, rfl⟩ := rx; rfl)
    · cases rx; rfl) (fin_bl I q ?_)
  rcases hd with h | ⟨a, rfl, _⟩
  · cases h <;> first | (cases rx; rfl) | (obtain ⟨t, rfl⟩ := rx; rfl) | skip
    all_goals (rename_i c; cases (show v = Value.bool c from rx); cases c <;> cases b <;> rfl)
  · cases rx; rfl
theorem isBl_iff {v : V} {d : D} {b : Bool} (h : Rq K F H v d) : decide (v = .bl b) = isBl b d := by
  rcases h with h | ⟨a, rfl, q⟩
  · cases h <;> try rfl
    rename_i c
    cases c <;> cases b <;> rfl
  · cases d <;> first | exact q.elim | rfl
section
variable (Y : Xok K X)
include Y
theorem pu_ist : Pure K T opIst (w2 X (compareOp .Is)) := by
  intro ds rv h F H vs Q s t ra q
  have hK := Y.K
  subst hK
  unfold opIst at h
  split at h
  · obtain ⟨v, u, rfl, a, b⟩ := two ra
    have hb : u = .bl _ := b.bl
    subst hb
    refine w2_of op_isB ⟨_, rfl, ⟨F, _, a⟩, ?_⟩
    rw [isBl_iff a]
    exact okB s q h
  · cases h
theorem pu_isnt : Pure K T opIsnt (w2 X (compareOp .IsNot)) := by
  intro ds rv h F H vs Q s t ra q
  have hK := Y.K
  subst hK
  unfold opIsnt at h
  split at h
  · obtain ⟨v, u, rfl, a, b⟩ := two ra
    have hb : u = .bl _ := b.bl
    subst hb
    refine w2_of op_notB ⟨_, rfl, ⟨F, _, a⟩, ?_⟩
    rw [isBl_iff a]
    exact okB s q h
  · cases h
end
end Ev
end
section
set_option Elab.async false
set_option linter.all false
set_option maxRecDepth 100000
/-! The operations, further: in, len, items, lists and tuples, isinstance, sorted. -/
namespace Ev
open PySem PySem.Spec PyProof.Rows L2
variable {K : PySem.W.Frag} {F F' F1 F2 H H' H1 H2 : Hp} {T : List Addr} {X : Cx}

/-! ### keys -/
def dKey : D → Option Key
  | .int i => some (.inl i)
  | .str x => some (.inr x)
  | _ => none
theorem keyOk_dKey {d : D} (h : keyOk d = true) : ∃ k, d = keyD k := by
  cases d <;> first | exact ⟨.inl _, rfl⟩ | exact ⟨.inr _, rfl⟩ | exact Bool.noConfusion h
theorem key_eqv (a b : Key) : PyData.eqv (keyD a) (keyD b) = decide (a = b) := by
  cases a with
  | inl i => cases b with
    | inl j =>
      show PyData.eqv (.int i) (.int j) = _
      rw [PyData.eqv]
      by_cases h : i = j
      · subst h; simp
      · simp [h]
    | inr y => show PyData.eqv (.int i) (.str y) = _; rw [PyData.eqv]; rfl
  | inr x => cases b with
    | inl j => show PyData.eqv (.str x) (.int j) = _; rw [PyData.eqv]; rfl
    | inr y =>
      show PyData.eqv (.str x) (.str y) = _
      rw [PyData.eqv]
      by_cases h : x = y
      · subst h; simp
      · simp [h]
theorem Rq.key {v : V} {k : Key} (h : Rq K F H v (keyD k)) : v = kV k := by
  cases k with
  | inl i => exact h.int
  | inr x => exact h.str
theorem RpK.lk {kvs : List (Key × V)} {ps : List (D × D)} (h : RpK K F kvs ps) (k : Key) :
    (∀ d, look ps (keyD k) = some d → ∃ v, valV kvs k = some v ∧ Rp K F v d) ∧ (look ps (keyD k) = none → valV kvs k = none) := by
  generalize hn : ps.length = n
  induction n generalizing kvs ps with
  | zero =>
    cases h with
    | nil => exact ⟨fun d e => (nomatch e), fun _ => rfl⟩
    | cons a r => cases hn
  | succ n ih =>
    cases h with
    | nil => cases hn
    | cons a r =>
      rename_i k' v' kvs' d' ps'
      have ih' := ih r (by simpa using hn)
      unfold look at ih' ⊢
      rw [List.find?_cons]
      show (∀ d, Option.map _ (match PyData.eqv (keyD k') (keyD k) with | true => some (keyD k', d') | false => ps'.find? _) = some d → _) ∧ _
      rw [key_eqv]
      by_cases e : k' = k
      · subst e
        refine ⟨fun d z => ?_, fun z => ?_⟩
        · simp only [decide_true, Option.map_some, Option.some.injEq] at z
          subst z
          exact ⟨v', valV_pos rfl, a⟩
        · simp at z
      · have e1 : decide (k' = k) = false := decide_eq_false e
        rw [e1]
        rw [show valV ((k', v') :: kvs') k = valV kvs' k from valV_neg e]
        exact ih'
theorem RpK.isSome {kvs : List (Key × V)} {ps : List (D × D)} (h : RpK K F kvs ps) (k : Key) : (valV kvs k).isSome = (look ps (keyD k)).isSome := by
  obtain ⟨h1, h2⟩ := h.lk k
  cases q : look ps (keyD k) with
  | none => rw [h2 q]; rfl
  | some d => obtain ⟨v, e, _⟩ := h1 d q; rw [e]; rfl
theorem RpK.length : ∀ {kvs : List (Key × V)} {ps : List (D × D)}, RpK K F kvs ps → kvs.length = ps.length
  | _, _, .nil => rfl
  | _, _, .cons _ r => by rw [List.length_cons, List.length_cons, r.length]
theorem RpK.repl (k : Key) {y : V} {d : D} (hy : Rp K F y d) : ∀ {kvs : List (Key × V)} {ps : List (D × D)}, RpK K F kvs ps →
    RpK K F (kvs.map fun kv => if kv.1 = k then (kv.1, y) else kv) (ps.map fun p => if PyData.eqv p.1 (keyD k) then (p.1, d) else p)
  | _, _, .nil => .nil
  | _, _, .cons (k := k') (d := d') (v := v') a r => by
    rw [List.map_cons, List.map_cons]
    show RpK K F ((if k' = k then (k', y) else (k', v')) :: _) ((if PyData.eqv (keyD k') (keyD k) = true then (keyD k', d) else (keyD k', d')) :: _)
    rw [key_eqv]
    by_cases e : k' = k
    · rw [if_pos e, if_pos (by simp [e])]; exact .cons hy (r.repl k hy)
    · rw [if_neg e, if_neg (by simp [e])]; exact .cons a (r.repl k hy)
theorem RpK.snoc (k : Key) {y : V} {d : D} (hy : Rp K F y d) : ∀ {kvs : List (Key × V)} {ps : List (D × D)}, RpK K F kvs ps → RpK K F (kvs ++ [(k, y)]) (ps ++ [(keyD k, d)])
  | _, _, .nil => .cons hy .nil
  | _, _, .cons a r => .cons a (r.snoc k hy)
theorem RpK.pt {kvs : List (Key × V)} {ps : List (D × D)} (h : RpK K F kvs ps) (k : Key) {y : V} {d : D} (hy : Rp K F y d) : RpK K F (putK kvs k y) (put ps (keyD k) d) := by
  unfold putK Ev.put
  rw [valV_any, h.isSome k]
  by_cases q : (look ps (keyD k)).isSome = true
  · rw [if_pos q, if_pos q]; exact h.repl k hy
  · rw [if_neg q, if_neg q]; exact h.snoc k hy
theorem RpK.drop (k : Key) : ∀ {kvs : List (Key × V)} {ps : List (D × D)}, RpK K F kvs ps → RpK K F (dropK kvs k) (rem ps (keyD k))
  | _, _, .nil => .nil
  | _, _, .cons (k := k') (d := d') (v := v') a r => by
    unfold dropK rem
    rw [List.filter_cons, List.filter_cons]
    show RpK K F (if decide (k' ≠ k) = true then _ else _) (if (!PyData.eqv (keyD k') (keyD k)) = true then _ else _)
    rw [key_eqv]
    by_cases e : k' = k
    · rw [if_neg (by simp [e]), if_neg (by simp [e])]; exact r.drop k
    · rw [if_pos (by simp [e]), if_pos (by simp [e])]; exact .cons a (r.drop k)
theorem RpK.put_len {ps : List (D × D)} {k d : D} : (put ps k d).length ≤ ps.length + 1 := by
  unfold Ev.put
  split
  · rw [List.length_map]; omega
  · rw [List.length_append]; exact Nat.le_refl _

/-! ### in -/
def rInT (K : PySem.W.Frag) : R2 := fun x y H Q => ∃ d ds, Dp K H x d ∧ Dp K H y (.tuple ds) ∧ SeqAt.shaped d = true ∧ SeqAt.shaped (.tuple ds) = true ∧ Q (.bl (ds.any fun z => PyData.eqv z d)) H
def rNotInT (K : PySem.W.Frag) : R2 := fun x y H Q => ∃ d ds, Dp K H x d ∧ Dp K H y (.tuple ds) ∧ SeqAt.shaped d = true ∧ SeqAt.shaped (.tuple ds) = true ∧ Q (.bl (!ds.any fun z => PyData.eqv z d)) H
def rInL (K : PySem.W.Frag) : R2 := fun x y H Q => ∃ d ds, Dp K H x d ∧ Dp K H y (.list ds) ∧ SeqAt.shaped d = true ∧ SeqAt.shaped (.list ds) = true ∧ Q (.bl (ds.any fun z => PyData.eqv z d)) H
def rNotInL (K : PySem.W.Frag) : R2 := fun x y H Q => ∃ d ds, Dp K H x d ∧ Dp K H y (.list ds) ∧ SeqAt.shaped d = true ∧ SeqAt.shaped (.list ds) = true ∧ Q (.bl (!ds.any fun z => PyData.eqv z d)) H
theorem room_in {A : Around} {d : D} {n : Nat} (h : SeqAt.shaped d = true) (hu : A.units + 80 < cLine) : A.units + 1 + min n d.depth < cLine := by
  have h1 := SeqAt.depth_of_shaped h
  have : min n d.depth ≤ d.depth := Nat.min_le_right _ _
  omega
theorem op_inT (hu : X.A.units + 80 < cLine) : OpR X (compareOp .In) (rInT X.K) := by
  intro pins s σ H x y v u Q I rx ry h
  obtain ⟨d, ds, hd, he, sd, se, q⟩ := h
  obtain ⟨as, r1⟩ := Dp.reads I d x v hd rx
  obtain ⟨bs, r2⟩ := Dp.reads I (.tuple ds) y u he ry
  exact SeqAt.in_tuple_reads r2 r1 (by have := SeqAt.canLay_of_shaped se; rw [PyData.canLay0] at this; exact this) (SeqAt.canLay_of_shaped sd) (room_in sd hu) ⟨.bl _, H, I, rfl, q⟩
theorem op_notInT (hu : X.A.units + 80 < cLine) : OpR X (compareOp .NotIn) (rNotInT X.K) := by
  intro pins s σ H x y v u Q I rx ry h
  obtain ⟨d, ds, hd, he, sd, se, q⟩ := h
  obtain ⟨as, r1⟩ := Dp.reads I d x v hd rx
  obtain ⟨bs, r2⟩ := Dp.reads I (.tuple ds) y u he ry
  exact SeqAt.notIn_tuple_reads r2 r1 (by have := SeqAt.canLay_of_shaped se; rw [PyData.canLay0] at this; exact this) (SeqAt.canLay_of_shaped sd) (room_in sd hu) ⟨.bl _, H, I, rfl, q⟩
theorem op_inL (hu : X.A.units + 80 < cLine) : OpR X (compareOp .In) (rInL X.K) := by
  intro pins s σ H x y v u Q I rx ry h
  obtain ⟨d, ds, hd, he, sd, se, q⟩ := h
  obtain ⟨as, r1⟩ := Dp.reads I d x v hd rx
  obtain ⟨bs, r2⟩ := Dp.reads I (.list ds) y u he ry
  exact SeqAt.in_list_reads r2 r1 (by have := SeqAt.canLay_of_shaped se; rw [PyData.canLay0] at this; exact this) (SeqAt.canLay_of_shaped sd) (room_in sd hu) ⟨.bl _, H, I, rfl, q⟩
theorem op_notInL (hu : X.A.units + 80 < cLine) : OpR X (compareOp .NotIn) (rNotInL X.K) := by
  intro pins s σ H x y v u Q I rx ry h
  obtain ⟨d, ds, hd, he, sd, se, q⟩ := h
  obtain ⟨as, r1⟩ := Dp.reads I d x v hd rx
  obtain ⟨bs, r2⟩ := Dp.reads I (.list ds) y u he ry
  exact SeqAt.notIn_list_reads r2 r1 (by have := SeqAt.canLay_of_shaped se; rw [PyData.canLay0] at this; exact this) (SeqAt.canLay_of_shaped sd) (room_in sd hu) ⟨.bl _, H, I, rfl, q⟩
theorem op_inD (hu : X.A.units + 80 < cLine) : OpR X (compareOp .In) (fun y x H Q => ∃ a o, x = .ref a ∧ DGet H a y o ∧ Q (.bl o.isSome) H) := by
  intro pins s σ H y x iv u Q I ry rx h
  obtain ⟨a, o, rfl, g, q⟩ := h
  obtain rfl : u = Value.ref a := rx
  exact d_in (by omega) I g ry fun s3 I3 => ⟨.bl o.isSome, H, I3, rfl, q⟩
theorem op_notInD (hu : X.A.units + 80 < cLine) : OpR X (compareOp .NotIn) (fun y x H Q => ∃ a o, x = .ref a ∧ DGet H a y o ∧ Q (.bl (!o.isSome)) H) := by
  intro pins s σ H y x iv u Q I ry rx h
  obtain ⟨a, o, rfl, g, q⟩ := h
  obtain rfl : u = Value.ref a := rx
  exact d_notIn (by omega) I g ry fun s3 I3 => ⟨.bl (!o.isSome), H, I3, rfl, q⟩
section
variable (Y : Xok K X)
include Y
theorem pu_inn : Pure K T opInn (w2 X (compareOp .In)) := by
  intro ds rv h F H vs Q s t ra q
  have hK := Y.K
  subst hK
  unfold opInn at h
  split at h
  · obtain ⟨v, u, rfl, a, b⟩ := two ra
    obtain ⟨z, h⟩ := b2o_some h
    rw [Bool.and_eq_true] at z
    exact w2_of (op_inL Y.hu) ⟨_, _, a.dp s z.1, b.dp s z.2, flat_sh z.1, flat_sh z.2, okB s q h⟩
  · obtain ⟨v, u, rfl, a, b⟩ := two ra
    obtain ⟨z, h⟩ := b2o_some h
    rw [Bool.and_eq_true] at z
    exact w2_of (op_inT Y.hu) ⟨_, _, a.dp s z.1, b.dp s z.2, flat_sh z.1, flat_sh z.2, okB s q h⟩
  · obtain ⟨v, u, rfl, a, b⟩ := two ra
    obtain ⟨z, h⟩ := b2o_some h
    simp only [Bool.and_eq_true, Bool.not_eq_true'] at z
    obtain ⟨k, rfl⟩ := keyOk_dKey z.1
    obtain ⟨d, kvs, rfl, hd, r⟩ := b.dic z.2 s
    refine w2_of (op_inD Y.hu) ⟨d, valV kvs k, rfl, .inl ⟨kvs, k, hd, a.key, rfl⟩, ?_⟩
    rw [r.isSome k]
    exact okB s q h
  · cases h
theorem pu_nin : Pure K T opNin (w2 X (compareOp .NotIn)) := by
  intro ds rv h F H vs Q s t ra q
  have hK := Y.K
  subst hK
  unfold opNin at h
  split at h
  · obtain ⟨v, u, rfl, a, b⟩ := two ra
    obtain ⟨z, h⟩ := b2o_some h
    rw [Bool.and_eq_true] at z
    exact w2_of (op_notInL Y.hu) ⟨_, _, a.dp s z.1, b.dp s z.2, flat_sh z.1, flat_sh z.2, okB s q h⟩
  · obtain ⟨v, u, rfl, a, b⟩ := two ra
    obtain ⟨z, h⟩ := b2o_some h
    rw [Bool.and_eq_true] at z
    exact w2_of (op_notInT Y.hu) ⟨_, _, a.dp s z.1, b.dp s z.2, flat_sh z.1, flat_sh z.2, okB s q h⟩
  · obtain ⟨v, u, rfl, a, b⟩ := two ra
    obtain ⟨z, h⟩ := b2o_some h
    simp only [Bool.and_eq_true, Bool.not_eq_true'] at z
    obtain ⟨k, rfl⟩ := keyOk_dKey z.1
    obtain ⟨d, kvs, rfl, hd, r⟩ := b.dic z.2 s
    refine w2_of (op_notInD Y.hu) ⟨d, valV kvs k, rfl, .inl ⟨kvs, k, hd, a.key, rfl⟩, ?_⟩
    rw [r.isSome k]
    exact okB s q h
  · cases h

/-! ### len, abs, min, max, int -/
theorem pu_len : Pure K T opLen (wC X (.builtin "len")) := by
  intro ds rv h F H vs Q s t ra q
  have hK := Y.K
  subst hK
  unfold opLen at h
  split at h
  · obtain ⟨v, rfl, a⟩ := one ra
    obtain ⟨l, xs, rfl, hl, rx⟩ := a.lst s
    rw [← rx.length] at h
    exact wC_of call_len_seq ⟨l, xs, rfl, .inl (.inl (.inl hl)), okI s q h⟩
  · obtain ⟨v, rfl, a⟩ := one ra
    obtain ⟨l, xs, rfl, hl, rx⟩ := a.tup s
    rw [← rx.length] at h
    exact wC_of call_len_seq ⟨l, xs, rfl, .inr hl, okI s q h⟩
  · obtain ⟨v, rfl, a⟩ := one ra
    obtain ⟨z, h⟩ := b2o_some h
    exact wC_of call_len_str ⟨_, by rw [a.str], sz z, okI s q h⟩
  · obtain ⟨v, rfl, a⟩ := one ra
    obtain ⟨l, xs, rfl, hl, rx⟩ := a.scr s
    rw [← rx.length] at h
    exact wC_of call_len_seq ⟨l, xs, rfl, .inl hl, okI s q h⟩
  · obtain ⟨v, rfl, a⟩ := one ra
    obtain ⟨z, h⟩ := b2o_some h
    obtain ⟨d, kvs, rfl, hd, r⟩ := a.dic (by simpa using z) s
    rw [← r.length] at h
    intro pins s1 σ us I rv
    rw [Vals.ref1 rv]
    exact d_len I hd fun tk s2 I2 => ⟨.int _, H, I2, ⟨_, rfl⟩, okI s q h⟩
  · cases h
theorem pu_abs : Pure K T opAbs (wC X (.builtin "abs")) := by
  intro ds rv h F H vs Q s t ra q
  unfold opAbs at h
  split at h
  · obtain ⟨v, rfl, a⟩ := one ra
    exact wC_of call_abs ⟨_, by rw [a.int], okI s q h⟩
  · cases h
theorem pu_min2 : Pure K T opMin2 (wC X (.builtin "min")) := by
  intro ds rv h F H vs Q s t ra q
  unfold opMin2 at h
  split at h
  · obtain ⟨v, u, rfl, a, b⟩ := two ra
    exact wC_of (call_min2 Y.calm) ⟨_, _, by rw [a.int, b.int], okI s q h⟩
  · cases h
theorem pu_max2 : Pure K T opMax2 (wC X (.builtin "max")) := by
  intro ds rv h F H vs Q s t ra q
  unfold opMax2 at h
  split at h
  · obtain ⟨v, u, rfl, a, b⟩ := two ra
    exact wC_of (call_max2 Y.calm) ⟨_, _, by rw [a.int, b.int], okI s q h⟩
  · cases h
theorem pu_int : Pure K T opInt (wC X (.type "int")) := by
  intro ds rv h F H vs Q s t ra q
  unfold opInt at h
  split at h
  · obtain ⟨v, rfl, a⟩ := one ra
    exact wC_of call_int1 (.inl ⟨_, by rw [a.int], okI s q h⟩)
  · obtain ⟨v, rfl, a⟩ := one ra
    exact wC_of call_int1 (.inr ⟨_, by rw [a.bl], okI s q h⟩)
  · cases h
theorem pu_list : Pure K T opList (wC X (.type "list")) := by
  intro ds rv h F H vs Q s t ra q
  have hK := Y.K
  subst hK
  unfold opList at h
  split at h
  · obtain ⟨v, rfl, a⟩ := one ra
    obtain ⟨l, xs, rfl, hl, rx⟩ := a.lst s
    exact wC_of call_list_of ⟨l, xs, rfl, .inl (.inl (.inl hl)), okL s q t h rx⟩
  · obtain ⟨v, rfl, a⟩ := one ra
    obtain ⟨l, xs, rfl, hl, rx⟩ := a.tup s
    exact wC_of call_list_of ⟨l, xs, rfl, .inr hl, okL s q t h rx⟩
  · cases h
theorem pu_tuple : Pure K T opTuple (wC X (.type "tuple")) := by
  intro ds rv h F H vs Q s t ra q
  have hK := Y.K
  subst hK
  unfold opTuple at h
  split at h
  · obtain ⟨v, rfl, a⟩ := one ra
    obtain ⟨l, xs, rfl, hl, rx⟩ := a.lst s
    exact wC_of call_tuple_of ⟨l, xs, rfl, .inl ⟨.inl (.inl hl), okT s q h rx⟩⟩
  · obtain ⟨v, rfl, a⟩ := one ra
    have a' := a.tupR
    obtain ⟨l, xs, rfl, hl, rx⟩ := a.tup s
    exact wC_of call_tuple_of ⟨l, xs, rfl, .inr ⟨hl, okS s q h a'⟩⟩
  · cases h
end
theorem intsOf_vals {vs : List V} {ds : List D} (r : RpA K F vs ds) : ∀ {ns : List Int}, intsOf ds = some ns → vs = ns.map V.int := by
  induction ds generalizing vs with
  | nil => intro ns h; cases r; cases h; rfl
  | cons d ds ih =>
    intro ns h
    cases r with
    | cons a r =>
      cases d with
      | int i =>
        cases a
        rw [intsOf, Option.map_eq_some_iff] at h
        obtain ⟨ms, h1, rfl⟩ := h
        rw [ih r h1]; rfl
      | _ => exact absurd h (by simp [intsOf])
section
variable {prog : Program} {w : World} {A : Around} {E : Value → Shared → Prop} {s : Shared} {l : Addr} {its : List Value} {ns : List Int} {Q : Value → Shared → Prop}
/-- sum of a tuple of ints -/
theorem sum_rawT (hh : A.handled = none) (hl : s.heap.IsTuple l its.toArray) (hi : IntsAre its ns)
    (h : ∀ h' tk t', (∀ b o, s.heap.get? b = some o → h'.get? b = some o) → Q (.int ns.sum t') { s with heap := h', toks := tk }) : wpAny (model prog w) A (call (.builtin "sum") [.ref l]) Q E s := by
  obtain ⟨xs, e⟩ := hi.allInts.items
  have hn : numsOf (intItems xs).toList = ns := by rw [← e]; exact hi.numsOf
  rw [nums_intItems] at hn
  rw [e] at hl
  have hlt : l < s.heap.objs.size := by obtain ⟨_, e1, _⟩ := hl; exact Heap.lt_size e1
  refine PySem.call_sum_walkG (wpAny_pyIter_tuple hl ⟨s.heap.objs.size, _, _, _, _, _, numAt xs, rfl, Walks.tuple (A := A.in1) hh _ l (Nat.ne_of_lt hlt) (intItems xs), ⟨⟨_, Heap.get?_push_size _ rfl, rfl, rfl⟩, hl.push _⟩, ?_, (fun _ _ => intItems_at), fun h' tk t' hk => ?_⟩)
  · intro b hb
    show b < (s.heap.push _).objs.size
    rw [Heap.size_push]
    rcases List.mem_cons.mp hb with rfl | hb
    · exact Nat.lt_succ_self _
    · rcases List.mem_cons.mp hb with rfl | hb
      · exact Nat.lt_succ_of_lt hlt
      · cases hb
  · have := h h' tk t' (fun b o e1 => hk b o (fun hm => absurd (Heap.lt_size e1) ((List.mem_singleton.mp hm) ▸ Nat.lt_irrefl _)) (Heap.get?_push_of_some _ e1))
    have e2 : preSum (numAt xs) (intItems xs).size = ns.sum := by
      rw [show (intItems xs).size = xs.size by simp [intItems], preSum_eq, List.take_of_length_le (by simp), hn]
    rw [e2]
    exact this
end
theorem cr_sumT {X : Cx} (hc : X.calm = true) : CallR X (.builtin "sum") (fun vs H Q => ∃ (a : Addr) (ns : List Int), vs = [V.ref a] ∧ SqT X.K H a (ns.map V.int) ∧ Q (.int ns.sum) H) := by
  intro pins s σ H vs us Q I r h
  obtain ⟨a, ns, rfl, hs, q⟩ := h
  obtain ⟨its, rv, hl, _⟩ := I.tuple hs
  rw [Vals.ref1 r]
  exact sum_rawT (I.ok.hd hc) hl rv.ints fun h' tk t' hk => ⟨.int _, H, I.kept hk, ⟨_, rfl⟩, q⟩
section
variable (Y : Xok K X)
include Y
theorem pu_sum : Pure K T opSum (wC X (.builtin "sum")) := by
  intro ds rv h F H vs Q s t ra q
  have hK := Y.K
  subst hK
  unfold opSum at h
  split at h
  · obtain ⟨v, rfl, a⟩ := one ra
    obtain ⟨l, xs, rfl, hl, rx⟩ := a.lst s
    rw [Option.bind_eq_some_iff] at h
    obtain ⟨ns, h1, h⟩ := h
    have := intsOf_vals rx h1
    subst this
    exact wC_of (cr_sum Y.calm) ⟨l, ns, rfl, .inl (.inl hl), okI s q h⟩
  · obtain ⟨v, rfl, a⟩ := one ra
    obtain ⟨l, xs, rfl, hl, rx⟩ := a.tup s
    rw [Option.bind_eq_some_iff] at h
    obtain ⟨ns, h1, h⟩ := h
    have := intsOf_vals rx h1
    subst this
    exact wC_of (cr_sumT Y.calm) ⟨l, ns, rfl, hl, okI s q h⟩
  · cases h
theorem max_of {ns : List Int} {m i : Int} (h : ns.max? = some i) (h1 : m ∈ ns) (h2 : ∀ y, y ∈ ns → y ≤ m) : m = i := by
  have := List.max?_eq_some_iff.mp h
  have a := this.2 m h1
  have b := h2 i this.1
  omega
theorem min_of {ns : List Int} {m i : Int} (h : ns.min? = some i) (h1 : m ∈ ns) (h2 : ∀ y, y ∈ ns → m ≤ y) : m = i := by
  have := List.min?_eq_some_iff.mp h
  have a := this.2 m h1
  have b := h2 i this.1
  omega
theorem pu_maxl : Pure K T opMaxl (wC X (.builtin "max")) := by
  intro ds rv h F H vs Q s t ra q
  have hK := Y.K
  subst hK
  unfold opMaxl at h
  split at h
  · obtain ⟨v, rfl, a⟩ := one ra
    obtain ⟨l, xs, rfl, hl, rx⟩ := a.lst s
    rw [Option.bind_eq_some_iff] at h
    obtain ⟨ns, h1, h⟩ := h
    rw [Option.bind_eq_some_iff] at h
    obtain ⟨i, h2, h⟩ := h
    have := intsOf_vals rx h1
    subst this
    refine wC_of (cr_max Y.calm) ⟨l, ns, rfl, .inl (.inl hl), ?_, fun m m1 m2 => ?_⟩
    · cases ns with
      | nil => cases h2
      | cons => exact Nat.succ_pos _
    · rw [max_of Y h2 m1 m2]; exact okI s q h
  · cases h
theorem pu_minl : Pure K T opMinl (wC X (.builtin "min")) := by
  intro ds rv h F H vs Q s t ra q
  have hK := Y.K
  subst hK
  unfold opMinl at h
  split at h
  · obtain ⟨v, rfl, a⟩ := one ra
    obtain ⟨l, xs, rfl, hl, rx⟩ := a.lst s
    rw [Option.bind_eq_some_iff] at h
    obtain ⟨ns, h1, h⟩ := h
    rw [Option.bind_eq_some_iff] at h
    obtain ⟨i, h2, h⟩ := h
    have := intsOf_vals rx h1
    subst this
    refine wC_of (cr_min Y.calm) ⟨l, ns, rfl, .inl (.inl hl), ?_, fun m m1 m2 => ?_⟩
    · cases ns with
      | nil => cases h2
      | cons => exact Nat.succ_pos _
    · rw [min_of Y h2 m1 m2]; exact okI s q h
  · cases h
end
end Ev
end
section
set_option Elab.async false
set_option linter.all false
set_option maxRecDepth 100000
/-! The operations, further: items, isinstance, sorted. -/
namespace Ev
open PySem PySem.Spec PyProof.Rows L2
variable {K : PySem.W.Frag} {F F' F1 F2 H H' H1 H2 : Hp} {T : List Addr} {X : Cx}
/-! ### items -/
def wIx (X : Cx) : List V → Hp → VK → Prop := fun vs H Q => ∃ x y, vs = [x, y] ∧ ∀ (value slice : Expr) (pins : List (Addr × Obj)) (s : Shared) (σ : Sg) (v u : Value), Inv X pins σ H s → RelV x v → RelV y u →
    subscripted slice false v u = operate [v, u] (getItem v u) → wpAny (model X.prog X.w) X.A (subscriptTail value slice v u) (EP X pins σ Q) X.xe s
theorem ix_w : IxR X (fun x y => wIx X [x, y]) := fun value slice pins s σ H x y v u Q I rx ry h hs => by
  obtain ⟨_, _, e, h⟩ := h
  cases e
  exact h value slice pins s σ v u I rx ry hs
theorem wIx_of {r : R2} {x y : V} {Q : VK} (h : IxR X r) (q : r x y H Q) : wIx X [x, y] H Q := ⟨x, y, rfl, fun value slice pins s σ v u I rx ry hs => h value slice pins s σ H x y v u Q I rx ry q hs⟩
theorem ix_dict (hu : X.A.units + 80 < cLine) : IxR X (fun x y H Q => ∃ a v, x = .ref a ∧ DGet H a y (some v) ∧ Q v H) := by
  intro value slice pins s σ H x y o i Q I rx ry h hs
  obtain ⟨a, v, rfl, g, q⟩ := h
  obtain rfl : o = Value.ref a := rx
  have hT := dict_typeIs I g
  unfold subscriptTail
  refine wpAny_bind ?_
  rw [getitemInPython_of_ne hT.not_modules]
  refine wpAny_bind (wpAny_specialOf hT PySem.F.slot_dict_getitem.lookup ?_)
  have fin : wpAny (model X.prog X.w) X.A (subscripted slice false (.ref a) i) (fun r s₃ => wpAny (model X.prog X.w) X.A (letTemporaryGo value (.ref a) r >>= fun _ => pure r) (EP X pins σ Q) X.xe s₃) X.xe s := by
    rw [hs]
    exact wpAny_operating (d_getItem (by omega) I g ry fun w' s3 I3 rw' => wpAny_bind (wpAny_letTemporaryGo (wpAny_pure ⟨v, H, I3, rw', q⟩)))
  first
    | exact wpAny_pure (wpAny_bind fin)
    | exact wpAny_bind (wpAny_pure (wpAny_bind fin))
    | exact wpAny_bind fin
theorem place_ix (n : Nat) (i : Int) : place n i = ixN n i := rfl
theorem item_at {xs : List V} {ds : List D} (r : RpA K F xs ds) {i : Int} {d : D} (h : item ds i = some d) : ∃ v, atI xs i = some v ∧ Rp K F v d := by
  unfold item at h
  rw [Option.bind_eq_some_iff] at h
  obtain ⟨j, h1, h2⟩ := h
  obtain ⟨v, e, q⟩ := r.get h2
  refine ⟨v, ?_, q⟩
  unfold atI
  rw [r.length, ← place_ix, h1]
  exact e
section
variable (Y : Xok K X)
include Y
theorem pu_idx : Pure K T opIdx (wIx X) := by
  intro ds rv h F H vs Q s t ra q
  have hK := Y.K
  subst hK
  unfold opIdx at h
  split at h
  · obtain ⟨v, u, rfl, a, b⟩ := two ra
    obtain ⟨l, xs, rfl, hl, rx⟩ := a.lst s
    rw [Option.map_eq_some_iff] at h
    obtain ⟨d, h1, h⟩ := h
    obtain ⟨v, e, r⟩ := item_at rx h1
    exact wIx_of ix_list ⟨l, xs, _, v, rfl, b.int, .inl (.inl hl), e, okS s q (congrArg some h) r⟩
  · obtain ⟨v, u, rfl, a, b⟩ := two ra
    obtain ⟨l, xs, rfl, hl, rx⟩ := a.tup s
    rw [Option.map_eq_some_iff] at h
    obtain ⟨d, h1, h⟩ := h
    obtain ⟨v, e, r⟩ := item_at rx h1
    exact wIx_of ix_tup ⟨l, xs, _, v, rfl, b.int, hl, e, okS s q (congrArg some h) r⟩
  · obtain ⟨v, u, rfl, a, b⟩ := two ra
    obtain ⟨l, xs, rfl, hl, rx⟩ := a.scr s
    rw [Option.map_eq_some_iff] at h
    obtain ⟨d, h1, h⟩ := h
    obtain ⟨v, e, r⟩ := item_at rx h1
    exact wIx_of ix_list ⟨l, xs, _, v, rfl, b.int, hl, e, okS s q (congrArg some h) r⟩
  · obtain ⟨v, u, rfl, a, b⟩ := two ra
    obtain ⟨z, h⟩ := b2o_some h
    simp only [Bool.and_eq_true, Bool.not_eq_true'] at z
    obtain ⟨k, rfl⟩ := keyOk_dKey z.1
    obtain ⟨d, kvs, rfl, hd, r⟩ := a.dic z.2 s
    rw [Option.map_eq_some_iff] at h
    obtain ⟨d', h1, h⟩ := h
    obtain ⟨v, e, rv'⟩ := (r.lk k).1 d' h1
    exact wIx_of (ix_dict Y.hu) ⟨d, v, rfl, .inl ⟨kvs, k, hd, b.key, e.symm⟩, okS s q (congrArg some h) rv'⟩
  · cases h

/-! ### isinstance -/
def tyS : Ty → String
  | .int => "int" | .bool => "bool" | .str => "str" | .tuple => "tuple" | .list => "list" | .dict => "dict"
def ofD : D → String
  | .none => "NoneType" | .bool _ => "bool" | .int _ => "int" | .str _ => "str" | .list _ => "list" | .tuple _ => "tuple" | .dict _ => "dict"
theorem kit_all (t : Ty) (d : D) : kitB (ofD d) (tyS t) = some (isTy t d) := by
  cases t <;> cases d <;> first | rfl | (simp only [ofD, tyS, isTy]; decide +kernel)
theorem Rq_ty {v : V} {d : D} (h : Rq K F H v d) (s : Same F H) (n : ∀ xs, d ≠ .dict xs) : TyX K H v (.type (ofD d)) := by
  rcases h with h | ⟨a, rfl, q⟩
  · cases h with
    | non => exact .base .non
    | bl => exact .base (.bl _)
    | int => exact .base (.int _)
    | str => exact .base (.str _)
    | lst e r => exact .base (.lst (s _ _ e))
    | scr e r => exact absurd rfl (n _)
    | tup e r =>
      rcases e with e | ⟨o, its, n, e, c, _⟩
      · exact .base (.tup (s _ _ e))
      · exact .kTuple e c
    | dic e r => exact absurd rfl (n _)
  · cases d <;> first | exact q.elim | skip
    · obtain ⟨xs, e, r⟩ := q; exact .base (.lst e)
    · exact absurd rfl (n _)
theorem pu_isi (ty : Ty) : ∀ ds rv, opIsi ty ds = some rv → ∀ F H v Q, Same F H → RqA K F H [v] ds → (∀ F' H' v, Ext F H F' H' → RvOk K T F' H' H v rv → Q v H') → wC X (.builtin "isinstance") [v, .ty (tyS ty)] H Q := by
  intro ds rv h F H v Q s ra q
  have hK := Y.K
  subst hK
  unfold opIsi at h
  split at h
  · cases h
  · obtain ⟨_, e, a⟩ := one ra
    cases e
    rename_i n
    exact wC_of call_isi ⟨v, .ty (tyS ty), _, _, _, rfl, .ty _, Rq_ty Y a s n, kit_ty (kit_all Y ty _), okB s q h⟩
  · cases h

/-! ### get -/
theorem pu_get1 {ds : List D} {rv : RV} {a : Addr} {y : V} {Q : VK} (h : opGet1 ds = some rv) (s : Same F H) (ra : RqA K F H [.ref a, y] ds) (q : ∀ F' H' v, Ext F H F' H' → RvOk K T F' H' H v rv → Q v H') :
    ∃ o, DGet H a y o ∧ Q (o.getD .non) H := by
  unfold opGet1 at h
  split at h
  · obtain ⟨v, u, e, a', b⟩ := two ra
    cases e
    obtain ⟨z, h⟩ := b2o_some h
    simp only [Bool.and_eq_true, Bool.not_eq_true'] at z
    obtain ⟨k, rfl⟩ := keyOk_dKey z.1
    obtain ⟨d, kvs, e, hd, r⟩ := a'.dic z.2 s
    cases e
    refine ⟨valV kvs k, .inl ⟨kvs, k, hd, b.key, rfl⟩, ?_⟩
    rename_i kvs' _
    cases hl : look kvs' (keyD k) with
    | none =>
      rw [(r.lk k).2 hl]
      rw [hl] at h
      exact okS s q h .non
    | some d' =>
      obtain ⟨v, e, rv'⟩ := (r.lk k).1 d' hl
      rw [e]
      rw [hl] at h
      exact okS s q h rv'
  · cases h
theorem pu_get2 {ds : List D} {rv : RV} {a : Addr} {y x : V} {Q : VK} (h : opGet2 ds = some rv) (s : Same F H) (ra : RqA K F H [.ref a, y, x] ds) (hx : ∀ d, Rq K F H x d → Rp K F x d) (q : ∀ F' H' v, Ext F H F' H' → RvOk K T F' H' H v rv → Q v H') :
    ∃ o, DGet H a y o ∧ Q (o.getD x) H := by
  unfold opGet2 at h
  split at h
  · obtain ⟨v, u, w, e, a', b, c⟩ := three ra
    cases e
    obtain ⟨z, h⟩ := b2o_some h
    simp only [Bool.and_eq_true, Bool.not_eq_true'] at z
    obtain ⟨k, rfl⟩ := keyOk_dKey z.1
    obtain ⟨d, kvs, e, hd, r⟩ := a'.dic z.2 s
    cases e
    refine ⟨valV kvs k, .inl ⟨kvs, k, hd, b.key, rfl⟩, ?_⟩
    rename_i kvs' _ _
    cases hl : look kvs' (keyD k) with
    | none =>
      rw [(r.lk k).2 hl]
      rw [hl] at h
      exact okS s q h (hx _ c)
    | some d' =>
      obtain ⟨v, e, rv'⟩ := (r.lk k).1 d' hl
      rw [e]
      rw [hl] at h
      exact okS s q h rv'
  · cases h
end
/-! ### sorted -/
theorem Rp.reads {pins : List (Addr × Obj)} {σ : Sg} {s : Shared} (I : Inv X pins σ H s) (sm : Same F H) {v : V} {u : Value} {d : D} (h : Rp X.K F v d) (c : PySem.W.alike d d = true) (r : RelV v u) : ∃ as, Reads s.heap u d as := Dp.reads I d v u (h.dpA sm c) r
theorem each_rel {K : PySem.W.Frag} : ∀ {xs : List V} {ds : List D} {its : List Value}, RpA K F xs ds → Vals xs its → PySem.W.EachIs (fun (u : Value) (p : V × D) => RelV p.1 u ∧ Rp K F p.1 p.2) its (xs.zip ds)
  | _, _, _, .nil, .nil => .nil
  | _, _, _, .cons h r, .cons q t => .cons ⟨q, h⟩ (each_rel r t)
theorem each_back {K : PySem.W.Frag} : ∀ {out : List Value} {ps : List (V × D)}, PySem.W.EachIs (fun (u : Value) (p : V × D) => RelV p.1 u ∧ Rp K F p.1 p.2) out ps → Vals (ps.map (·.1)) out ∧ RpA K F (ps.map (·.1)) (ps.map (·.2))
  | _, _, .nil => ⟨.nil, .nil⟩
  | _, _, .cons ⟨q, h⟩ t => let ⟨a, b⟩ := each_back t; ⟨.cons q a, .cons h b⟩
theorem zip_snd : ∀ {xs : List V} {ds : List D}, xs.length = ds.length → (xs.zip ds).map (·.2) = ds
  | [], [], _ => rfl
  | x :: xs, d :: ds, h => by rw [List.zip_cons_cons, List.map_cons, zip_snd (by simpa using h)]
theorem sortable_of {ds : List D} (h : sortable ds = true) : ds.length ≤ sizeLine ∧ (∀ d ∈ ds, d.depth ≤ 64) ∧ PySem.W.AllAlike ds ∧ PySem.W.Sortable ds := by
  unfold sortable at h
  simp only [Bool.and_eq_true, Bool.or_eq_true] at h
  obtain ⟨⟨⟨h1, h2⟩, h3⟩, h4⟩ := h
  refine ⟨sz h1, fun d hd => of_decide_eq_true (List.all_eq_true.mp h2 d hd), fun d hd d' hd' => List.all_eq_true.mp (List.all_eq_true.mp h3 d hd) d' hd', ?_⟩
  rcases h4 with h4 | h4
  · refine .inl fun d hd => ?_
    have := List.all_eq_true.mp h4 d hd
    split at this
    · exact ⟨_, _, rfl⟩
    · cases this
  · refine .inr fun d hd => ?_
    have := List.all_eq_true.mp h4 d hd
    split at this <;> first | cases this | skip
    rename_i n1 n2
    exact ⟨n2, n1⟩
theorem each_mono {α β : Type} {R R' : α → β → Prop} : ∀ {l : List α} {m : List β}, PySem.W.EachIs R l m → (∀ a b, b ∈ m → R a b → R' a b) → PySem.W.EachIs R' l m
  | _, _, .nil, _ => .nil
  | _, _, .cons h t, f => .cons (f _ _ List.mem_cons_self h) (each_mono t fun a b hb => f a b (List.mem_cons_of_mem _ hb))
section
variable (Y : Xok K X)
include Y
theorem pu_sorted : Pure K T opSorted (wC X (.builtin "sorted")) := by
  intro ds rv h F H vs Q s t ra q
  have hK := Y.K
  subst hK
  unfold opSorted at h
  split at h
  · obtain ⟨v, rfl, a⟩ := one ra
    rename_i es
    obtain ⟨l, xs, rfl, hl, rx⟩ := a.lst s
    obtain ⟨z, h⟩ := b2o_some h
    obtain ⟨z1, z2, z3, z4⟩ := sortable_of z
    intro pins s1 σ us I rv'
    rw [Vals.ref1 rv']
    obtain ⟨its, rI, hP, _⟩ := I.list (.inl (.inl hl))
    have hlen := rx.length
    have e0 := each_rel rx rI
    have eb : (xs.zip es).map (·.2) = es := zip_snd hlen
    have hu := Y.hu
    refine PySem.W.sorted_data (R := fun (u : Value) (p : V × D) => RelV p.1 u ∧ Rp X.K F p.1 p.2) (enc := fun p : V × D => p.2) (bs := xs.zip es) hP.isList e0 ?_ (by rw [eb]; exact z3) (by rw [eb]; exact z4) ?_ ?_ ?_
    · refine each_mono e0 fun u p hp hr => ?_
      have hm : p.2 ∈ es := by rw [← eb]; exact List.mem_map_of_mem hp
      exact Rp.reads I s hr.2 (z3 _ hm _ hm) hr.1
    · rw [List.length_zip, hlen, Nat.min_self]; exact z1
    · intro p hp
      have hm : p.2 ∈ es := by rw [← eb]; exact List.mem_map_of_mem hp
      have := z2 _ hm
      omega
    · intro out ho eo
      obtain ⟨r1, r2⟩ := each_back eo
      have em : ((xs.zip es).mergeSort (PySem.W.dataLe false fun p : V × D => p.2)).map (·.2) = es.mergeSort (PySem.W.dataLe false id) := by
        rw [PySem.W.sort_maps (r := PySem.W.dataLe false fun p : V × D => p.2) (s := PySem.W.dataLe false id) (fun p : V × D => p.2) (fun _ _ _ _ => rfl), eb]
      rw [em] at r2
      obtain ⟨ep, he'⟩ := PyProof.Rows.sortedAll_at s1.heap its out.toArray
      have hz : (((xs.zip es).mergeSort (PySem.W.dataLe false fun p : V × D => p.2)).map (·.1)).length ≤ sizeLine := by
        rw [r2.length, List.length_mergeSort]; exact z1
      exact ⟨.ref _, upd H (s1.heap.objs.size + 1) (.lst _), I.laid (t' := s1.toks) (fun _ _ => PyProof.Rows.sortedAll_old) (Nat.le_succ _) ⟨hz, out, ep, r1, he'⟩, rfl, okL s q t h r2 _ (I.hok.fresh (Nat.le_succ _))⟩
  · cases h
end
end Ev
end
section
set_option Elab.async false
set_option linter.all false
set_option maxRecDepth 100000
/-! list(reversed(list)), at the library's level. -/
namespace Ev
open PySem PySem.Spec PyProof.Rows L2
section
variable {prog : Program} {w : World} {A : Around} {E : Value → Shared → Prop} {s : Shared}
theorem extend_rev {R : Result → Shared → Prop} {it l : Addr} {items : Array Value} (hh : A.handled = none) (hit : s.heap.IsRevIter it l ((items.size : Int) - 1)) (hl : s.heap.IsList l items) (hne : l ≠ it) (hn : items.size ≤ sizeLine)
    (S : Addr) (hSi : S ≠ it) (hSl : S ≠ l) (res : Value) (c₀ : Nat) (hS : s.heap.get? S = some { cls := .type "list", data := .seq #[] c₀ })
    (hR : ∀ h' tk acc' c', (∀ b o, b ≠ S → b ≠ it → s.heap.get? b = some o → h'.get? b = some o) → h'.get? S = some { cls := .type "list", dict := none, data := .seq acc' c', slots := #[] } →
      ItemsOf (fun i v => items[items.size - 1 - i]? = some v) acc' items.size → R (.ok (.ret res)) { s with heap := h', toks := tk }) :
    wpAny (model prog w) A.in1 (Builtin.List.listExtendWith (.ref S) (.ref it) res)
      (fun fin s' => match fin with | .done f => R (.ok f) s' | .again c' => c'.quiet = true ∧ codeAny (model prog w) A c' R s') (fun e s' => R (.error e) s') s := by
  have W := (Walks.listRev (prog := prog) (w := w) (A := A.in1) hh it l hne items).toS
  have hSf : S ∉ [it, l] := by simp only [List.mem_cons, List.not_mem_nil, or_false, not_or]; exact ⟨hSi, hSl⟩
  have hT : s.TypeIs (.ref it) "list_reverseiterator" := Heap.IsRevIter.typeIs hit
  have h1 : Builtin.List.listSameRef (.ref S) (.ref it) = false := by simp [Builtin.List.listSameRef, hSi]
  unfold Builtin.List.listExtendWith
  refine wpAny_bind (wpAny_typeOf hT ?_)
  rw [if_neg (by rw [h1]; decide)]
  refine wpAny_bind (wpAny_pyIter_revIter hit ?_)
  refine wpAny_bind (wpAny_holding ?_)
  unfold Builtin.List.listLengthHint
  refine wpAny_bind (wpAny_specialOf hT RT.nolen_lri ?_)
  show wpAny _ A.in1 (specialOf (Value.ref it) (Str.ofString "__length_hint__") >>= _) _ _ _
  refine wpAny_bind (wpAny_specialOf hT RT.hint_lri ?_)
  generalize hid : ("list_reverseiterator.__length_hint__" : String) = id0
  wp_delta
  rw [show splitId id0 = some ("list_reverseiterator", "__length_hint__") from by subst hid; decide +kernel]
  subst hid
  refine wpAny_bind (wpAny_isInstance (b := true) hT (by rw [isSubtype_type]; kernel_rfl) ?_)
  refine wpAny_pure ?_
  rw [if_neg (by decide)]
  have e0 : ((items.size : Nat) : Int) - 1 - ((0 : Nat) : Int) = (items.size : Int) - 1 := by omega
  refine wpAny_pure ⟨plainId_quiet PySem.F.plain_extend_loop _, codeAny_extend_loopS W hn S hSf res items.size 0 _ #[] c₀ rfl (Nat.zero_le _) ⟨Nat.zero_le _, by rw [e0]; exact hit, hl⟩ hS (ItemsOf.nil _) fun s' acc' c' hm hS' hacc => ?_⟩
  rw [Moved.eq_with hm]
  refine hR s'.heap s'.toks acc' c' (fun b o hb hi e => hm.heap b o (fun hmem => ?_) e) hS' hacc
  rcases List.mem_cons.mp hmem with e' | hmem
  · exact hb e'
  · exact hi (List.mem_singleton.mp hmem)
theorem init_rev {R : Result → Shared → Prop} {it l : Addr} {items : Array Value} (hh : A.handled = none) (hit : s.heap.IsRevIter it l ((items.size : Int) - 1)) (hl : s.heap.IsList l items) (hne : l ≠ it) (hn : items.size ≤ sizeLine)
    (S : Addr) (hSi : S ≠ it) (hSl : S ≠ l) (hS : s.heap.get? S = some { cls := .type "list", data := .seq #[] })
    (hR : ∀ h' tk acc' c', (∀ b o, b ≠ S → b ≠ it → s.heap.get? b = some o → h'.get? b = some o) → h'.get? S = some { cls := .type "list", dict := none, data := .seq acc' c', slots := #[] } →
      ItemsOf (fun i v => items[items.size - 1 - i]? = some v) acc' items.size → R (.ok (.ret .none)) { s with heap := h', toks := tk }) :
    wpAny (model prog w) A.in1 (Builtin.«list.__init__» ⟨[.ref S, .ref it], []⟩)
      (fun fin s' => match fin with | .done f => R (.ok f) s' | .again c' => c'.quiet = true ∧ codeAny (model prog w) A c' R s') (fun e s' => R (.error e) s') s := by
  show wpAny _ _ (do let old ← Builtin.List.listItems (.ref S); Builtin.List.listUpdate (.ref S) (fun _ => #[]); letGo old.toList.reverse; Builtin.List.listExtendWith (.ref S) (.ref it) .none) _ _ s
  refine wpAny_bind ?_
  unfold Builtin.List.listItems
  refine wpAny_bind (wpAny_seqItems hS rfl (wpAny_pure ?_))
  show wpAny _ _ (updateSeq S (fun _ => #[]) >>= fun _ => letGo (#[] : Array Value).toList.reverse >>= fun _ => Builtin.List.listExtendWith (.ref S) (.ref it) .none) _ _ s
  refine wpAny_bind (wpAny_updateSeq hS rfl ?_)
  have hS₂ := Heap.get?_update_self (Obj.mapSeq (fun _ => (#[] : Array Value))) hS rfl
  have oth : ∀ b o, b ≠ S → s.heap.get? b = some o → (s.heap.update S (Obj.mapSeq (fun _ => (#[] : Array Value)))).get? b = some o :=
    fun b o hb e => (Heap.get?_update_other _ _ (Ne.symm hb)).trans e
  refine wpAny_bind (wpAny_letGo ?_)
  refine extend_rev (s := { s with heap := s.heap.update S (Obj.mapSeq (fun _ => (#[] : Array Value))) }) hh (hit.at fun o e => oth it o hSi.symm e) ?_ hne hn S hSi hSl .none _ hS₂ (fun h' tk acc' c' hk hS' hacc => ?_)
  · obtain ⟨o, h1, h2⟩ := hl
    exact ⟨o, oth l o hSl.symm h1, h2⟩
  · exact hR h' tk acc' c' (fun b o hb hi e => hk b o hb hi (oth b o hb e)) hS' hacc
theorem call_list_rev {Q : Value → Shared → Prop} {it l : Addr} {items : Array Value} (hh : A.handled = none) (hit : s.heap.IsRevIter it l ((items.size : Int) - 1)) (hl : s.heap.IsList l items) (hne : l ≠ it) (hn : items.size ≤ sizeLine)
    (hQ : ∀ h' tk acc' c', (∀ b o, b ≠ it → s.heap.get? b = some o → h'.get? b = some o) → h'.get? s.heap.objs.size = some { cls := .type "list", dict := none, data := .seq acc' c', slots := #[] } →
      ItemsOf (fun i v => items[items.size - 1 - i]? = some v) acc' items.size → Q (.ref s.heap.objs.size) { s with heap := h', toks := tk }) :
    wpAny (model prog w) A (call (.type "list") [.ref it]) Q E s := by
  refine callType_codes (Q₁ := fun obj s₁ => obj = .ref s.heap.objs.size ∧ s₁ = { s with heap := s.heap.push { cls := .type "list", data := .seq #[] } }) PySem.F.called_list (PySem.F.typeCall_list_1 _) PySem.F.entry_list_init
    (code_list_new _ ⟨rfl, rfl⟩) fun obj s₁ h₁ => ?_
  obtain ⟨rfl, rfl⟩ := h₁
  have hS : (s.heap.push { cls := .type "list", data := .seq #[] }).get? s.heap.objs.size = some { cls := .type "list", data := .seq #[] } := Heap.get?_push_size _ rfl
  obtain ⟨oi, hoi, _⟩ := id hit
  obtain ⟨ol, hol, _⟩ := id hl
  have hSi : s.heap.objs.size ≠ it := Nat.ne_of_gt (Heap.lt_size hoi)
  have hSl : s.heap.objs.size ≠ l := Nat.ne_of_gt (Heap.lt_size hol)
  refine ⟨⟨_, hS, rfl⟩, PySem.F.args_list_init_2 _ _, init_rev (A := A.in1) (s := { s with heap := s.heap.push { cls := .type "list", data := .seq #[] } }) hh (hit.at fun o e => Heap.get?_push_of_some _ e) (hl.push _) hne hn _ hSi hSl hS (fun h' tk acc' c' hk hS' hacc => ?_)⟩
  exact ⟨rfl, hQ h' tk acc' c' (fun b o hb e => hk b o (Nat.ne_of_lt (Heap.lt_size e)) hb (Heap.get?_push_of_some _ e)) hS' hacc⟩
end
section
variable {X : Cx}
def tLstRev (K : PySem.W.Frag) (te : TE) : TE := fun σ H Q => te σ H fun v H1 => ∃ (a : Addr) (xs : List V), v = .ref a ∧ SqL K H1 a xs ∧ ∀ q, H1 q = none → Q (.ref q) (upd H1 q (.lst xs.reverse))
theorem pe_lstRev {e : Expr} {te : TE} {p p2 pos pos2 : Pos} (hc : X.calm = true) (hg : Gl X "list") (hm : X.mg "list" = none) (hg2 : Gl X "reversed") (hm2 : X.mg "reversed" = none) (he : PE X e te)
    (hs : starEach [e] X.env = (false, eval e X.env) :: starEach [] X.env)
    (hs2 : starEach [.Call (.Name "reversed" p2) [e] [] pos2] X.env = (false, eval (.Call (.Name "reversed" p2) [e] [] pos2) X.env) :: starEach [] X.env := by rfl) :
    PE X (.Call (.Name "list" p) [.Call (.Name "reversed" p2) [e] [] pos2] [] pos) (tLstRev X.K te) := by
  refine ⟨fun pins s σ H Q I h => ?_⟩
  refine Call_ (ld_blt I hg hm boot_list (PyProof.Rows.callWith_type1 (args_cons (Call_ (ld_blt I hg2 hm2 PyProof.Rows.boot_reversed (PyProof.Rows.callWith_type1 (args_cons (thn (he.run pins s σ H _ I h) fun u s1 ⟨v, H1, I1, r1, q1⟩ => args_nil ?_) hs) hs rfl))) hs2) hs2 rfl))
  obtain ⟨a, xs, ev, hq, q⟩ := q1
  subst ev
  obtain rfl : u = Value.ref a := r1
  obtain ⟨its, rv, p', hz⟩ := I1.list hq
  refine call_reversed_list p'.isList (args_nil ?_)
  have k0 : ∀ b o, s1.heap.get? b = some o → (s1.heap.push (revObj a ((its.toArray.size : Int) - 1))).get? b = some o := fun b o e => Heap.get?_push_of_some _ e
  have I2 : Inv X pins σ H1 { s1 with heap := s1.heap.push (revObj a ((its.toArray.size : Int) - 1)) } := I1.kept (t' := s1.toks) k0
  obtain ⟨f0, f1, f2, f3, f4, f5⟩ := I1.fpOk (H' := H1) (b := s1.heap.objs.size) (Nat.le_refl _) (I1.hok.fresh (Nat.le_refl _))
  have hl := p'.isList
  obtain ⟨ol, hol, _⟩ := id hl
  have hne : a ≠ s1.heap.objs.size := Nat.ne_of_lt (Heap.lt_size hol)
  have hn : its.toArray.size ≤ sizeLine := by rw [List.size_toArray, ← rv.length]; exact hz
  refine call_list_rev (s := { s1 with heap := s1.heap.push (revObj a ((its.toArray.size : Int) - 1)) }) (I1.ok.hd hc) ⟨_, Heap.get?_push_size _ rfl, rfl, rfl⟩ (hl.push _) hne hn fun h' tk acc c' hk hS' hi => ?_
  have hfr := I2.hok.fresh (a := (s1.heap.push (revObj a ((its.toArray.size : Int) - 1))).objs.size) (Nat.le_refl _)
  refine ⟨.ref _, upd H1 (s1.heap.push (revObj a ((its.toArray.size : Int) - 1))).objs.size (.lst xs.reverse), I2.turnedNew (t' := tk) (ch := [s1.heap.objs.size]) (T := (s1.heap.push (revObj a ((its.toArray.size : Int) - 1))).objs.size) (fun b o hb e => hk b o (fun z => hb (by rw [z]; exact List.mem_singleton.mpr rfl)) e) (fun b hb => by
      rw [List.mem_singleton.mp hb]; exact ⟨f0, f1, f2, f3, f4, f5⟩) (Nat.le_refl _) ⟨by rw [List.length_reverse]; exact hz, acc.toList, c', RT.vals_rev rv hi, ?_⟩, rfl, q _ hfr⟩
  rw [Array.toArray_toList]; exact hS'
end
end Ev
end
section
set_option Elab.async false
set_option linter.all false
set_option maxRecDepth 100000
/-! Slots: what a change of one of them means. -/
namespace Ev
open PySem PySem.Spec PyProof.Rows L2
variable {K : PySem.W.Frag} {F F' F1 F2 H H' H1 H2 : Hp} {T : List Addr} {σ σ' : Sg} {ρ ρ' ρ1 ρ2 : Sl}
theorem getS_set {i j : Nat} {p : PV} : getS (ρ.set i p) j = if i = j ∧ i < ρ.length then p else getS ρ j := by
  unfold getS
  rw [List.getElem?_set]
  by_cases e : i = j
  · subst e
    by_cases l : i < ρ.length
    · simp [l]
    · simp [l]
  · simp [e]
theorem getS_lt {i : Nat} (h : getS ρ i ≠ .non) : i < ρ.length := by
  by_cases l : i < ρ.length
  · exact l
  · exact absurd (by unfold getS; rw [List.getElem?_eq_none (by omega)]; rfl) h
theorem getS_self {i : Nat} {p : PV} (l : i < ρ.length) : getS (ρ.set i p) i = p := by rw [getS_set, if_pos ⟨rfl, l⟩]
theorem getS_ne {i j : Nat} {p : PV} (h : i ≠ j) : getS (ρ.set i p) j = getS ρ j := by rw [getS_set, if_neg (fun z => h z.1)]
theorem SEnv.at {i : Nat} {io lk : Bool} {d : D} (e : SEnv K T F H ρ σ) (h : getS ρ i = .hld io lk d) : ∃ a, stV σ i = some (.ref a) ∧ F a = none ∧ a ∉ T ∧ Holds K F H a d ∧ OA ρ σ i a := by
  have s := e.slot i
  rw [h] at s
  obtain ⟨a, e1, f, t, q⟩ := s
  exact ⟨a, e1, f, t, q, ⟨io, lk, d, h⟩, e1⟩
/-- the slot's list or dict is shared from now on -/
theorem Go.freeze {i : Nat} {d : D} (e : SEnv K T F H ρ σ) (h : getS ρ i = .hld false false d) : ∃ F' v, stV σ i = some v ∧ Rp K F' v d ∧ Go K T σ ρ F H (ρ.set i (.shr d)) F' H := by
  obtain ⟨a, ha, f, t, q, oa⟩ := e.at h
  obtain ⟨o, ho⟩ := q.some
  have sm : Same F (upd F a o) := same_upd f
  have li : i < ρ.length := getS_lt (by rw [h]; exact fun z => nomatch z)
  have rp : Rp K (upd F a o) (.ref a) d := q.rp sm (by rw [upd_same, ho])
  refine ⟨upd F a o, .ref a, ha, rp, ⟨sm, fun _ _ h _ _ => h, fun b u hb => ⟨u, hb⟩, fun b u z => ?_⟩, ⟨by rw [List.length_set]; exact e.len, fun b u z => ?_, fun b hb => ?_, e.tabH, fun j => ?_, fun j k b hj hk => ?_⟩, fun b hb => ?_, fun j io lk d' hj hp => ?_⟩
  · by_cases hb : b = a
    · subst hb; exact .inr (.inr ⟨i, oa⟩)
    · rw [upd_ne hb] at z; exact .inl z
  · by_cases hb : b = a
    · subst hb; rw [upd_same] at z; cases z; exact ho
    · rw [upd_ne hb] at z; exact e.sub _ _ z
  · have nb : b ≠ a := fun z => t (by rw [← z]; exact hb)
    rw [upd_ne nb]; exact e.tabF b hb
  · by_cases hj : i = j
    · subst hj; rw [getS_self li]; exact ⟨_, ha, rp⟩
    · rw [getS_ne hj]
      have s := e.slot j
      cases hp : getS ρ j with
      | non => trivial
      | shr d' => rw [hp] at s; obtain ⟨v, e1, r⟩ := s; exact ⟨v, e1, r.mono sm⟩
      | hld io lk d' =>
        rw [hp] at s
        obtain ⟨b, e1, fb, tb, qb⟩ := s
        have nb : b ≠ a := fun z => hj (e.apart i j a oa ⟨⟨io, lk, d', hp⟩, by rw [e1, z]⟩)
        exact ⟨b, e1, by rw [upd_ne nb]; exact fb, tb, qb.mono sm rfl⟩
  · have back : ∀ j, OA (ρ.set i (.shr d)) σ j b → OA ρ σ j b := fun j ⟨⟨io, lk, d', z⟩, w⟩ => by
      by_cases q : i = j
      · subst q; rw [getS_self li] at z; cases z
      · rw [getS_ne q] at z; exact ⟨⟨io, lk, d', z⟩, w⟩
    exact e.apart j k b (back j hj) (back k hk)
  · obtain ⟨j, ⟨io, lk, d', z⟩, w⟩ := hb
    by_cases q : i = j
    · subst q; rw [getS_self li] at z; cases z
    · rw [getS_ne q] at z; exact ⟨j, ⟨io, lk, d', z⟩, w⟩
  · have ne : i ≠ j := fun z => by subst z; rw [h] at hj; cases hj; simp at hp
    exact ⟨d', by rw [getS_ne ne]; exact hj, fun _ => rfl⟩
/-- the slot's list or dict is changed in its place -/
theorem Go.write {i : Nat} {io : Bool} {d d' : D} {a : Addr} {o : HO} (e : SEnv K T F H ρ σ) (h : getS ρ i = .hld io false d) (ha : stV σ i = some (.ref a)) (q : Holds K F (upd H a o) a d') :
    Go K T σ ρ F H (ρ.set i (.hld io false d')) F (upd H a o) := by
  obtain ⟨a', ha', f, t, q0, oa⟩ := e.at h
  rw [ha] at ha'
  cases ha'
  have li : i < ρ.length := getS_lt (by rw [h]; exact fun z => nomatch z)
  have own : ∀ j b, OA (ρ.set i (.hld io false d')) σ j b → OA ρ σ j b := fun j b ⟨⟨x, y, z, w⟩, k⟩ => by
    by_cases hj : i = j
    · subst hj; exact ⟨⟨_, _, _, h⟩, k⟩
    · rw [getS_ne hj] at w; exact ⟨⟨x, y, z, w⟩, k⟩
  refine ⟨⟨.refl _, fun b u hb nb _ => ?_, fun b u hb => ?_, fun b u z => .inl z⟩, ⟨by rw [List.length_set]; exact e.len, fun b u z => ?_, e.tabF, fun b hb => ?_, fun j => ?_, fun j k b hj hk => e.apart j k b (own j b hj) (own k b hk)⟩, fun b ⟨j, hj⟩ => ⟨j, own j b hj⟩, fun j x y z hj hp => ?_⟩
  · have : b ≠ a := fun z => nb (by rw [z]; exact ⟨i, oa⟩)
    rw [upd_ne this]; exact hb
  · by_cases z : b = a
    · subst z; exact ⟨_, upd_same⟩
    · exact ⟨u, by rw [upd_ne z]; exact hb⟩
  · have : b ≠ a := fun w => by subst w; rw [f] at z; cases z
    rw [upd_ne this]; exact e.sub _ _ z
  · have : b ≠ a := fun w => t (by rw [← w]; exact hb)
    obtain ⟨ps, z, w⟩ := e.tabH b hb
    exact ⟨ps, by rw [upd_ne this]; exact z, w⟩
  · by_cases hj : i = j
    · subst hj; rw [getS_self li]; exact ⟨a, ha, f, t, q⟩
    · rw [getS_ne hj]
      have s := e.slot j
      cases hp : getS ρ j with
      | non => trivial
      | shr d' => rw [hp] at s; exact s
      | hld x y z =>
        rw [hp] at s
        obtain ⟨b, e1, fb, tb, qb⟩ := s
        have nb : b ≠ a := fun w => hj (e.apart i j a oa ⟨⟨x, y, z, hp⟩, by rw [e1, w]⟩)
        exact ⟨b, e1, fb, tb, qb.mono (.refl _) (upd_ne nb)⟩
  · by_cases hi : i = j
    · subst hi
      rw [h] at hj
      cases hj
      exact ⟨d', getS_self li, fun w => nomatch w⟩
    · exact ⟨z, by rw [getS_ne hi]; exact hj, fun _ => rfl⟩

/-! ### operands -/
def OpOk (K : PySem.W.Frag) (F : Hp) (σ : Sg) (v : V) : Opr → Prop
  | .val d => Rp K F v d
  | .slot i => stV σ i = some v
inductive OpsOk (K : PySem.W.Frag) (F : Hp) (σ : Sg) : List V → List Opr → Prop
  | nil : OpsOk K F σ [] []
  | cons {v : V} {vs : List V} {o : Opr} {os : List Opr} : OpOk K F σ v o → OpsOk K F σ vs os → OpsOk K F σ (v :: vs) (o :: os)
theorem OpOk.mono {v : V} {o : Opr} (h : OpOk K F σ v o) (e : Same F F') : OpOk K F' σ v o := by
  cases o with
  | val d => exact Rp.mono e h
  | slot i => exact h
theorem OpOk.get {v : V} {o : Opr} {d : D} (h : OpOk K F σ v o) (e : SEnv K T F H ρ σ) (g : o.get ρ = some d) : Rq K F H v d := by
  cases o with
  | val d' => cases g; exact .inl h
  | slot i =>
    change (match getS ρ i with | .hld _ _ d => some d | _ => none) = some d at g
    split at g <;> first | cases g | skip
    rename_i q
    obtain ⟨a, ha, f, t, hq, oa⟩ := e.at q
    have h : stV σ i = some v := h
    rw [ha] at h
    cases h
    exact .inr ⟨a, rfl, hq⟩
theorem OpsOk.gets {vs : List V} {os : List Opr} {ds : List D} (h : OpsOk K F σ vs os) (e : SEnv K T F H ρ σ) (g : gets ρ os = some ds) : RqA K F H vs ds := by
  induction h generalizing ds with
  | nil => cases g; exact .nil
  | cons a r ih =>
    rw [Ev.gets, Option.bind_eq_some_iff] at g
    obtain ⟨d, g1, g2⟩ := g
    rw [Option.map_eq_some_iff] at g2
    obtain ⟨ds', g3, rfl⟩ := g2
    exact .cons (a.get e g1) (ih g3)

/-! ### what the text's names are -/
theorem idx_some {l : List Str} {x : Str} {i : Nat} (h : l.idxOf? x = some i) : l[i]? = some x := by
  unfold List.idxOf? at h
  rw [List.findIdx?_eq_some_iff_getElem] at h
  obtain ⟨hl, he, _⟩ := h
  rw [List.getElem?_eq_getElem hl, eq_of_beq he]
theorem slot_some {g : Sta} {x : Str} {i : Nat} (h : slot g x = some i) : g.nm[i]? = some x ∧ Vis g.sc x ∧ (x == ("__debug__" : Str)) = false ∧ (x == ("__classdict__" : Str)) = false := by
  unfold slot at h
  split at h
  · rename_i q
    simp only [Bool.and_eq_true, bne_iff_ne, ne_eq] at q
    refine ⟨idx_some h, ?_, beq_eq_false_iff_ne.mpr q.1.2, beq_eq_false_iff_ne.mpr q.2⟩
    have s := q.1.1
    unfold seen kd at s
    unfold Vis
    split at s <;> first | cases s | skip
    · rename_i z; exact .inl z
    · rename_i z; exact .inr (.inl z)
    · rename_i z; exact .inr (.inr z)
  · cases h
theorem glb_some {g : Sta} {x : Str} (h : glb g x = true) : g.sc.names.lookup x = some .globalImplicit ∧ (x == ("__debug__" : Str)) = false ∧ x ≠ "__name__" := by
  unfold glb kd at h
  simp only [Bool.and_eq_true, bne_iff_ne, ne_eq, decide_eq_true_eq] at h
  exact ⟨h.1.1, beq_eq_false_iff_ne.mpr h.1.2, h.2⟩
end Ev
end
section
set_option Elab.async false
set_option linter.all false
set_option maxRecDepth 100000
/-! Expressions, construct by construct. -/
namespace Ev
open PySem PySem.Spec PyProof.Rows L2
variable {Z : Fix} {g : Sta} {h : List Calls} {K : PySem.W.Frag} {F F' F1 F2 H H' H1 H2 : Hp} {T : List Addr} {σ σ' : Sg} {ρ ρ' ρ1 ρ2 : Sl} {W : WX} {X : Cx}
theorem At.ok (a : At Z g h W X) : Xok Z.K X := ⟨a.K, a.calm, by have := a.room.un; omega⟩
/-- operands, arguments, tests -/
def SO (Z : Fix) (g : Sta) (h : List Calls) (e : Expr) (f : Sl → R Opr) : Prop := ∀ X W, At Z g h W X → ∀ σ ρ F H Q, SEnv Z.K Z.T F H ρ σ →
  After Z.K Z.T (exC Z) W σ ρ F H (fun o _ F' H' => ∀ v, OpOk Z.K F' σ v o → Q v H') (f ρ) → wE X e σ H Q
def SA (Z : Fix) (g : Sta) (h : List Calls) (es : List Expr) (f : Sl → R (List D)) : Prop := ∀ X W, At Z g h W X → ∀ σ ρ F H Q, SEnv Z.K Z.T F H ρ σ →
  After Z.K Z.T (exC Z) W σ ρ F H (fun ds _ F' H' => ∀ vs, RpA Z.K F' vs ds → Q vs H') (f ρ) → wA X es σ H Q
def SOs (Z : Fix) (g : Sta) (h : List Calls) (es : List Expr) (f : Sl → R (List Opr)) : Prop := ∀ X W, At Z g h W X → ∀ σ ρ F H Q, SEnv Z.K Z.T F H ρ σ →
  After Z.K Z.T (exC Z) W σ ρ F H (fun os _ F' H' => ∀ vs, OpsOk Z.K F' σ vs os → Q vs H') (f ρ) → wA X es σ H Q
def ST (Z : Fix) (g : Sta) (h : List Calls) (e : Expr) (f : Sl → R Bool) : Prop := ∀ X W, At Z g h W X → ∀ σ ρ F H Q, SEnv Z.K Z.T F H ρ σ →
  After Z.K Z.T (exC Z) W σ ρ F H (fun b _ _ H' => Q b H') (f ρ) → wT X e σ H Q
def SP' (Z : Fix) (g : Sta) (h : List Calls) (e : Option Expr) (f : Sl → R (Option Int)) : Prop := ∀ X W, At Z g h W X → ∀ σ ρ F H (Q : Option Int → Hp → Prop), SEnv Z.K Z.T F H ρ σ →
  After Z.K Z.T (exC Z) W σ ρ F H (fun b _ _ H' => Q b H') (f ρ) → ∃ t, PO X e t ∧ t σ H Q

/-! ### leaves -/
theorem se_const {c : Const} {k : Nat} {pos : Pos} {v : V} {d : D} (p : ∀ X, PE X (.Constant c k pos) (tC v)) (r : ∀ K F, Rp K F v d) : SE Z g h (.Constant c k pos) (fun ρ => .ok (.shr d) ρ) :=
  fun X W a σ ρ F H Q e q => wE_of (p X) (q.here e v (r _ _))
theorem se_var {x : Str} {pos : Pos} {i : Nat} (hs : slot g x = some i) : SE Z g h (.Name x pos) (evE h (.var i)) := by
  intro X W a σ ρ F H Q e q
  obtain ⟨h1, h2, h3, h4⟩ := slot_some hs
  have pe : PE X (.Name x pos) (tVar i) := pe_var (by rw [a.nm]; exact h1) (by rw [a.sc]; exact h2) h3 h4
  have s := e.slot i
  unfold evE at q
  cases hp : getS ρ i with
  | non => rw [hp] at q; exact q.elim
  | shr d =>
    rw [hp] at q s
    obtain ⟨v, e1, r⟩ := s
    refine wE_of pe ⟨v, ?_, q.here e v r⟩
    unfold stV at e1
    rwa [Option.join_eq_some_iff] at e1
  | hld io lk d =>
    rw [hp] at q
    cases io with
    | true => exact q.elim
    | false =>
      cases lk with
      | true => exact q.elim
      | false =>
        obtain ⟨F', v, e1, r, go⟩ := Go.freeze e hp
        refine wE_of pe ⟨v, ?_, q F' H go v r⟩
        unfold stV at e1
        rwa [Option.join_eq_some_iff] at e1
theorem so_var {x : Str} {pos : Pos} {i : Nat} (hs : slot g x = some i) : SO Z g h (.Name x pos) (evO h (.var i)) := by
  intro X W a σ ρ F H Q e q
  obtain ⟨h1, h2, h3, h4⟩ := slot_some hs
  have pe : PE X (.Name x pos) (tVar i) := pe_var (by rw [a.nm]; exact h1) (by rw [a.sc]; exact h2) h3 h4
  have s := e.slot i
  unfold evO at q
  cases hp : getS ρ i with
  | non => simp only [hp] at q; exact q.elim
  | shr d =>
    simp only [hp] at q
    rw [hp] at s
    obtain ⟨v, e1, r⟩ := s
    refine wE_of pe ⟨v, ?_, q.here e v r⟩
    unfold stV at e1
    rwa [Option.join_eq_some_iff] at e1
  | hld io lk d =>
    simp only [hp] at q
    obtain ⟨b, e1, _⟩ := e.at hp
    refine wE_of pe ⟨.ref b, ?_, q.here e _ e1⟩
    unfold stV at e1
    rwa [Option.join_eq_some_iff] at e1
theorem se_glob {x : Str} {pos : Pos} {d : D} (hg : glb g x = true) (hc : g.cs.lookup x = some d) : SE Z g h (.Name x pos) (evE h (.cst d)) := by
  intro X W a σ ρ F H Q e q
  obtain ⟨h1, h2, h3⟩ := glb_some hg
  obtain ⟨u, v, hm, r, rp⟩ := a.named.cs x d hc
  unfold evE at q
  exact wE_of (pe_glob (by show X.env.scope.names.lookup x = _; rw [a.sc]; exact h1) (by rw [a.mg]; exact hm) r h2) (q.here e v (rp F))
/-- a value, shared from now on -/
theorem After.dat {β : Type} {C : ExW} {Ok : β → Sl → Hp → Hp → Prop} {r : R RV} {k : D → Sl → R β} (e : SEnv K T F H ρ σ) (q : After K T C W σ ρ F H Ok (r.bind fun v ρ' => k v.d ρ')) :
    After K T C W σ ρ F H (fun rv ρ' F' H' => ∀ v, RvOk K T F' H' H v rv → ∃ F'', Rp K F'' v rv.d ∧ Same F' F'' ∧ SEnv K T F'' H' ρ' σ ∧ After K T C W σ ρ' F'' H' Ok (k rv.d ρ')) r := by
  cases r with
  | fail => exact q
  | exc c ρ' => exact q
  | ok rv ρ' =>
    intro F' H' go v r
    obtain ⟨F2, g2, r2, sm⟩ := Go.dat e go r
    exact ⟨F2, r2, sm, g2.env, After.from g2 q⟩
theorem se_so {e : Expr} {f : Sl → R RV} (s : SE Z g h e f) : SO Z g h e (fun ρ => (f ρ).bind fun v ρ' => .ok (.val v.d) ρ') := by
  intro X W a σ ρ F H Q e q
  refine s X W a σ ρ F H Q e ?_
  refine (After.dat (k := fun d ρ' => R.ok (Opr.val d) ρ') e q).mono fun rv ρ' F' H' go q' v r => ?_
  obtain ⟨F2, r2, sm, e2, q2⟩ := q' v r
  exact q2.here e2 v r2

/-! ### rows of expressions -/
theorem star_ok {e : Expr} (n : ∀ x p, e ≠ .Starred x p) (es : List Expr) (env : Env) : starEach (e :: es) env = (false, eval e env) :: starEach es env := by
  cases e <;> first | rfl | exact absurd rfl (n _ _)
theorem sa_nil : SA Z g h [] (fun ρ => .ok [] ρ) := fun X W a σ ρ F H Q e q => wA_of pa_nil (q.here e [] .nil)
theorem sa_cons {e : Expr} {es : List Expr} {f : Sl → R RV} {fs : Sl → R (List D)} (n : ∀ x p, e ≠ .Starred x p) (s : SE Z g h e f) (ss : SA Z g h es fs) :
    SA Z g h (e :: es) (fun ρ => (f ρ).bind fun v ρ' => (fs ρ').bind fun ds ρ2 => .ok (v.d :: ds) ρ2) := by
  intro X W a σ ρ F H Q e q
  refine wA_of (pa_cons pe_w pa_w (star_ok n _ _)) ?_
  refine s X W a σ ρ F H _ e ((After.dat (k := fun d ρ' => (fs ρ').bind fun ds ρ2 => R.ok (d :: ds) ρ2) e q).mono fun rv ρ' F' H' go q' v r => ?_)
  obtain ⟨F2, r2, sm, e2, q2⟩ := q' v r
  exact ss X W a σ ρ' F2 H' _ e2 (q2.split.mono fun ds ρ3 F3 H3 g3 q3 vs rs => q3.here g3.env (v :: vs) (.cons (r2.mono g3.fw.fsub) rs))
theorem sos_nil : SOs Z g h [] (fun ρ => .ok [] ρ) := fun X W a σ ρ F H Q e q => wA_of pa_nil (q.here e [] .nil)
theorem sos_cons {e : Expr} {es : List Expr} {f : Sl → R Opr} {fs : Sl → R (List Opr)} (n : ∀ x p, e ≠ .Starred x p) (s : SO Z g h e f) (ss : SOs Z g h es fs) :
    SOs Z g h (e :: es) (fun ρ => (f ρ).bind fun o ρ' => (fs ρ').bind fun os ρ2 => .ok (o :: os) ρ2) := by
  intro X W a σ ρ F H Q e q
  refine wA_of (pa_cons pe_w pa_w (star_ok n _ _)) ?_
  refine s X W a σ ρ F H _ e (q.split.mono fun o ρ' F' H' go q' v r => ?_)
  exact ss X W a σ ρ' F' H' _ go.env (q'.split.mono fun os ρ3 F3 H3 g3 q3 vs rs => q3.here g3.env (v :: vs) (.cons (r.mono g3.fw.fsub) rs))

/-- a new thing, that is shared or held by nobody yet: what is wanted of it -/
theorem okExt {rv : RV} {Ok : RV → Sl → Hp → Hp → Prop} {C : ExW} (e : SEnv K T F H ρ σ) (q : After K T C W σ ρ F H Ok (.ok rv ρ)) (x : Ext F H F' H') : Ok rv ρ F' H' := q F' H' (Go.ext e x)
theorem tabs_T (e : SEnv K T F H ρ σ) : ∀ a ∈ T, H a ≠ none := e.tabs
/-- displays -/
theorem se_tup {es : List Expr} {k : Nat} {pos : Pos} {fs : Sl → R (List D)} (ss : SA Z g h es fs) (hl : ∀ ρ ds ρ', fs ρ = .ok ds ρ' → ds.length ≤ mAx) : SE Z g h (.Tuple es k pos) (fun ρ => (fs ρ).bind fun ds ρ' => .ok (.shr (.tuple ds)) ρ') := by
  intro X W a σ ρ F H Q e q
  refine wE_of (pe_tup pa_w) (ss X W a σ ρ F H _ e ?_)
  have q1 := q.split
  cases hf : fs ρ with
  | fail => simp only [hf] at q1; exact q1
  | exc c ρ' => simp only [hf] at q1; exact q1
  | ok ds ρ' =>
    simp only [hf] at q1
    have hz := hl _ _ _ hf
    intro F1 H1 go vs rs
    have q2 := q1 F1 H1 go
    refine ⟨by rw [rs.length, sizeLine_eq]; exact hz, fun p n => ?_⟩
    have x := Ext.shr (o := .tup vs) go.env.sub n
    exact okExt go.env q2 x _ (.tup (.inl upd_same) (rs.mono x.fsub))
theorem se_lst {es : List Expr} {pos : Pos} {fs : Sl → R (List D)} (ss : SA Z g h es fs) (hl : ∀ ρ ds ρ', fs ρ = .ok ds ρ' → ds.length ≤ mAx) : SE Z g h (.List es pos) (fun ρ => (fs ρ).bind fun ds ρ' => .ok (.own (.list ds)) ρ') := by
  intro X W a σ ρ F H Q e q
  refine wE_of (pe_lst pa_w) (ss X W a σ ρ F H _ e ?_)
  have q1 := q.split
  cases hf : fs ρ with
  | fail => simp only [hf] at q1; exact q1
  | exc c ρ' => simp only [hf] at q1; exact q1
  | ok ds ρ' =>
    simp only [hf] at q1
    have hz := hl _ _ _ hf
    intro F1 H1 go vs rs
    have q2 := q1 F1 H1 go
    refine ⟨by rw [rs.length, sizeLine_eq]; exact hz, fun p n => ?_⟩
    have n0 : H p = none := by
      cases w : H p with
      | none => rfl
      | some u => obtain ⟨_, z⟩ := go.fw.stay _ _ w; rw [n] at z; cases z
    exact okExt go.env q2 (Ext.own (o := .lst vs) go.env.sub n) _ ⟨p, rfl, free_of go.env.sub n, fun z => tabs_T go.env p z n, n0, vs, upd_same, rs⟩
/-- a new value of own kind is new for who began earlier, too -/
theorem RvOk.early {v : V} {rv : RV} (go : Go K T σ ρ F H ρ1 F1 H1) (r : RvOk K T F' H' H1 v rv) : RvOk K T F' H' H v rv := by
  cases rv with
  | shr d => exact r
  | own d =>
    obtain ⟨a, e, f, t, n, q⟩ := r
    refine ⟨a, e, f, t, ?_, q⟩
    cases w : H a with
    | none => rfl
    | some u => obtain ⟨_, z⟩ := go.fw.stay _ _ w; rw [n] at z; cases z
/-- an operation behind its operands -/
theorem After.pure {C : ExW} {p : List D → Option RV} {r : List V → Hp → VK → Prop} {os : List Opr} {vs : List V} {Q : VK} (P : Pure K T p r) (go : Go K T σ ρ F H ρ1 F1 H1) (rs : OpsOk K F1 σ vs os)
    (q : After K T C W σ ρ1 F1 H1 (fun rv _ F' H' => ∀ v, RvOk K T F' H' H v rv → Q v H') (R.ofO ρ1 ((gets ρ1 os).bind p))) : r vs H1 Q := by
  cases hg : gets ρ1 os with
  | none => rw [hg] at q; exact q.elim
  | some ds =>
    rw [hg] at q
    change After _ _ _ _ _ _ _ _ _ (R.ofO ρ1 (p ds)) at q
    cases hp : p ds with
    | none => rw [hp] at q; exact q.elim
    | some rv =>
      rw [hp] at q
      exact P ds rv hp F1 H1 vs Q go.env.sub go.env.tabs (rs.gets go.env hg) fun F' H' v x ro => okExt go.env q x v (RvOk.early go ro)
/-- an operation of two operands -/
theorem se_op2 {a b : Expr} {op : Operator} {pos : Pos} {p : List D → Option RV} {fa fb : Sl → R Opr} (sa : SO Z g h a fa) (sb : SO Z g h b fb) (P : ∀ X, Xok Z.K X → Pure Z.K Z.T p (w2 X (binaryOp op))) :
    SE Z g h (.BinOp a op b pos) (fun ρ => (fa ρ).bind fun x ρ1 => (fb ρ1).bind fun y ρ2 => R.ofO ρ2 ((gets ρ2 [x, y]).bind p)) := by
  intro X W at_ σ ρ F H Q e q
  refine wE_of (pe_op op_w pe_w pe_w) (sa X W at_ σ ρ F H _ e (q.split.mono fun x ρ1 F1 H1 g1 q1 v r => ?_))
  refine sb X W at_ σ ρ1 F1 H1 _ g1.env (q1.split.mono fun y ρ2 F2 H2 g2 q2 u r' => ?_)
  exact After.pure (P X at_.ok) (g1.trans g2) (.cons (r.mono g2.fw.fsub) (.cons r' .nil)) q2
theorem se_cmp2 {a b : Expr} {op : CmpOp} {pos : Pos} {p : List D → Option RV} {fa fb : Sl → R Opr} (sa : SO Z g h a fa) (sb : SO Z g h b fb) (hm : behindInMarks op b = false) (P : ∀ X, Xok Z.K X → Pure Z.K Z.T p (w2 X (compareOp op))) :
    SE Z g h (.Compare a [op] [b] pos) (fun ρ => (fa ρ).bind fun x ρ1 => (fb ρ1).bind fun y ρ2 => R.ofO ρ2 ((gets ρ2 [x, y]).bind p)) := by
  intro X W at_ σ ρ F H Q e q
  refine wE_of (pe_cmpR op_w pe_w pe_w hm) (sa X W at_ σ ρ F H _ e (q.split.mono fun x ρ1 F1 H1 g1 q1 v r => ?_))
  refine sb X W at_ σ ρ1 F1 H1 _ g1.env (q1.split.mono fun y ρ2 F2 H2 g2 q2 u r' => ?_)
  exact After.pure (P X at_.ok) (g1.trans g2) (.cons (r.mono g2.fw.fsub) (.cons r' .nil)) q2
theorem se_un1 {a : Expr} {op : UnaryOp} {pos : Pos} {p : List D → Option RV} {fa : Sl → R Opr} (sa : SO Z g h a fa) (P : ∀ X, Xok Z.K X → Pure Z.K Z.T p (w1 X (unaryOp op))) :
    SE Z g h (.UnaryOp op a pos) (fun ρ => (fa ρ).bind fun x ρ1 => R.ofO ρ1 ((gets ρ1 [x]).bind p)) := by
  intro X W at_ σ ρ F H Q e q
  refine wE_of (pe_un un_w pe_w) (sa X W at_ σ ρ F H _ e (q.split.mono fun x ρ1 F1 H1 g1 q1 v r => ?_))
  exact After.pure (P X at_.ok) g1 (.cons r .nil) q1
/-- x is None, x is not None -/
theorem se_isN {a : Expr} {op : CmpOp} {pos p' : Pos} {k : Nat} {p : List D → Option RV} {fa : Sl → R Opr} (sa : SO Z g h a fa) (hm : behindInMarks op (.Constant .none k p') = false)
    (P : ∀ X ds rv v F H Q, p ds = some rv → Same F H → RqA Z.K F H [v] ds → (∀ F' H' v, Ext F H F' H' → RvOk Z.K Z.T F' H' H v rv → Q v H') → w2 X (compareOp op) [v, .non] H Q) :
    SE Z g h (.Compare a [op] [.Constant .none k p'] pos) (fun ρ => (fa ρ).bind fun x ρ1 => R.ofO ρ1 ((gets ρ1 [x]).bind p)) := by
  intro X W at_ σ ρ F H Q e q
  refine wE_of (pe_cmpR op_w pe_w pe_non hm) (sa X W at_ σ ρ F H _ e (q.split.mono fun x ρ1 F1 H1 g1 q1 v r => ?_))
  show w2 X (compareOp op) [v, .non] H1 Q
  cases hg : gets ρ1 [x] with
  | none => rw [hg] at q1; exact q1.elim
  | some ds =>
    rw [hg] at q1
    change After _ _ _ _ _ _ _ _ _ (R.ofO ρ1 (p ds)) at q1
    cases hp : p ds with
    | none => rw [hp] at q1; exact q1.elim
    | some rv =>
      rw [hp] at q1
      exact P X ds rv v F1 H1 Q hp g1.env.sub ((OpsOk.cons r .nil).gets g1.env hg) fun F' H' v x ro => okExt g1.env q1 x v (RvOk.early g1 ro)
/-- a built-in function or type, called with operands -/
theorem blt_some {x : Str} (hb : blt g x = true) (a : At Z g h W X) : Gl X x ∧ X.mg x = none ∧ (x == ("__debug__" : Str)) = false ∧ x ≠ "__name__" := by
  unfold blt at hb
  rw [Bool.and_eq_true] at hb
  obtain ⟨h1, h2, h3⟩ := glb_some hb.1
  exact ⟨by show X.env.scope.names.lookup x = _; rw [a.sc]; exact h1, by rw [a.mg]; exact a.named.bl x (by simpa using hb.2), h2, h3⟩
theorem back_plain {pos : Pos} {env : Env} : ∀ {es : List Expr}, (∀ e ∈ es, ∀ x p, e ≠ .Starred x p) → (backTo pos (starEach es env)).any (·.1) = false
  | [], _ => rfl
  | e :: es, n => by
    rw [star_ok (n e List.mem_cons_self)]
    show (false || (backTo pos (starEach es env)).any (·.1)) = false
    rw [back_plain fun e he => n e (List.mem_cons_of_mem _ he)]; rfl
theorem se_callB {x : Str} {e1 : Expr} {es : List Expr} {id : String} {p : List D → Option RV} {fs : Sl → R (List Opr)} {p1 pos : Pos} (hb : blt g x = true) (hv : bootBuiltins x = some (.builtin id)) (ss : SOs Z g h (e1 :: es) fs)
    (ns : ∀ e ∈ e1 :: es, ∀ x p, e ≠ .Starred x p) (P : ∀ X, Xok Z.K X → Pure Z.K Z.T p (wC X (.builtin id))) : SE Z g h (.Call (.Name x p1) (e1 :: es) [] pos) (fun ρ => (fs ρ).bind fun os ρ' => R.ofO ρ' ((gets ρ' os).bind p)) := by
  intro X W at_ σ ρ F H Q e q
  obtain ⟨h1, h2, h3, h4⟩ := blt_some hb at_
  refine wE_of (pe_callB call_w h1 h2 hv pa_w h4 h3 (star_ok (ns _ List.mem_cons_self) _ _) (back_plain fun e he => ns e (List.mem_cons_of_mem _ he))) (ss X W at_ σ ρ F H _ e (q.split.mono fun os ρ1 F1 H1 g1 q1 vs rs => ?_))
  exact After.pure (P X at_.ok) g1 rs q1
theorem se_callT {x : Str} {e1 : Expr} {es : List Expr} {id : String} {p : List D → Option RV} {fs : Sl → R (List Opr)} {p1 pos : Pos} (hb : blt g x = true) (hv : bootBuiltins x = some (.type id)) (ss : SOs Z g h (e1 :: es) fs)
    (ns : ∀ e ∈ e1 :: es, ∀ x p, e ≠ .Starred x p) (P : ∀ X, Xok Z.K X → Pure Z.K Z.T p (wC X (.type id))) : SE Z g h (.Call (.Name x p1) (e1 :: es) [] pos) (fun ρ => (fs ρ).bind fun os ρ' => R.ofO ρ' ((gets ρ' os).bind p)) := by
  intro X W at_ σ ρ F H Q e q
  obtain ⟨h1, h2, h3, h4⟩ := blt_some hb at_
  refine wE_of (pe_callTy call_w h1 h2 hv pa_w h4 h3 (star_ok (ns _ List.mem_cons_self) _ _) (back_plain fun e he => ns e (List.mem_cons_of_mem _ he))) (ss X W at_ σ ρ F H _ e (q.split.mono fun os ρ1 F1 H1 g1 q1 vs rs => ?_))
  exact After.pure (P X at_.ok) g1 rs q1
/-- isinstance(x, T) -/
theorem se_isi {e1 : Expr} {tx : Str} {ty : Ty} {fa : Sl → R Opr} {p1 p2 pos : Pos} (hb : blt g "isinstance" = true) (hv : bootBuiltins "isinstance" = some (.builtin "isinstance")) (hbt : blt g tx = true) (hvt : bootBuiltins tx = some (.type (tyS ty)))
    (sa : SO Z g h e1 fa) (n : ∀ x p, e1 ≠ .Starred x p) : SE Z g h (.Call (.Name "isinstance" p1) [e1, .Name tx p2] [] pos) (fun ρ => (fa ρ).bind fun x ρ1 => R.ofO ρ1 ((gets ρ1 [x]).bind (opIsi ty))) := by
  intro X W at_ σ ρ F H Q e q
  obtain ⟨h1, h2, h3, h4⟩ := blt_some hb at_
  obtain ⟨k1, k2, k3, k4⟩ := blt_some hbt at_
  refine wE_of (pe_callB call_w h1 h2 hv (pa_cons pe_w (pa_cons (pe_bltn k1 k2 hvt (v := .ty (tyS ty)) rfl k4 k3) pa_nil (star_ok (fun _ _ z => by cases z) _ _)) (star_ok n _ _)) h4 h3 (star_ok n _ _) (by rfl)) (sa X W at_ σ ρ F H _ e (q.split.mono fun x ρ1 F1 H1 g1 q1 v r => ?_))
  show wC X (.builtin "isinstance") [v, .ty (tyS ty)] H1 Q
  cases hg : gets ρ1 [x] with
  | none => rw [hg] at q1; exact q1.elim
  | some ds =>
    rw [hg] at q1
    change After _ _ _ _ _ _ _ _ _ (R.ofO ρ1 (opIsi ty ds)) at q1
    cases hp : opIsi ty ds with
    | none => rw [hp] at q1; exact q1.elim
    | some rv =>
      rw [hp] at q1
      exact pu_isi at_.ok ty ds rv hp F1 H1 v Q g1.env.sub ((OpsOk.cons r .nil).gets g1.env hg) fun F' H' v x ro => okExt g1.env q1 x v (RvOk.early g1 ro)
/-- x[i] -/
theorem plain_ix {b : Expr} (hs : isSlice b = false) : PlainIx b := by
  intro o i
  cases b <;> first | rfl | exact absurd hs (by simp [isSlice])
theorem se_idx {a b : Expr} {pos : Pos} {fa fb : Sl → R Opr} (sa : SO Z g h a fa) (sb : SO Z g h b fb) (hs : isSlice b = false) :
    SE Z g h (.Subscript a b pos) (fun ρ => (fa ρ).bind fun x ρ1 => (fb ρ1).bind fun y ρ2 => R.ofO ρ2 ((gets ρ2 [x, y]).bind opIdx)) := by
  intro X W at_ σ ρ F H Q e q
  refine wE_of (pe_ix ix_w pe_w pe_w (plain_ix hs)) (sa X W at_ σ ρ F H _ e (q.split.mono fun x ρ1 F1 H1 g1 q1 v r => ?_))
  refine sb X W at_ σ ρ1 F1 H1 _ g1.env (q1.split.mono fun y ρ2 F2 H2 g2 q2 u r' => ?_)
  exact After.pure (pu_idx at_.ok) (g1.trans g2) (.cons (r.mono g2.fw.fsub) (.cons r' .nil)) q2
end Ev
end
section
set_option Elab.async false
set_option linter.all false
set_option maxRecDepth 100000
/-! Truth, tests, slices. -/
namespace Ev
open PySem PySem.Spec PyProof.Rows L2
variable {Z : Fix} {g : Sta} {h : List Calls} {K : PySem.W.Frag} {F F' F1 F2 H H' H1 H2 : Hp} {T : List Addr} {σ σ' : Sg} {ρ ρ' ρ1 ρ2 : Sl} {W : WX} {X : Cx}
theorem RvOk.isBl {v : V} {b : Bool} {H0 : Hp} (r : RvOk K T F H H0 v (.shr (.bool b))) : v = .bl b := by
  change Rp K F v (.bool b) at r; cases r; rfl
theorem RvOk.isIn {v : V} {i : Int} {H0 : Hp} (r : RvOk K T F H H0 v (.shr (.int i))) : v = .int i := by
  change Rp K F v (.int i) at r; cases r; rfl
/-- not e, of a truth value -/
theorem se_not {e : Expr} {pos : Pos} {f : Sl → R RV} (s : SE Z g h e f) : SE Z g h (.UnaryOp .Not e pos) (fun ρ => (f ρ).bind fun v ρ' => match v with
    | .shr (.bool b) => .ok (.shr (.bool (!b))) ρ'
    | _ => .fail) := by
  intro X W a σ ρ F H Q e q
  refine wE_of (pe_not pe_w) (s X W a σ ρ F H _ e (q.split.mono fun rv ρ1 F1 H1 g1 q1 v r => ?_))
  split at q1
  · exact ⟨_, r.isBl, q1.here g1.env _ (.bl _)⟩
  · exact q1.elim
theorem se_and {a b : Expr} {rest : List Expr} {pos : Pos} {fa fb : Sl → R RV} (sa : SE Z g h a fa) (sb : SE Z g h (.BoolOp .And (b :: rest) pos) fb) : SE Z g h (.BoolOp .And (a :: b :: rest) pos) (fun ρ => (fa ρ).bind fun v ρ' => match v with
    | .shr (.bool true) => fb ρ'
    | .shr (.bool false) => .ok (.shr (.bool false)) ρ'
    | _ => .fail) := by
  intro X W at_ σ ρ F H Q e q
  refine wE_of (pe_and pe_w pe_w) (sa X W at_ σ ρ F H _ e (q.split.mono fun rv ρ1 F1 H1 g1 q1 v r => ?_))
  split at q1
  · refine ⟨true, r.isBl, ?_⟩
    rw [if_pos rfl]
    exact sb X W at_ σ ρ1 F1 H1 Q g1.env (q1.mono fun rv' ρ2 F2 H2 g2 q2 v' r' => q2 v' (RvOk.early g1 r'))
  · refine ⟨false, r.isBl, ?_⟩
    rw [if_neg Bool.false_ne_true]
    exact q1.here g1.env _ (.bl _)
  · exact q1.elim
theorem se_or {a b : Expr} {rest : List Expr} {pos : Pos} {fa fb : Sl → R RV} (sa : SE Z g h a fa) (sb : SE Z g h (.BoolOp .Or (b :: rest) pos) fb) : SE Z g h (.BoolOp .Or (a :: b :: rest) pos) (fun ρ => (fa ρ).bind fun v ρ' => match v with
    | .shr (.bool true) => .ok (.shr (.bool true)) ρ'
    | .shr (.bool false) => fb ρ'
    | _ => .fail) := by
  intro X W at_ σ ρ F H Q e q
  refine wE_of (pe_or pe_w pe_w) (sa X W at_ σ ρ F H _ e (q.split.mono fun rv ρ1 F1 H1 g1 q1 v r => ?_))
  split at q1
  · refine ⟨true, r.isBl, ?_⟩
    rw [if_pos rfl]
    exact q1.here g1.env _ (.bl _)
  · refine ⟨false, r.isBl, ?_⟩
    rw [if_neg Bool.false_ne_true]
    exact sb X W at_ σ ρ1 F1 H1 Q g1.env (q1.mono fun rv' ρ2 F2 H2 g2 q2 v' r' => q2 v' (RvOk.early g1 r'))
  · exact q1.elim
theorem se_one {a : Expr} {op : BoolOp} {pos : Pos} {fa : Sl → R RV} (sa : SE Z g h a fa) : SE Z g h (.BoolOp op [a] pos) fa := by
  intro X W at_ σ ρ F H Q e q
  exact wE_of (pe_one pe_w) (sa X W at_ σ ρ F H Q e q)
theorem se_cond {c a b : Expr} {pos : Pos} {fc : Sl → R Bool} {fa fb : Sl → R RV} (sc : ST Z g h c fc) (sa : SE Z g h a fa) (sb : SE Z g h b fb) : SE Z g h (.IfExp c a b pos) (fun ρ => (fc ρ).bind fun c ρ' => if c then fa ρ' else fb ρ') := by
  intro X W at_ σ ρ F H Q e q
  refine wE_of (pe_ifExp pt_w pe_w pe_w) (sc X W at_ σ ρ F H _ e (q.split.mono fun c ρ1 F1 H1 g1 q1 => ?_))
  cases c with
  | true =>
    rw [if_pos rfl] at q1 ⊢
    exact sa X W at_ σ ρ1 F1 H1 Q g1.env (q1.mono fun rv' ρ2 F2 H2 g2 q2 v' r' => q2 v' (RvOk.early g1 r'))
  | false =>
    rw [if_neg Bool.false_ne_true] at q1 ⊢
    exact sb X W at_ σ ρ1 F1 H1 Q g1.env (q1.mono fun rv' ρ2 F2 H2 g2 q2 v' r' => q2 v' (RvOk.early g1 r'))
/-- two operands, one operation that gives a truth value -/
theorem bool_pure {p : List D → Option RV} {r : List V → Hp → VK → Prop} {os : List Opr} {vs : List V} {Q : VK} {rv : RV} (P : Pure K T p r) (go : Go K T σ ρ F H ρ1 F1 H1) (rs : OpsOk K F1 σ vs os)
    (hg : (gets ρ1 os).bind p = some rv) (q : ∀ F' H' v, Ext F1 H1 F' H' → RvOk K T F' H' H1 v rv → Q v H') : r vs H1 Q := by
  rw [Option.bind_eq_some_iff] at hg
  obtain ⟨ds, h1, h2⟩ := hg
  exact P ds rv h2 F1 H1 vs Q go.env.sub go.env.tabs (rs.gets go.env h1) q
theorem se_chain {a b c : Expr} {op op' : CmpOp} {p p' : List D → Option RV} {pos : Pos} {fa fb fc : Sl → R Opr} (sa : SO Z g h a fa) (sb : SO Z g h b fb) (sc : SO Z g h c fc)
    (P : ∀ X, Xok Z.K X → Pure Z.K Z.T p (w2 X (compareOp op))) (P' : ∀ X, Xok Z.K X → Pure Z.K Z.T p' (w2 X (compareOp op')))
    (hm : lastMarks [op, op'] [b, c] = false) :
    SE Z g h (.Compare a [op, op'] [b, c] pos) (fun ρ => (fa ρ).bind fun x ρ1 => (fb ρ1).bind fun y ρ2 => match (gets ρ2 [x, y]).bind p with
    | some (.shr (.bool true)) => (fc ρ2).bind fun z ρ3 => R.ofO ρ3 ((gets ρ3 [y, z]).bind p')
    | some (.shr (.bool false)) => .ok (.shr (.bool false)) ρ2
    | _ => .fail) := by
  intro X W at_ σ ρ F H Q e q
  refine wE_of (pe_chain op_w op_w pe_w pe_w pe_w hm) (sa X W at_ σ ρ F H _ e (q.split.mono fun x ρ1 F1 H1 g1 q1 v r => ?_))
  refine sb X W at_ σ ρ1 F1 H1 _ g1.env (q1.split.mono fun y ρ2 F2 H2 g2 q2 u r' => ?_)
  have g12 := g1.trans g2
  have ops : OpsOk Z.K F2 σ [v, u] [x, y] := .cons (r.mono g2.fw.fsub) (.cons r' .nil)
  split at q2
  · rename_i hg
    refine bool_pure (P X at_.ok) g12 ops hg fun F' H' w x' ro => ⟨true, ro.isBl, ?_⟩
    rw [if_pos rfl]
    have g3 := Go.ext g12.env x'
    refine sc X W at_ σ ρ2 F' H' _ g3.env ((After.from g3 q2).split.mono fun z ρ4 F4 H4 g4 q4 t rt => ?_)
    exact After.pure (P' X at_.ok) ((g12.trans g3).trans g4) (.cons (r'.mono ((Same.trans x'.fsub g4.fw.fsub))) (.cons rt .nil)) q4
  · rename_i hg
    refine bool_pure (P X at_.ok) g12 ops hg fun F' H' w x' ro => ⟨false, ro.isBl, ?_⟩
    rw [if_neg Bool.false_ne_true]
    exact okExt g12.env q2 x' (.bl false) (.bl false)
  · exact q2.elim
/-! ### tests -/
theorem st_not {e : Expr} {pos : Pos} {f : Sl → R Bool} (s : ST Z g h e f) : ST Z g h (.UnaryOp .Not e pos) (fun ρ => (f ρ).bind fun b ρ' => .ok (!b) ρ') := by
  intro X W a σ ρ F H Q e q
  exact wT_of (pt_not pt_w) (s X W a σ ρ F H _ e (q.split.mono fun b ρ1 F1 H1 g1 q1 => q1.here g1.env))
theorem st_one {a : Expr} {op : BoolOp} {pos : Pos} {fa : Sl → R Bool} (sa : ST Z g h a fa) : ST Z g h (.BoolOp op [a] pos) fa := by
  intro X W at_ σ ρ F H Q e q
  cases op
  · exact wT_of (pw_and1 pt_w).pt (sa X W at_ σ ρ F H Q e q)
  · exact wT_of (pw_or1 pt_w).pt (sa X W at_ σ ρ F H Q e q)
/-- a test, whatever its whole is -/
def SW (Z : Fix) (g : Sta) (h : List Calls) (e : Expr) (f : Sl → R Bool) : Prop := ∀ X W, At Z g h W X → ∀ σ ρ F H Q, SEnv Z.K Z.T F H ρ σ →
  After Z.K Z.T (exC Z) W σ ρ F H (fun b _ _ H' => Q b H') (f ρ) → ∃ t, PW X e t ∧ t σ H Q
/-- the weakest, whatever the whole is -/
def wW (X : Cx) (e : Expr) (σ : Sg) (H : Hp) (Q : Bool → Hp → Prop) : Prop := ∀ whole pins s, Inv X pins σ H s → wpAny (model X.prog X.w) X.A (isTrue e X.env whole) (TP X pins σ Q) X.xe s
theorem pw_w {X : Cx} {e : Expr} : PW X e (wW X e) := ⟨fun whole pins s _ _ _ I h => h whole pins s I⟩
theorem wW_of {X : Cx} {e : Expr} {t : TT} {σ : Sg} {H : Hp} {Q : Bool → Hp → Prop} (h : PW X e t) (q : t σ H Q) : wW X e σ H Q := fun whole pins s I => h.run whole pins s σ H Q I q
def SWt (Z : Fix) (g : Sta) (h : List Calls) (e : Expr) (f : Sl → R Bool) : Prop := ∀ X W, At Z g h W X → ∀ σ ρ F H Q, SEnv Z.K Z.T F H ρ σ →
  After Z.K Z.T (exC Z) W σ ρ F H (fun b _ _ H' => Q b H') (f ρ) → wW X e σ H Q
theorem SWt.st {e : Expr} {f : Sl → R Bool} (s : SWt Z g h e f) : ST Z g h e f := fun X W a σ ρ F H Q e q => fun pins s' I => s X W a σ ρ F H Q e q _ pins s' I
theorem sw_one {a : Expr} {op : BoolOp} {pos : Pos} {fa : Sl → R Bool} (sa : ST Z g h a fa) : SWt Z g h (.BoolOp op [a] pos) fa := by
  intro X W at_ σ ρ F H Q e q
  cases op
  · exact wW_of (pw_and1 pt_w) (sa X W at_ σ ρ F H Q e q)
  · exact wW_of (pw_or1 pt_w) (sa X W at_ σ ρ F H Q e q)
theorem sw_and {a b : Expr} {rest : List Expr} {pos : Pos} {fa fb : Sl → R Bool} (sa : ST Z g h a fa) (sb : SWt Z g h (.BoolOp .And (b :: rest) pos) fb) :
    SWt Z g h (.BoolOp .And (a :: b :: rest) pos) (fun ρ => (fa ρ).bind fun c ρ' => if c then fb ρ' else .ok false ρ') := by
  intro X W at_ σ ρ F H Q e q
  refine wW_of (pw_and pt_w pw_w) (sa X W at_ σ ρ F H _ e (q.split.mono fun c ρ1 F1 H1 g1 q1 => ?_))
  cases c with
  | true => rw [if_pos rfl] at q1 ⊢; exact sb X W at_ σ ρ1 F1 H1 Q g1.env q1
  | false => rw [if_neg Bool.false_ne_true] at q1 ⊢; exact q1.here g1.env
theorem sw_or {a b : Expr} {rest : List Expr} {pos : Pos} {fa fb : Sl → R Bool} (sa : ST Z g h a fa) (sb : SWt Z g h (.BoolOp .Or (b :: rest) pos) fb) :
    SWt Z g h (.BoolOp .Or (a :: b :: rest) pos) (fun ρ => (fa ρ).bind fun c ρ' => if c then .ok true ρ' else fb ρ') := by
  intro X W at_ σ ρ F H Q e q
  refine wW_of (pw_or pt_w pw_w) (sa X W at_ σ ρ F H _ e (q.split.mono fun c ρ1 F1 H1 g1 q1 => ?_))
  cases c with
  | true => rw [if_pos rfl] at q1 ⊢; exact q1.here g1.env
  | false => rw [if_neg Bool.false_ne_true] at q1 ⊢; exact sb X W at_ σ ρ1 F1 H1 Q g1.env q1
theorem st_cmp {a b : Expr} {op : CmpOp} {pos : Pos} {p : List D → Option RV} {fa fb : Sl → R Opr} (sa : SO Z g h a fa) (sb : SO Z g h b fb) (hm : behindInMarks op b = false) (P : ∀ X, Xok Z.K X → Pure Z.K Z.T p (w2 X (compareOp op))) :
    ST Z g h (.Compare a [op] [b] pos) (fun ρ => (fa ρ).bind fun x ρ1 => (fb ρ1).bind fun y ρ2 => match (gets ρ2 [x, y]).bind p with
    | some (.shr (.bool c)) => .ok c ρ2
    | _ => .fail) := by
  intro X W at_ σ ρ F H Q e q
  refine wT_of (pt_cmpR op_w pe_w pe_w hm) ?_
  refine sa X W at_ σ ρ F H _ e (q.split.mono fun x ρ1 F1 H1 g1 q1 v r => ?_)
  refine sb X W at_ σ ρ1 F1 H1 _ g1.env (q1.split.mono fun y ρ2 F2 H2 g2 q2 u r' => ?_)
  split at q2
  · rename_i hg
    exact bool_pure (P X at_.ok) (g1.trans g2) (.cons (r.mono g2.fw.fsub) (.cons r' .nil)) hg fun F' H' w x' ro => ⟨_, ro.isBl, q2 F' H' (Go.ext g2.env x')⟩
  · exact q2.elim
theorem st_chain {a b c : Expr} {op op' : CmpOp} {p p' : List D → Option RV} {pos : Pos} {fa fb fc : Sl → R Opr} (sa : SO Z g h a fa) (sb : SO Z g h b fb) (sc : SO Z g h c fc)
    (P : ∀ X, Xok Z.K X → Pure Z.K Z.T p (w2 X (compareOp op))) (P' : ∀ X, Xok Z.K X → Pure Z.K Z.T p' (w2 X (compareOp op'))) (hm : lastMarks [op, op'] [b, c] = false) :
    ST Z g h (.Compare a [op, op'] [b, c] pos) (fun ρ => (fa ρ).bind fun x ρ1 => (fb ρ1).bind fun y ρ2 => match (gets ρ2 [x, y]).bind p with
    | some (.shr (.bool true)) => (fc ρ2).bind fun z ρ3 => match (gets ρ3 [y, z]).bind p' with
      | some (.shr (.bool r)) => .ok r ρ3
      | _ => .fail
    | some (.shr (.bool false)) => .ok false ρ2
    | _ => .fail) := by
  intro X W at_ σ ρ F H Q e q
  refine wT_of (pt_chain op_w op_w pe_w pe_w pe_w hm) ?_
  refine sa X W at_ σ ρ F H _ e (q.split.mono fun x ρ1 F1 H1 g1 q1 v r => ?_)
  refine sb X W at_ σ ρ1 F1 H1 _ g1.env (q1.split.mono fun y ρ2 F2 H2 g2 q2 u r' => ?_)
  have g12 := g1.trans g2
  have ops : OpsOk Z.K F2 σ [v, u] [x, y] := .cons (r.mono g2.fw.fsub) (.cons r' .nil)
  split at q2
  · rename_i hg
    refine bool_pure (P X at_.ok) g12 ops hg fun F' H' w x' ro => ⟨true, ro.isBl, ?_⟩
    rw [if_pos rfl]
    have g3 := Go.ext g12.env x'
    refine sc X W at_ σ ρ2 F' H' _ g3.env ((After.from g3 q2).split.mono fun z ρ4 F4 H4 g4 q4 t rt => ?_)
    split at q4
    · rename_i hg'
      exact bool_pure (P' X at_.ok) ((g12.trans g3).trans g4) (.cons (r'.mono ((Same.trans x'.fsub g4.fw.fsub))) (.cons rt .nil)) hg' fun F5 H5 w' x5 ro5 => ⟨_, ro5.isBl, q4 F5 H5 (Go.ext g4.env x5)⟩
    · exact q4.elim
  · rename_i hg
    refine bool_pure (P X at_.ok) g12 ops hg fun F' H' w x' ro => ⟨false, ro.isBl, ?_⟩
    rw [if_neg Bool.false_ne_true]
    exact ⟨false, rfl, q2 F' H' (Go.ext g12.env x')⟩
  · exact q2.elim
/-- truth -/
theorem tru_of {v : V} {d : D} {b : Bool} (a : Xok K X) (s : Same F H) (r : Rq K F H v d) (hb : truth d = some b) :
    ∀ (pins : List (Addr × Obj)) (sh : Shared) (u : Value) (Q : Bool → Shared → Prop), Inv X pins σ H sh → RelV v u → (∀ s', Inv X pins σ H s' → Q b s') → wpAny (model X.prog X.w) X.A (truthy u) Q X.xe sh := by
  intro pins sh u Q I ru k
  have hK := a.K
  subst hK
  cases d with
  | dict kvs =>
    rw [truth] at hb
    split at hb
    · cases hb
    · rename_i n
      cases hb
      have ns : isScr kvs = false := by simpa using n
      obtain ⟨l, ks, rfl, hd, rk⟩ := r.dic ns s
      obtain rfl : u = Value.ref l := ru
      have e : (!ks.isEmpty) = (!kvs.isEmpty) := by cases rk <;> rfl
      rw [← e] at k
      exact d_truth I hd k
  | list xs =>
    cases hb
    obtain ⟨l, ys, rfl, hl, rx⟩ := r.lst s
    have e : (!ys.isEmpty) = (!xs.isEmpty) := by cases rx <;> rfl
    rw [← e] at k
    refine thn (tru_ok pins sh σ H _ _ (fun b' H' => b' = (!ys.isEmpty) ∧ H' = H) I ru ⟨_, .inl ⟨ys, .inl (.inl hl), rfl⟩, rfl, rfl⟩) fun b' s' ⟨H', I', e1, e2⟩ => ?_
    subst e1 e2
    exact k s' I'
  | tuple xs =>
    cases hb
    obtain ⟨l, ys, rfl, hl, rx⟩ := r.tup s
    have e : (!ys.isEmpty) = (!xs.isEmpty) := by cases rx <;> rfl
    rw [← e] at k
    refine thn (tru_ok pins sh σ H _ _ (fun b' H' => b' = (!ys.isEmpty) ∧ H' = H) I ru ⟨_, .inr (.inl ⟨ys, hl, rfl⟩), rfl, rfl⟩) fun b' s' ⟨H', I', e1, e2⟩ => ?_
    subst e1 e2
    exact k s' I'
  | none =>
    cases hb
    rw [r.non] at ru
    refine thn (tru_ok pins sh σ H _ _ (fun b' H' => b' = false ∧ H' = H) I ru ⟨_, rfl, rfl, rfl⟩) fun b' s' ⟨H', I', e1, e2⟩ => ?_
    subst e1 e2
    exact k s' I'
  | bool c =>
    cases hb
    rw [r.bl] at ru
    refine thn (tru_ok pins sh σ H _ _ (fun b' H' => b' = b ∧ H' = H) I ru ⟨_, rfl, rfl, rfl⟩) fun b' s' ⟨H', I', e1, e2⟩ => ?_
    subst e1 e2
    exact k s' I'
  | int i =>
    cases hb
    rw [r.int] at ru
    refine thn (tru_ok pins sh σ H _ _ (fun b' H' => b' = (i != 0) ∧ H' = H) I ru ⟨_, rfl, rfl, rfl⟩) fun b' s' ⟨H', I', e1, e2⟩ => ?_
    subst e1 e2
    exact k s' I'
  | str x =>
    rw [truth] at hb
    split at hb <;> cases hb
    rename_i hz
    rw [r.str] at ru
    have e : ((x.length : Int) != 0) = (!x.cps.isEmpty) := by
      show ((x.cps.size : Int) != 0) = _
      cases q : x.cps.isEmpty <;> simp_all [Array.isEmpty]
    rw [← e] at k
    refine thn (tru_ok pins sh σ H _ _ (fun b' H' => b' = ((x.length : Int) != 0) ∧ H' = H) I ru ⟨_, ⟨by rw [sizeLine_eq]; exact hz, rfl⟩, rfl, rfl⟩) fun b' s' ⟨H', I', e1, e2⟩ => ?_
    subst e1 e2
    exact k s' I'
end Ev
end
section
set_option Elab.async false
set_option linter.all false
set_option maxRecDepth 100000
/-! Truth of a value, slices, reversed, ranges, dicts. -/
namespace Ev
open PySem PySem.Spec PyProof.Rows L2
variable {Z : Fix} {g : Sta} {h : List Calls} {K : PySem.W.Frag} {F F' F1 F2 H H' H1 H2 : Hp} {T : List Addr} {σ σ' : Sg} {ρ ρ' ρ1 ρ2 : Sl} {W : WX} {X : Cx}
/-- an expression whose truth is that of its value -/
def isVal : Expr → Bool
  | .UnaryOp .Not _ _ => false
  | .BoolOp .. => false
  | .IfExp .. => false
  | .Compare .. => false
  | _ => true
theorem isVal_true {e : Expr} (n : isVal e = true) (env : Env) (whole : Sem Value) : isTrue e env whole = (do let v ← whole; standAt e.pos; holding [v] (truthy v)) := by
  cases e with
  | UnaryOp op x p => cases op <;> first | rfl | exact absurd n (by simp [isVal])
  | BoolOp => exact absurd n (by simp [isVal])
  | IfExp => exact absurd n (by simp [isVal])
  | Compare => exact absurd n (by simp [isVal])
  | _ => rfl
theorem st_val {e : Expr} {f : Sl → R Opr} (s : SO Z g h e f) (n : isVal e = true) : ST Z g h e (fun ρ => (f ρ).bind fun o ρ' => R.ofO ρ' ((o.get ρ').bind truth)) := by
  intro X W a σ ρ F H Q e0 q pins sh I
  rw [isVal_true n]
  refine wpAny_bind (thn (s X W a σ ρ F H (fun v H' => ∀ pins sh u, Inv X pins σ H' sh → RelV v u → wpAny (model X.prog X.w) X.A (truthy u) (TP X pins σ Q) X.xe sh) e0 (q.split.mono fun o ρ1 F1 H1 g1 q1 v r pins sh u I1 ru => ?_) pins sh I) fun u s1 ⟨v, H1, I1, r1, q1⟩ => wpAny_bind (wpAny_standAt (wpAny_holding (q1 pins s1 u I1 r1))))
  cases hg : o.get ρ1 with
  | none => rw [hg] at q1; exact q1.elim
  | some d =>
    rw [hg] at q1
    change After _ _ _ _ _ _ _ _ _ (R.ofO ρ1 (truth d)) at q1
    cases ht : truth d with
    | none => rw [ht] at q1; exact q1.elim
    | some b =>
      rw [ht] at q1
      exact tru_of a.ok g1.env.sub (r.get g1.env hg) ht pins sh u _ I1 ru fun s' I' => ⟨H1, I', q1.here g1.env⟩
/-! ### slices -/
def SI (Z : Fix) (g : Sta) (h : List Calls) (e : Option Expr) (f : Sl → R (Option Int)) : Prop := ∀ X W, At Z g h W X → ∃ t, PO X e t ∧ ∀ σ ρ F H Q, SEnv Z.K Z.T F H ρ σ →
  After Z.K Z.T (exC Z) W σ ρ F H (fun b _ _ H' => Q b H') (f ρ) → t σ H Q
theorem si_none : SI Z g h none (fun ρ => .ok none ρ) := fun X W a => ⟨_, po_none, fun σ ρ F H Q e q => q.here e⟩
theorem si_some {e : Expr} {f : Sl → R RV} (s : SE Z g h e f) : SI Z g h (some e) (fun ρ => (f ρ).bind fun v ρ' => match v with
    | .shr (.int i) => .ok (some i) ρ'
    | _ => .fail) := by
  intro X W a
  refine ⟨_, po_some pe_w, fun σ ρ F H Q e0 q => s X W a σ ρ F H _ e0 (q.split.mono fun rv ρ1 F1 H1 g1 q1 v r => ?_)⟩
  split at q1
  · exact ⟨_, r.isIn, q1.here g1.env⟩
  · exact q1.elim
theorem six_eq (n d : Nat) (o : Option Int) : six n d o = HT.sIx n d o := by
  cases o with
  | none => rfl
  | some v =>
    unfold six HT.sIx
    by_cases hv : v < 0
    · simp [hv]
    · simp [hv]
theorem cut_rp {xs : List V} {ds : List D} (r : RpA K F xs ds) (lo hi : Option Int) : RpA K F (cutV xs lo hi) (cut ds lo hi) := by
  unfold cutV cut
  rw [six_eq, six_eq, r.length]
  exact (r.drop _).take _
theorem cut_whole {ds : List D} {lo hi : Option Int} (h : HT.sIx ds.length 0 lo = 0 ∧ HT.sIx ds.length ds.length hi = ds.length) : cut ds lo hi = ds := by
  unfold cut
  rw [six_eq, six_eq, h.1, h.2]
  simp
theorem se_slice {e : Expr} {lo hi : Option Expr} {p2 pos : Pos} {f : Sl → R Opr} {fl fh : Sl → R (Option Int)} (s : SO Z g h e f) (sl : SI Z g h lo fl) (sh : SI Z g h hi fh) :
    SE Z g h (.Subscript e (.Slice lo hi none p2) pos) (fun ρ => (f ρ).bind fun o ρ1 => (fl ρ1).bind fun l ρ2 => (fh ρ2).bind fun u ρ3 => match o.get ρ3 with
    | some (.list xs) => .ok (.own (.list (cut xs l u))) ρ3
    | some (.tuple xs) => .ok (.shr (.tuple (cut xs l u))) ρ3
    | _ => .fail) := by
  intro X W a σ ρ F H Q e0 q
  have hK := a.K
  obtain ⟨tl, pl, kl⟩ := sl X W a
  obtain ⟨th, ph, kh⟩ := sh X W a
  refine wE_of (pe_slice (sl_list.or sl_tupA) pe_w pl ph) (s X W a σ ρ F H _ e0 (q.split.mono fun o ρ1 F1 H1 g1 q1 v r => ?_))
  refine kl σ ρ1 F1 H1 _ g1.env (q1.split.mono fun l ρ2 F2 H2 g2 q2 => ?_)
  refine kh σ ρ2 F2 H2 _ g2.env (q2.split.mono fun u ρ3 F3 H3 g3 q3 => ?_)
  have go := (g1.trans g2).trans g3
  have r3 := (r.mono (g2.fw.fsub.trans g3.fw.fsub))
  split at q3
  · rename_i xs hg
    obtain ⟨b, ys, rfl, hl, rx⟩ := (r3.get go.env hg).lst go.env.sub
    refine .inl ⟨b, ys, rfl, .inl (.inl hl), fun p n => ?_⟩
    have n0 : H p = none := by
      cases w : H p with
      | none => rfl
      | some u => obtain ⟨_, z⟩ := go.fw.stay _ _ w; rw [n] at z; cases z
    exact okExt go.env q3 (Ext.own (o := .lst _) go.env.sub n) _ ⟨p, rfl, free_of go.env.sub n, fun z => go.env.tabs p z n, n0, _, upd_same, cut_rp rx l u⟩
  · rename_i xs hg
    have rt := (r3.get go.env hg).tupR
    obtain ⟨b, ys, rfl, hl, rx⟩ := (r3.get go.env hg).tup go.env.sub
    refine .inr ⟨b, ys, rfl, by rw [hK]; exact hl, fun z => ?_, fun _ p n => ?_⟩
    · rw [rx.length] at z
      rw [cut_whole z] at q3
      exact q3.here go.env _ rt
    · have x := Ext.shr (o := .tup (cutV ys l u)) go.env.sub n
      exact okExt go.env q3 x _ (.tup (.inl upd_same) ((cut_rp rx l u).mono x.fsub))
  · exact q3.elim
/-! ### list(reversed(x)) -/
theorem se_revl {e : Expr} {p1 p2 pos pos2 : Pos} {f : Sl → R Opr} (hb : blt g "list" = true) (hb2 : blt g "reversed" = true) (s : SO Z g h e f) (n : ∀ x p, e ≠ .Starred x p) :
    SE Z g h (.Call (.Name "list" p1) [.Call (.Name "reversed" p2) [e] [] pos2] [] pos) (fun ρ => (f ρ).bind fun x ρ1 => R.ofO ρ1 ((gets ρ1 [x]).bind opRevl)) := by
  intro X W a σ ρ F H Q e0 q
  obtain ⟨h1, h2, h3, h4⟩ := blt_some hb a
  obtain ⟨k1, k2, k3, k4⟩ := blt_some hb2 a
  refine wE_of (pe_lstRev a.calm h1 h2 k1 k2 pe_w (star_ok n _ _)) (s X W a σ ρ F H _ e0 (q.split.mono fun x ρ1 F1 H1 g1 q1 v r => ?_))
  cases hg : gets ρ1 [x] with
  | none => rw [hg] at q1; exact q1.elim
  | some ds =>
    rw [hg] at q1
    change After _ _ _ _ _ _ _ _ _ (R.ofO ρ1 (opRevl ds)) at q1
    have ra := (OpsOk.cons r .nil).gets g1.env hg
    unfold opRevl at q1
    split at q1
    · obtain ⟨_, e1, ra⟩ := one ra
      cases e1
      obtain ⟨b, ys, rfl, hl, rx⟩ := ra.lst g1.env.sub
      refine ⟨b, ys, rfl, .inl (.inl hl), fun p n => ?_⟩
      have n0 : H p = none := by
        cases w : H p with
        | none => rfl
        | some u => obtain ⟨_, z⟩ := g1.fw.stay _ _ w; rw [n] at z; cases z
      exact okExt g1.env q1 (Ext.own (o := .lst _) g1.env.sub n) _ ⟨p, rfl, free_of g1.env.sub n, fun z => g1.env.tabs p z n, n0, _, upd_same, rx.reverse⟩
    · exact q1.elim
/-! ### tuple(range(n)), list(range(n)) -/
theorem rangeL_get (i : Int) : ∀ (n j : Nat), (rangeL i n)[j]? = if j < n then some (.int (i + (j : Int))) else none := by
  intro n
  induction n generalizing i with
  | zero => intro j; rfl
  | succ n ih =>
    intro j
    cases j with
    | zero => simp [rangeL]
    | succ j =>
      rw [rangeL, List.getElem?_cons_succ, ih]
      by_cases h : j < n
      · rw [if_pos h, if_pos (by omega)]
        have : i + 1 + (j : Int) = i + ((j + 1 : Nat) : Int) := by omega
        rw [this]
      · rw [if_neg h, if_neg (by omega)]
theorem rangeL_len (i : Int) (n : Nat) : (rangeL i n).length = n := by
  induction n generalizing i with
  | zero => rfl
  | succ n ih => rw [rangeL, List.length_cons, ih]
theorem rangeL_eq (i : Int) (n : Nat) : rangeL i n = (List.range n).map fun j => .int (i + (j : Int)) := by
  apply List.ext_getElem?
  intro j
  rw [rangeL_get, List.getElem?_map]
  by_cases h : j < n
  · rw [if_pos h, List.getElem?_range h]; rfl
  · rw [if_neg h, List.getElem?_eq_none (by simpa using h)]; rfl
theorem rpA_map (f : Nat → Int) : ∀ l : List Nat, RpA K F (l.map fun j => V.int (f j)) (l.map fun j => .int (f j))
  | [] => .nil
  | _ :: r => .cons (.int _) (rpA_map f r)
theorem rg_rp (j : Int) : RpA K F (rgV 0 j) (rangeL 0 j.toNat) := by
  unfold rgV
  rw [rangeL_eq, Int.sub_zero]
  exact rpA_map (fun k => 0 + (k : Int)) _
theorem se_rng1 {e : Expr} {f1 : Str} {p1 p2 pos pos2 : Pos} {f : Sl → R Opr} (hb2 : blt g "range" = true) (s : SO Z g h e f) (n : ∀ x p, e ≠ .Starred x p) (tup : Bool) (hf : f1 = if tup then "tuple" else "list") (hb : blt g f1 = true) :
    SE Z g h (.Call (.Name f1 p1) [.Call (.Name "range" p2) [e] [] pos2] [] pos) (fun ρ => (f ρ).bind fun x ρ1 => R.ofO ρ1 ((gets ρ1 [x]).bind (if tup then opTupr1 else opListr1))) := by
  intro X W a σ ρ F H Q e0 q
  obtain ⟨h1, h2, h3, h4⟩ := blt_some hb a
  obtain ⟨k1, k2, k3, k4⟩ := blt_some hb2 a
  cases tup with
  | true =>
    subst hf
    refine wE_of (pe_tupRg a.calm h1 h2 (prg_1 k1 k2 pe_w (star_ok n _ _))) (s X W a σ ρ F H _ e0 (q.split.mono fun x ρ1 F1 H1 g1 q1 v r => ?_))
    cases hg : gets ρ1 [x] with
    | none => rw [hg] at q1; exact q1.elim
    | some ds =>
      rw [hg] at q1
      change After _ _ _ _ _ _ _ _ _ (R.ofO ρ1 (opTupr1 ds)) at q1
      have ra := (OpsOk.cons r .nil).gets g1.env hg
      unfold opTupr1 at q1
      split at q1
      · rename_i i
        obtain ⟨_, e1, ra⟩ := one ra
        cases e1
        unfold b2o at q1
        split at q1
        · rename_i z
          rw [Bool.and_eq_true] at z
          have z1 := of_decide_eq_true z.1
          have z2 := of_decide_eq_true z.2
          refine ⟨_, ra.int, RgOk.of_le (by omega) (by omega) (by omega) z1, fun p n => ?_⟩
          have x := Ext.shr (o := .tup (rgV 0 i)) g1.env.sub n
          exact okExt g1.env q1 x _ (.tup (.inl upd_same) (rg_rp _))
        · exact q1.elim
      · exact q1.elim
  | false =>
    subst hf
    refine wE_of (pe_listRg a.calm h1 h2 (prg_1 k1 k2 pe_w (star_ok n _ _))) (s X W a σ ρ F H _ e0 (q.split.mono fun x ρ1 F1 H1 g1 q1 v r => ?_))
    cases hg : gets ρ1 [x] with
    | none => rw [hg] at q1; exact q1.elim
    | some ds =>
      rw [hg] at q1
      change After _ _ _ _ _ _ _ _ _ (R.ofO ρ1 (opListr1 ds)) at q1
      have ra := (OpsOk.cons r .nil).gets g1.env hg
      unfold opListr1 at q1
      split at q1
      · rename_i i
        obtain ⟨_, e1, ra⟩ := one ra
        cases e1
        unfold b2o at q1
        split at q1
        · rename_i z
          rw [Bool.and_eq_true] at z
          have z1 := of_decide_eq_true z.1
          have z2 := of_decide_eq_true z.2
          refine ⟨_, ra.int, RgOk.of_le (by omega) (by omega) (by omega) z1, fun p n => ?_⟩
          have n0 : H p = none := by
            cases w : H p with
            | none => rfl
            | some u => obtain ⟨_, z⟩ := g1.fw.stay _ _ w; rw [n] at z; cases z
          exact okExt g1.env q1 (Ext.own (o := .lst _) g1.env.sub n) _ ⟨p, rfl, free_of g1.env.sub n, fun z => g1.env.tabs p z n, n0, _, upd_same, rg_rp _⟩
        · exact q1.elim
      · exact q1.elim
/-- {} -/
theorem se_dic0 {pos : Pos} : SE Z g h (.Dict [] [] pos) (fun ρ => .ok (.own (.dict [])) ρ) := by
  intro X W a σ ρ F H Q e q
  exact wE_of pe_dnewK fun p n => okExt e q (Ext.own (o := .dK []) e.sub n) _ ⟨p, rfl, free_of e.sub n, fun z => e.tabs p z n, n, [], upd_same, .nil⟩
end Ev
end
section
set_option Elab.async false
set_option linter.all false
set_option maxRecDepth 100000
/-! A call of a def of the text. -/
namespace Ev
open PySem PySem.Spec PyProof.Rows L2
variable {Z : Fix} {g : Sta} {h : List Calls} {K : PySem.W.Frag} {F F' F1 F2 H H' H1 H2 : Hp} {T : List Addr} {σ σ' : Sg} {ρ ρ' ρ1 ρ2 : Sl} {W : WX} {X : Cx}
/-- how the operands, the parameters' slots and the caller's slots hang together -/
inductive Lnk (ρ1 ρ2 : Sl) : List Opr → List D → Sl → List D → Sl → Prop
  | nil : Lnk ρ1 ρ2 [] [] [] [] []
  | val {d : D} {os : List Opr} {ds : List D} {m : Sl} {outs : List D} {m' : Sl} : Lnk ρ1 ρ2 os ds m outs m' → Lnk ρ1 ρ2 (.val d :: os) (d :: ds) (.shr d :: m) outs (.shr d :: m')
  | slot {i : Nat} {io : Bool} {d d' : D} {os : List Opr} {ds : List D} {m : Sl} {outs : List D} {m' : Sl} : getS ρ1 i = .hld io false d → getS ρ2 i = .hld io false d' → Lnk ρ1 ρ2 os ds m outs m' →
      Lnk ρ1 ρ2 (.slot i :: os) (d :: ds) (.hld true false d :: m) (d' :: outs) (.hld true false d' :: m')
theorem putOuts_spec : ∀ {is : List Nat} {outs : List D} {ρ ρ2 : Sl}, putOuts ρ is outs = some ρ2 → is.Nodup → (∀ i, i ∉ is → getS ρ2 i = getS ρ i) ∧ ρ2.length = ρ.length ∧ outs.length = is.length ∧
    (∀ (j i : Nat), is[j]? = some i → ∃ io d d', getS ρ i = .hld io false d ∧ outs[j]? = some d' ∧ getS ρ2 i = .hld io false d')
  | [], [], ρ, ρ2, h, _ => by cases h; exact ⟨fun _ _ => rfl, rfl, rfl, fun j i e => by simp at e⟩
  | [], _ :: _, ρ, ρ2, h, _ => by cases h
  | _ :: _, [], ρ, ρ2, h, _ => by cases h
  | i :: is, d' :: outs, ρ, ρ2, h, nd => by
    rw [putOuts] at h
    rw [List.nodup_cons] at nd
    split at h
    · rename_i io d hi
      have li : i < ρ.length := getS_lt (by rw [hi]; exact fun z => nomatch z)
      obtain ⟨h1, h2, h3, h4⟩ := putOuts_spec h nd.2
      refine ⟨fun k hk => ?_, by rw [h2, List.length_set], by rw [List.length_cons, List.length_cons, h3], fun j k e => ?_⟩
      · rw [List.mem_cons, not_or] at hk
        rw [h1 k hk.2, getS_ne (Ne.symm hk.1)]
      · cases j with
        | zero =>
          have e : i = k := by simpa using e
          subst e
          exact ⟨io, d, d', hi, rfl, by rw [h1 i nd.1, getS_self li]⟩
        | succ j =>
          have e : is[j]? = some k := by simpa using e
          obtain ⟨io', x, y, e1, e2, e3⟩ := h4 j k e
          have ne : i ≠ k := fun z => nd.1 (by rw [z]; exact List.mem_of_getElem? e)
          rw [getS_ne ne] at e1
          exact ⟨io', x, y, e1, e2, e3⟩
    · cases h
theorem lnk_of {ρ1 ρ2 : Sl} : ∀ {os : List Opr} {ds outs : List D} {m : Sl}, gets ρ1 os = some ds → parS (maskOf os) ds = some m → outs.length = (slotsOf os).length →
    (∀ (j i : Nat), (slotsOf os)[j]? = some i → ∃ io d d', getS ρ1 i = .hld io false d ∧ outs[j]? = some d' ∧ getS ρ2 i = .hld io false d') → ∃ m', outS m outs = some m' ∧ Lnk ρ1 ρ2 os ds m outs m'
  | [], ds, outs, m, hg, hp, hl, _ => by
    cases hg
    cases hp
    cases outs with
    | nil => exact ⟨[], rfl, .nil⟩
    | cons => cases hl
  | .val d :: os, ds, outs, m, hg, hp, hl, hs => by
    rw [gets, Option.bind_eq_some_iff] at hg
    obtain ⟨d0, h1, h2⟩ := hg
    cases h1
    rw [Option.map_eq_some_iff] at h2
    obtain ⟨ds', h3, rfl⟩ := h2
    rw [maskOf, parS, Option.map_eq_some_iff] at hp
    obtain ⟨m0, h4, rfl⟩ := hp
    obtain ⟨m', h5, h6⟩ := lnk_of (outs := outs) h3 h4 hl hs
    refine ⟨.shr d :: m', ?_, .val h6⟩
    show Option.map _ (outS m0 outs) = _
    rw [h5]; rfl
  | .slot i :: os, ds, outs, m, hg, hp, hl, hs => by
    rw [gets, Option.bind_eq_some_iff] at hg
    obtain ⟨d0, h1, h2⟩ := hg
    rw [Option.map_eq_some_iff] at h2
    obtain ⟨ds', h3, rfl⟩ := h2
    rw [maskOf, parS, Option.map_eq_some_iff] at hp
    obtain ⟨m0, h4, rfl⟩ := hp
    obtain ⟨io, d, d', e1, e2, e3⟩ := hs 0 i rfl
    cases outs with
    | nil => cases hl
    | cons o outs =>
      have e2 : o = d' := by simpa using e2
      subst e2
      change (match getS ρ1 i with | .hld _ _ d => some d | _ => none) = some d0 at h1
      rw [e1] at h1
      cases h1
      obtain ⟨m', h5, h6⟩ := lnk_of (ρ1 := ρ1) (ρ2 := ρ2) (outs := outs) h3 h4 (by simpa [slotsOf] using hl) fun j k e => hs (j + 1) k (by simpa [slotsOf] using e)
      refine ⟨.hld true false o :: m', ?_, .slot e1 e3 h6⟩
      show Option.map _ (outS m0 outs) = _
      rw [h5]; rfl
theorem getS_zero {p : PV} : getS (p :: ρ) 0 = p := rfl
theorem getS_succ {p : PV} {j : Nat} : getS (p :: ρ) (j + 1) = getS ρ j := by unfold getS; rw [List.getElem?_cons_succ]
theorem stV_zero {v : V} {vs : List V} : stV ((v :: vs).map some) 0 = some v := rfl
theorem stV_succ {v : V} {vs : List V} {j : Nat} : stV ((v :: vs).map some) (j + 1) = stV (vs.map some) j := by unfold stV; rw [List.map_cons, List.getElem?_cons_succ]
theorem Lnk.par {os : List Opr} {ds outs : List D} {m m' : Sl} {vs : List V} (l : Lnk ρ1 ρ2 os ds m outs m') (o : OpsOk K F σ vs os) : m.length = vs.length ∧ m'.length = vs.length := by
  induction l generalizing vs with
  | nil => cases o; exact ⟨rfl, rfl⟩
  | val _ ih => cases o with | cons _ o => exact ⟨by rw [List.length_cons, List.length_cons, (ih o).1], by rw [List.length_cons, List.length_cons, (ih o).2]⟩
  | slot _ _ _ ih => cases o with | cons _ o => exact ⟨by rw [List.length_cons, List.length_cons, (ih o).1], by rw [List.length_cons, List.length_cons, (ih o).2]⟩
/-- a parameter's slot: a shared value, or a slot of the caller's -/
theorem Lnk.of {os : List Opr} {ds outs : List D} {m m' : Sl} {vs : List V} (l : Lnk ρ1 ρ2 os ds m outs m') (o : OpsOk K F σ vs os) (j : Nat) :
    (getS m j = .non ∧ getS m' j = .non) ∨ (∃ d v, getS m j = .shr d ∧ getS m' j = .shr d ∧ stV (vs.map some) j = some v ∧ Rp K F v d) ∨
      ∃ i io d d', i ∈ slotsOf os ∧ getS m j = .hld true false d ∧ getS m' j = .hld true false d' ∧ getS ρ1 i = .hld io false d ∧ getS ρ2 i = .hld io false d' ∧ stV (vs.map some) j = stV σ i ∧ os[j]? = some (.slot i) := by
  induction l generalizing vs j with
  | nil => exact .inl ⟨rfl, rfl⟩
  | val _ ih =>
    cases o with
    | cons a o =>
      cases j with
      | zero => exact .inr (.inl ⟨_, _, rfl, rfl, rfl, a⟩)
      | succ j => rw [getS_succ, getS_succ, stV_succ]; exact ih o j
  | slot e1 e2 _ ih =>
    cases o with
    | cons a o =>
      cases j with
      | zero => exact .inr (.inr ⟨_, _, _, _, List.mem_cons_self, rfl, rfl, e1, e2, (show stV σ _ = some _ from a).symm, rfl⟩)
      | succ j =>
        rw [getS_succ, getS_succ, stV_succ]
        rcases ih o j with x | x | ⟨i, io, d, d', x1, x2⟩
        · exact .inl x
        · exact .inr (.inl x)
        · exact .inr (.inr ⟨i, io, d, d', List.mem_cons_of_mem _ x1, by simpa using x2⟩)
theorem Lnk.to {os : List Opr} {ds outs : List D} {m m' : Sl} {vs : List V} (l : Lnk ρ1 ρ2 os ds m outs m') (o : OpsOk K F σ vs os) {i : Nat} (hi : i ∈ slotsOf os) :
    ∃ j io d d', getS m j = .hld true false d ∧ getS m' j = .hld true false d' ∧ getS ρ1 i = .hld io false d ∧ getS ρ2 i = .hld io false d' ∧ stV (vs.map some) j = stV σ i := by
  induction l generalizing vs with
  | nil => cases hi
  | val _ ih =>
    cases o with
    | cons a o =>
      obtain ⟨j, x⟩ := ih o hi
      refine ⟨j + 1, ?_⟩
      rw [getS_succ, getS_succ, stV_succ]; exact x
  | slot e1 e2 _ ih =>
    cases o with
    | cons a o =>
      rw [slotsOf, List.mem_cons] at hi
      rcases hi with rfl | hi
      · exact ⟨0, _, _, _, rfl, rfl, e1, e2, (show stV σ _ = some _ from a).symm⟩
      · obtain ⟨j, x⟩ := ih o hi
        refine ⟨j + 1, ?_⟩
        rw [getS_succ, getS_succ, stV_succ]; exact x
/-- the same slot is not handed in twice -/
theorem Lnk.once {os : List Opr} (nd : (slotsOf os).Nodup) : ∀ {j k i : Nat}, os[j]? = some (.slot i) → os[k]? = some (.slot i) → j = k := by
  induction os with
  | nil => intro j k i h; simp at h
  | cons o os ih =>
    have mem : ∀ {j i : Nat}, os[j]? = some (.slot i) → i ∈ slotsOf os := by
      clear ih nd
      induction os with
      | nil => intro j i h; simp at h
      | cons o os ih =>
        intro j i h
        cases j with
        | zero => simp at h; subst h; exact List.mem_cons_self
        | succ j =>
          have := ih (by simpa using h)
          cases o with
          | val d => exact this
          | slot k => exact List.mem_cons_of_mem _ this
    intro j k i hj hk
    cases o with
    | val d =>
      cases j with
      | zero => simp at hj
      | succ j =>
        cases k with
        | zero => simp at hk
        | succ k => exact congrArg Nat.succ (ih nd (i := i) (by simpa using hj) (by simpa using hk))
    | slot i0 =>
      rw [slotsOf, List.nodup_cons] at nd
      cases j with
      | zero =>
        cases k with
        | zero => rfl
        | succ k =>
          simp at hj
          subst hj
          exact absurd (mem (by simpa using hk)) nd.1
      | succ j =>
        cases k with
        | zero =>
          simp at hk
          subst hk
          exact absurd (mem (by simpa using hj)) nd.1
        | succ k => exact congrArg Nat.succ (ih nd.2 (i := i) (by simpa using hj) (by simpa using hk))
section
variable {os : List Opr} {ds outs : List D} {m m' : Sl} {vs : List V}
/-- the parameters' slots, at the call -/
theorem SEnv.pars (e : SEnv K T F H ρ1 σ) (l : Lnk ρ1 ρ2 os ds m outs m') (o : OpsOk K F σ vs os) (nd : (slotsOf os).Nodup) : SEnv K T F H m (vs.map some) := by
  have lp := (l.par o).1
  refine ⟨by rw [lp, List.length_map], e.sub, e.tabF, e.tabH, fun j => ?_, fun j k a hj hk => ?_⟩
  · rcases l.of o j with x | ⟨d, v, x1, _, x2, x3⟩ | ⟨i, io, d, d', _, x1, _, x2, _, x3, _⟩
    · rw [x.1]; trivial
    · rw [x1]; exact ⟨v, x2, x3⟩
    · rw [x1]
      obtain ⟨a, e1, f, t, q, _⟩ := e.at x2
      exact ⟨a, x3.trans e1, f, t, q⟩
  · obtain ⟨⟨p1, p2, p3, hj⟩, wj⟩ := hj
    obtain ⟨⟨q1, q2, q3, hk⟩, wk⟩ := hk
    rcases l.of o j with x | ⟨d, v, x1, _, x2, x3⟩ | ⟨i, io, d, d', _, x1, _, x2, _, x3, x4⟩
    · rw [x.1] at hj; cases hj
    · rw [x1] at hj; cases hj
    · rcases l.of o k with y | ⟨d, v, y1, _, y2, y3⟩ | ⟨i2, io2, d2, d2', _, y1, _, y2, _, y3, y4⟩
      · rw [y.1] at hk; cases hk
      · rw [y1] at hk; cases hk
      · have : i = i2 := e.apart i i2 a ⟨⟨_, _, _, x2⟩, x3.symm.trans wj⟩ ⟨⟨_, _, _, y2⟩, y3.symm.trans wk⟩
        subst this
        exact Lnk.once nd x4 y4
/-- behind the call -/
theorem Go.call (e : SEnv K T F H ρ1 σ) (l : Lnk ρ1 ρ2 os ds m outs m') (o : OpsOk K F σ vs os) (hl : ρ2.length = ρ1.length) (hs : ∀ i, i ∉ slotsOf os → getS ρ2 i = getS ρ1 i)
    (gm : Go K T (vs.map some) m F H m' F' H') : Go K T σ ρ1 F H ρ2 F' H' := by
  have sub : ∀ a, Own m (vs.map some) a → ∃ i ∈ slotsOf os, OA ρ1 σ i a := fun a ⟨j, ⟨p1, p2, p3, hj⟩, w⟩ => by
    rcases l.of o j with x | ⟨d, v, x1, _, x2, x3⟩ | ⟨i, io, d, d', x0, x1, _, x2, _, x3, x4⟩
    · rw [x.1] at hj; cases hj
    · rw [x1] at hj; cases hj
    · exact ⟨i, x0, ⟨_, _, _, x2⟩, x3.symm.trans w⟩
  have back : ∀ i a, OA ρ2 σ i a → OA ρ1 σ i a := fun i a ⟨⟨x, y, z, hz⟩, w⟩ => by
    by_cases hi : i ∈ slotsOf os
    · obtain ⟨j, io, d, d', _, _, e1, _⟩ := l.to o hi
      exact ⟨⟨_, _, _, e1⟩, w⟩
    · rw [hs i hi] at hz; exact ⟨⟨_, _, _, hz⟩, w⟩
  refine ⟨⟨gm.fw.fsub, fun a u ha na nt => gm.fw.keep a u ha (fun z => let ⟨i, _, w⟩ := sub a z; na ⟨i, w⟩) nt, gm.fw.stay, fun a u ha => (gm.fw.new a u ha).imp id (Or.imp id fun z => let ⟨i, _, w⟩ := sub a z; ⟨i, w⟩)⟩,
    ⟨hl.trans e.len, gm.env.sub, gm.env.tabF, gm.env.tabH, fun i => ?_, fun i k a hi hk => e.apart i k a (back i a hi) (back k a hk)⟩, fun a ⟨i, hi⟩ => ⟨i, back i a hi⟩, fun i io lk d hi hp => ?_⟩
  · by_cases hi : i ∈ slotsOf os
    · obtain ⟨j, io, d, d', _, e1, _, e2, e3⟩ := l.to o hi
      have s := gm.env.slot j
      rw [e1, e3] at s
      rw [e2]; exact s
    · rw [hs i hi]
      have s := e.slot i
      cases hp : getS ρ1 i with
      | non => trivial
      | shr d => rw [hp] at s; obtain ⟨v, e1, r⟩ := s; exact ⟨v, e1, r.mono gm.fw.fsub⟩
      | hld io lk d =>
        rw [hp] at s
        obtain ⟨a, e1, f, t, q⟩ := s
        have no : ¬ Own m (vs.map some) a := fun z => by
          obtain ⟨i', hi', w⟩ := sub a z
          have := e.apart i i' a ⟨⟨_, _, _, hp⟩, e1⟩ w
          subst this
          exact hi hi'
        obtain ⟨u, hu⟩ := q.some
        refine ⟨a, e1, ?_, t, q.mono gm.fw.fsub ((gm.fw.keep a u hu no t).trans hu.symm)⟩
        cases z : F' a with
        | none => rfl
        | some w =>
          rcases gm.fw.new a w z with y | y | y
          · rw [f] at y; cases y
          · rw [hu] at y; cases y
          · exact absurd y no
  · by_cases hm : i ∈ slotsOf os
    · obtain ⟨j, io', x, x', _, _, e1, e2, _⟩ := l.to o hm
      rw [e1] at hi
      cases hi
      exact ⟨x', e2, fun z => nomatch z⟩
    · exact ⟨d, by rw [hs i hm]; exact hi, fun _ => rfl⟩
end

/-- arguments of a def -/
def SCs (Z : Fix) (g : Sta) (h : List Calls) (m : List Bool) (es : List Expr) (f : Sl → R (List Opr)) : Prop := (∀ e ∈ es, ∀ x p, e ≠ .Starred x p) ∧ (∀ ρ os ρ', f ρ = .ok os ρ' → maskOf os = m) ∧ SOs Z g h es f
theorem sc_nil : SCs Z g h [] [] (fun ρ => .ok [] ρ) := ⟨fun e he => absurd he List.not_mem_nil, fun ρ os ρ' e => by cases e; rfl, sos_nil⟩
theorem sc_val {e : Expr} {es : List Expr} {m : List Bool} {f : Sl → R RV} {fs : Sl → R (List Opr)} (n : ∀ x p, e ≠ .Starred x p) (s : SE Z g h e f) (ss : SCs Z g h m es fs) :
    SCs Z g h (false :: m) (e :: es) (fun ρ => ((f ρ).bind fun v ρ' => .ok (.val v.d) ρ').bind fun o ρ' => (fs ρ').bind fun os ρ2 => .ok (o :: os) ρ2) := by
  refine ⟨fun e' he => ?_, fun ρ os ρ' q => ?_, sos_cons n (se_so s) ss.2.2⟩
  · rcases List.mem_cons.mp he with rfl | he
    · exact n
    · exact ss.1 e' he
  · cases h1 : f ρ with
    | fail => simp only [h1, R.bind] at q; cases q
    | exc c ρ1 => simp only [h1, R.bind] at q; cases q
    | ok v ρ1 =>
      simp only [h1] at q
      change ((fs ρ1).bind fun os ρ2 => R.ok (Opr.val v.d :: os) ρ2) = _ at q
      cases h2 : fs ρ1 with
      | fail => rw [h2] at q; cases q
      | exc c ρ1 => rw [h2] at q; cases q
      | ok os' ρ2 =>
        rw [h2] at q
        cases q
        rw [maskOf, ss.2.1 _ _ _ h2]
theorem sc_ref {x : Str} {pos : Pos} {i : Nat} {es : List Expr} {m : List Bool} {fs : Sl → R (List Opr)} (hs : slot g x = some i) (ss : SCs Z g h m es fs) :
    SCs Z g h (true :: m) (.Name x pos :: es) (fun ρ => (evC h (.ref i) ρ).bind fun o ρ' => (fs ρ').bind fun os ρ2 => .ok (o :: os) ρ2) := by
  refine ⟨fun e' he => ?_, fun ρ os ρ' q => ?_, sos_cons (fun _ _ z => by cases z) ?_ ss.2.2⟩
  · rcases List.mem_cons.mp he with rfl | he
    · exact fun _ _ z => by cases z
    · exact ss.1 e' he
  · unfold evC at q
    dsimp only at q
    split at q
    · change ((fs ρ).bind fun os ρ2 => R.ok (Opr.slot i :: os) ρ2) = _ at q
      cases h2 : fs ρ with
      | fail => rw [h2] at q; cases q
      | exc c ρ1 => rw [h2] at q; cases q
      | ok os' ρ2 =>
        rw [h2] at q
        cases q
        rw [maskOf, ss.2.1 _ _ _ h2]
    · cases q
  · intro X W a σ ρ F H Q e q
    obtain ⟨h1, h2, h3, h4⟩ := slot_some hs
    have pe : PE X (.Name x pos) (tVar i) := pe_var (by rw [a.nm]; exact h1) (by rw [a.sc]; exact h2) h3 h4
    unfold evC at q
    dsimp only at q
    split at q
    · rename_i hp
      obtain ⟨b, e1, _⟩ := e.at hp
      refine wE_of pe ⟨.ref b, ?_, q.here e _ e1⟩
      unfold stV at e1
      rwa [Option.join_eq_some_iff] at e1
    · exact q.elim
theorem parS_len : ∀ {bs : List Bool} {ds : List D} {m : Sl}, parS bs ds = some m → m.length = bs.length ∧ ds.length = bs.length
  | [], [], m, h => by cases h; exact ⟨rfl, rfl⟩
  | b :: bs, d :: ds, m, h => by
    rw [parS, Option.map_eq_some_iff] at h
    obtain ⟨r, h1, rfl⟩ := h
    obtain ⟨a, b⟩ := parS_len h1
    exact ⟨by rw [List.length_cons, List.length_cons, a], by rw [List.length_cons, List.length_cons, b]⟩
  | [], _ :: _, m, h => by cases h
  | _ :: _, [], m, h => by cases h
theorem parS_some : ∀ {os : List Opr} {ds : List D}, gets ρ os = some ds → ∃ m, parS (maskOf os) ds = some m
  | [], ds, h => by cases h; exact ⟨[], rfl⟩
  | o :: os, ds, h => by
    rw [gets, Option.bind_eq_some_iff] at h
    obtain ⟨d, h1, h2⟩ := h
    rw [Option.map_eq_some_iff] at h2
    obtain ⟨ds', h3, rfl⟩ := h2
    obtain ⟨m, h4⟩ := parS_some h3
    cases o with
    | val x => exact ⟨.shr d :: m, by rw [maskOf, parS, h4]; rfl⟩
    | slot i => exact ⟨.hld true false d :: m, by rw [maskOf, parS, h4]; rfl⟩
/-- a call, by its arguments -/
theorem call_core {k : Nat} {m : List Bool} {c : Calls} {t : List Calls} {e0 : Expr} {es : List Expr} {fs : Sl → R (List Opr)} (pe : ∀ X W, At Z g (c :: t) W X → PE X e0 (tCallSD (SpOf Z m (c k)) [] (WE W) (wA X es))) (hms : ∀ ρ os ρ', fs ρ = .ok os ρ' → maskOf os = m) (ss : SOs Z g (c :: t) es fs) :
    SE Z g (c :: t) e0 (fun ρ => (fs ρ).bind fun os ρ' => callV c k os ρ') := by
  intro X W a σ ρ F H Q e q
  refine wE_of (pe X W a) (ss X W a σ ρ F H _ e ?_)
  have q1 := q.split
  cases hq : fs ρ with
  | fail => simp only [hq] at q1; exact q1
  | exc c ρ' => simp only [hq] at q1; exact q1
  | ok os ρ1 =>
    simp only [hq] at q1
    have hmask := hms _ _ _ hq
    intro F1 H1 go vs rs
    have q2 := q1 F1 H1 go
    unfold callV at q2
    cases hds : gets ρ1 os with
    | none => simp only [hds] at q2; exact q2.elim
    | some ds =>
      simp only [hds] at q2
      split at q2
      · rename_i nd
        rw [List.append_nil]
        obtain ⟨pm, hpm⟩ := parS_some hds
        have hpm' := hpm
        rw [hmask] at hpm'
        cases hc : c k ds with
        | fail => rw [hc] at q2; exact q2.elim
        | exc y outs =>
          simp only [hc] at q2
          split at q2
          · rename_i ρ2 hpo
            obtain ⟨h1, h2, h3, h4⟩ := putOuts_spec hpo nd
            obtain ⟨m', h5, l⟩ := lnk_of (ρ2 := ρ2) hds hpm h3 h4
            refine ⟨F1, ds, pm, hpm', go.env.pars l rs nd, ?_⟩
            rw [hc]
            show After _ _ _ _ _ _ _ _ _ (match outS pm outs with | some ρ' => R.exc y ρ' | none => R.fail)
            rw [h5]
            exact fun F' H' cls dd gm hcls => q2 F' H' cls dd (Go.call go.env l rs h2 h1 gm) hcls
          · exact q2.elim
        | ok rv outs =>
          simp only [hc] at q2
          split at q2
          · rename_i ρ2 hpo
            obtain ⟨h1, h2, h3, h4⟩ := putOuts_spec hpo nd
            obtain ⟨m', h5, l⟩ := lnk_of (ρ2 := ρ2) hds hpm h3 h4
            refine ⟨F1, ds, pm, hpm', go.env.pars l rs nd, ?_⟩
            rw [hc]
            show After _ _ _ _ _ _ _ _ _ (match outS pm outs with | some ρ' => R.ok rv ρ' | none => R.fail)
            rw [h5]
            exact fun F' H' gm v ro => q2 F' H' (Go.call go.env l rs h2 h1 gm) v (RvOk.early go ro)
          · exact q2.elim
      · exact q2.elim
/-- f(a, ..) -/
theorem se_call {x : Str} {k : Nat} {m : List Bool} {c : Calls} {t : List Calls} {e1 : Expr} {es : List Expr} {fs : Sl → R (List Opr)} {p pos : Pos} (hg : glb g x = true) (hf : g.fn.lookup x = some (k, m)) (ss : SCs Z g (c :: t) m (e1 :: es) fs) :
    SE Z g (c :: t) (.Call (.Name x p) (e1 :: es) [] pos) (fun ρ => (fs ρ).bind fun os ρ' => callV c k os ρ') := by
  refine call_core (fun X W a => ?_) ss.2.1 ss.2.2
  obtain ⟨g1, g2, g3⟩ := glb_some hg
  obtain ⟨f, fd, ps, hm, hk, hb, ok⟩ := (a.fns c t (List.suffix_refl _)).fn x k m hf
  refine pe_callSD (CX := L2.CX X.prog X.w) (k := 2 * (c :: t).length) (fd := fd) (ps := ps) (ds := []) ?_ (a.room.mono (by omega)) (by show X.env.scope.names.lookup x = _; rw [a.sc]; exact g1) (by rw [a.mg]; exact hm) (by rw [a.K]; exact hk) (by rw [a.K]; exact hb) .nil (fun σ => passAt a.takes σ) pa_w g2 (star_ok (ss.1 _ List.mem_cons_self) _ _) (back_plain fun e he => ss.1 e (List.mem_cons_of_mem _ he))
  rw [a.prog, a.w, a.K, a.mg, a.base]; exact ok
end Ev
end
section
set_option Elab.async false
set_option linter.all false
set_option maxRecDepth 100000
/-! A list's methods that change it. -/
namespace Ev
open PySem PySem.Spec PyProof.Rows L2
variable {Z : Fix} {g : Sta} {h : List Calls} {K : PySem.W.Frag} {F F' F1 F2 H H' H1 H2 : Hp} {T : List Addr} {σ σ' : Sg} {ρ ρ' ρ1 ρ2 : Sl} {W : WX} {X : Cx}
theorem back_few {cpos : Pos} {env : Env} : ∀ {es : List Expr}, (∀ e ∈ es, ∀ x p, e ≠ .Starred x p) → (backTo cpos (starEach es env)).all (fun x => !x.1) = true
  | [], _ => rfl
  | e :: es, n => by
    rw [star_ok (n e List.mem_cons_self)]
    show (true && (backTo cpos (starEach es env)).all (fun x => !x.1)) = true
    rw [back_few fun e he => n e (List.mem_cons_of_mem _ he)]; rfl
theorem few_ok {cpos : Pos} {env : Env} {es : List Expr} (n : ∀ e ∈ es, ∀ x p, e ≠ .Starred x p) (hl : es.length < 20) : ((backTo cpos (starEach es env)).all (fun x => !x.1) && (backToKw cpos (keywordEach [] env)).all (fun x => x.1.isSome)
      && decide (es.length + ([] : List Keyword).length + (if ([] : List Keyword).isEmpty then 0 else 1) < 30)) = true := by
  rw [back_few n]
  have : es.length + ([] : List Keyword).length + (if ([] : List Keyword).isEmpty then 0 else 1) < 30 := by
    show es.length + 0 + 0 < 30
    omega
  rw [decide_eq_true this]; rfl
def mtId : Mt → String
  | .append => "list.append"
  | .extend => "list.extend"
  | .pop => "list.pop"
  | .popi => "list.pop"
  | .remove => "list.remove"
/-- the weakest reading of a method, by values -/
def wM (X : Cx) (id : String) : V → List V → Hp → VK → Prop := fun x vs H Q => ∀ pins s σ v us, Inv X pins σ H s → RelV x v → Vals vs us → wpAny (model X.prog X.w) X.A (call (.builtin id) (v :: us)) (EP X pins σ Q) X.xe s
theorem mt_w {id : String} : MtR X id (wM X id) := fun pins s σ H x xs v us Q I rx rv h => h pins s σ v us I rx rv
theorem wM_of {id : String} {r : V → List V → Hp → VK → Prop} {x : V} {vs : List V} {Q : VK} (h : MtM X id r) (q : r x vs H Q) : wM X id x vs H Q := fun pins s σ v us I rx rv => h pins s σ H x vs v us Q I rx rv q
/-- what a method does -/
theorem mth_ok {m : Mt} {i : Nat} {io : Bool} {xs ys ds : List D} {vs : List V} {v : D} {x : V} {Q : VK} (e : SEnv K T F H ρ σ) (hp : getS ρ i = .hld io false (.list xs)) (hx : stV σ i = some x) (rs : RpA K F vs ds) (hm : mth m xs ds = some (v, ys))
    (q : ∀ F' H' u, Go K T σ ρ F H (ρ.set i (.hld io false (.list ys))) F' H' → Rp K F' u v → Q u H') : wM X (mtId m) x vs H Q := by
  obtain ⟨a, ha, f, t, ⟨us, hl, ru⟩, oa⟩ := e.at hp
  rw [hx] at ha
  cases ha
  have wr : ∀ {us' ys'}, RpA K F us' ys' → Go K T σ ρ F H (ρ.set i (.hld io false (.list ys'))) F (upd H a (.lst us')) := fun r => Go.write e hp hx ⟨_, upd_same, r⟩
  cases m with
  | append =>
    change mAppend xs ds = some (v, ys) at hm
    unfold mAppend at hm
    split at hm
    · split at hm
      · rename_i hz
        cases hm
        cases rs with
        | cons r0 rr =>
          cases rr
          exact wM_of mt_append ⟨a, us, _, rfl, rfl, hl, by rw [ru.length, sizeLine_eq]; exact hz, q _ _ _ (wr (ru.append (.cons r0 .nil))) .non⟩
      · cases hm
    · cases hm
  | extend =>
    change mExtend xs ds = some (v, ys) at hm
    unfold mExtend at hm
    split at hm
    · split at hm
      · rename_i hz
        cases hm
        cases rs with
        | cons r0 rr =>
          cases rr
          cases r0 with
          | lst e1 r1 => exact wM_of mt_extend ⟨a, _, us, _, rfl, rfl, hl, e.sub _ _ e1, by rw [ru.length, r1.length, sizeLine_eq]; exact hz, q _ _ _ (wr (ru.append r1)) .non⟩
      · cases hm
    · cases hm
  | pop =>
    change mPop xs ds = some (v, ys) at hm
    unfold mPop at hm
    split at hm
    · rw [Option.map_eq_some_iff] at hm
      obtain ⟨y, h1, h2⟩ := hm
      cases h2
      cases rs
      obtain ⟨w, h3, h4⟩ := ru.get h1
      rw [← ru.length] at h3
      exact wM_of mt_pop ⟨a, us, w, rfl, rfl, hl, h3, q _ _ _ (wr ru.dropLast) h4⟩
    · cases hm
  | popi =>
    change mPopi xs ds = some (v, ys) at hm
    unfold mPopi at hm
    split at hm
    · split at hm
      · rename_i hz
        rw [lim62, Bool.and_eq_true] at hz
        have z1 := of_decide_eq_true hz.1
        have z2 := of_decide_eq_true hz.2
        rw [Option.bind_eq_some_iff] at hm
        obtain ⟨j, h0, hm⟩ := hm
        rw [Option.map_eq_some_iff] at hm
        obtain ⟨y, h1, h2⟩ := hm
        cases h2
        cases rs with
        | cons r0 rr =>
          cases rr
          cases r0
          obtain ⟨w, h3, h4⟩ := ru.get h1
          rw [← ru.length, place_ix] at h0
          exact wM_of mt_popAt ⟨a, us, _, j, w, rfl, rfl, hl, by omega, by omega, (ixN_seq h0).1, h3, q _ _ _ (wr (ru.eraseIdx j)) h4⟩
      · cases hm
    · cases hm
  | remove => cases hm
theorem tyL {v : V} {a : Addr} {us : List V} (e : v = .ref a) (h : H a = some (.lst us)) : tyV K "list" v H := by
  subst e
  exact Or.inl ⟨rfl, _, Or.inl (Or.inl h)⟩
theorem slot_pe {x : Str} {pos : Pos} {i : Nat} (hs : slot g x = some i) (a : At Z g h W X) : PE X (.Name x pos) (tVar i) := by
  obtain ⟨h1, h2, h3, h4⟩ := slot_some hs
  exact pe_var (by rw [a.nm]; exact h1) (by rw [a.sc]; exact h2) h3 h4
theorem stV_get {i : Nat} {v : V} (e : stV σ i = some v) : σ[i]? = some (some v) := by
  unfold stV at e
  rwa [Option.join_eq_some_iff] at e
def mtName : Mt → Str
  | .append => "append"
  | .extend => "extend"
  | .pop => "pop"
  | .popi => "pop"
  | .remove => "remove"
theorem se_mth {x : Str} {i : Nat} {m : Mt} {es : List Expr} {fs : Sl → R (List D)} {p apos cpos : Pos} (hs : slot g x = some i) (hm0 : m ≠ .remove) (ss : SA Z g h es fs) (n : ∀ e ∈ es, ∀ x p, e ≠ .Starred x p) (hl : es.length < 20) (hne : es ≠ []) (hm1 : m ≠ .pop) (hline : (apos.endLine == cpos.line) = true) :
    SE Z g h (.Call (.Attribute (.Name x p) (mtName m) apos) es [] cpos) (fun ρ => match getS ρ i with
    | .hld _ _ (.list _) => (fs ρ).bind fun ds ρ' => match getS ρ' i with
      | .hld io false (.list xs) => match mth m xs ds with
        | some (v, ys) => .ok (.shr v) (ρ'.set i (.hld io false (.list ys)))
        | none => .fail
      | _ => .fail
    | _ => .fail) := by
  intro X W a σ ρ F H Q e q
  have hK := a.K
  have pe := slot_pe (pos := p) hs a
  cases hp : getS ρ i with
  | non => simp only [hp] at q; exact q.elim
  | shr d => simp only [hp] at q; exact q.elim
  | hld io0 lk0 d0 =>
    cases d0 with
    | list xs0 =>
      simp only [hp] at q
      obtain ⟨b, hb, _, _, ⟨us, hus, _⟩, _⟩ := e.at hp
      have q1 := q.split
      have key : ∀ ds ρ1 F1 H1, Go Z.K Z.T σ ρ F H ρ1 F1 H1 → ∀ vs, RpA Z.K F1 vs ds → After Z.K Z.T (exC Z) W σ ρ1 F1 H1 (okV Z H Q) (match getS ρ1 i with
          | .hld io false (.list xs) => match mth m xs ds with
            | some (v, ys) => .ok (.shr v) (ρ1.set i (.hld io false (.list ys)))
            | none => .fail
          | _ => .fail) → wM X (mtId m) (.ref b) vs H1 Q := by
        intro ds ρ1 F1 H1 go vs rs q2
        split at q2
        · rename_i io xs h1
          split at q2
          · rename_i v ys h2
            exact mth_ok (Q := Q) go.env h1 hb rs h2 fun F' H' u g' r' => q2 F' H' g' u r'
          · exact q2.elim
        · exact q2.elim
      cases es with
      | nil => exact absurd rfl hne
      | cons e1 es =>
        cases m with
        | pop => exact absurd rfl hm1
        | remove => exact absurd rfl hm0
        | append =>
          refine wE_of (pe_bm (X := X) PySem.F.plainAttrs_list PySem.F.slot_list_append PySem.F.type_list_append (mt_w (id := "list.append")) pe pa_w (by rfl) (few_ok n hl) hline (star_ok (n _ List.mem_cons_self) _ _) (back_plain fun e he => n e (List.mem_cons_of_mem _ he))) ⟨.ref b, stV_get hb, tyL rfl hus, ss X W a σ ρ F H _ e (q1.mono fun ds ρ1 F1 H1 go q2 vs rs => key ds ρ1 F1 H1 go vs rs q2)⟩
        | extend =>
          refine wE_of (pe_bm (X := X) PySem.F.plainAttrs_list PySem.F.slot_list_extend PySem.F.type_list_extend (mt_w (id := "list.extend")) pe pa_w (by rfl) (few_ok n hl) hline (star_ok (n _ List.mem_cons_self) _ _) (back_plain fun e he => n e (List.mem_cons_of_mem _ he))) ⟨.ref b, stV_get hb, tyL rfl hus, ss X W a σ ρ F H _ e (q1.mono fun ds ρ1 F1 H1 go q2 vs rs => key ds ρ1 F1 H1 go vs rs q2)⟩
        | popi =>
          refine wE_of (pe_bm (X := X) PySem.F.plainAttrs_list PySem.F.slot_list_pop PySem.F.type_list_pop (mt_w (id := "list.pop")) pe pa_w (by rfl) (few_ok n hl) hline (star_ok (n _ List.mem_cons_self) _ _) (back_plain fun e he => n e (List.mem_cons_of_mem _ he))) ⟨.ref b, stV_get hb, tyL rfl hus, ss X W a σ ρ F H _ e (q1.mono fun ds ρ1 F1 H1 go q2 vs rs => key ds ρ1 F1 H1 go vs rs q2)⟩
    | _ => simp only [hp] at q; exact q.elim
theorem se_pop0 {x : Str} {i : Nat} {p apos cpos : Pos} (hs : slot g x = some i) (hline : (apos.endLine == cpos.line) = true) :
    SE Z g h (.Call (.Attribute (.Name x p) "pop" apos) [] [] cpos) (fun ρ => match getS ρ i with
    | .hld _ _ (.list _) => (R.ok ([] : List D) ρ).bind fun ds ρ' => match getS ρ' i with
      | .hld io false (.list xs) => match mth .pop xs ds with
        | some (v, ys) => .ok (.shr v) (ρ'.set i (.hld io false (.list ys)))
        | none => .fail
      | _ => .fail
    | _ => .fail) := by
  intro X W a σ ρ F H Q e q
  have hK := a.K
  have pe := slot_pe (pos := p) hs a
  cases hp : getS ρ i with
  | non => simp only [hp] at q; exact q.elim
  | shr d => simp only [hp] at q; exact q.elim
  | hld io0 lk0 d0 =>
    cases d0 with
    | list xs0 =>
      simp only [hp] at q
      obtain ⟨b, hb, _, _, ⟨us, hus, _⟩, _⟩ := e.at hp
      refine wE_of (pe_bm0 (X := X) PySem.F.plainAttrs_list PySem.F.slot_list_pop PySem.F.type_list_pop (mt_w (id := "list.pop")) pe (by rfl) hline) ⟨.ref b, stV_get hb, tyL rfl hus, ?_⟩
      change After _ _ _ _ _ _ _ _ _ (match getS ρ i with
          | .hld io false (.list xs) => match mth .pop xs [] with
            | some (v, ys) => R.ok (RV.shr v) (ρ.set i (.hld io false (.list ys)))
            | none => .fail
          | _ => .fail) at q
      split at q
      · rename_i io xs h1
        split at q
        · rename_i v ys h2
          exact mth_ok (m := .pop) (Q := Q) e h1 hb .nil h2 fun F' H' u g' r' => q F' H' g' u r'
        · exact q.elim
      · exact q.elim
    | _ => simp only [hp] at q; exact q.elim
end Ev
end
section
set_option Elab.async false
set_option linter.all false
set_option maxRecDepth 100000
/-! Statements: targets, stores, blocks. -/
namespace Ev
open PySem PySem.Spec PyProof.Rows L2
variable {Z : Fix} {g : Sta} {h : List Calls} {K : PySem.W.Frag} {F F' F1 F2 H H' H1 H2 : Hp} {T : List Addr} {σ σ' σ1 σ2 : Sg} {ρ ρ' ρ1 ρ2 : Sl} {W : WX} {X : Cx} {C : ExW}
structure GoS (K : PySem.W.Frag) (T : List Addr) (σ : Sg) (ρ : Sl) (F H : Hp) (σ' : Sg) (ρ' : Sl) (F' H' : Hp) : Prop where
  fw : Fw T (Own ρ σ) F H F' H'
  env : SEnv K T F' H' ρ' σ'
  own : ∀ a, Own ρ' σ' a → Own ρ σ a ∨ H a = none
  pin : ∀ i io lk d, getS ρ i = .hld io lk d → io = true ∨ lk = true → ∃ d', getS ρ' i = .hld io lk d' ∧ stV σ' i = stV σ i ∧ (lk = true → d' = d)
theorem Go.s (a : Go K T σ ρ F H ρ' F' H') : GoS K T σ ρ F H σ ρ' F' H' := ⟨a.fw, a.env, fun x h => .inl (a.own x h), fun i io lk d h q => let ⟨d', e, z⟩ := a.pin i io lk d h q; ⟨d', e, rfl, z⟩⟩
theorem GoS.refl (e : SEnv K T F H ρ σ) : GoS K T σ ρ F H σ ρ F H := (Go.refl e).s
theorem GoS.trans (a : GoS K T σ ρ F H σ1 ρ1 F1 H1) (b : GoS K T σ1 ρ1 F1 H1 σ2 ρ2 F2 H2) : GoS K T σ ρ F H σ2 ρ2 F2 H2 :=
  ⟨a.fw.trans b.fw a.own, b.env, fun x h => (b.own x h).elim (a.own x) fun q => by
    cases w : H x with
    | none => exact .inr rfl
    | some u => obtain ⟨_, z⟩ := a.fw.stay _ _ w; rw [q] at z; exact absurd z (by simp), fun i io lk d h q => by
    obtain ⟨d1, h1, w1, e1⟩ := a.pin i io lk d h q
    obtain ⟨d2, h2, w2, e2⟩ := b.pin i io lk d1 h1 q
    exact ⟨d2, h2, w2.trans w1, fun z => (e2 z).trans (e1 z)⟩⟩
/-- what a def hands back -/
def RvS (K : PySem.W.Frag) (T : List Addr) (F H : Hp) (ρ' : Sl) (σ' : Sg) (H0 : Hp) (ρ : Sl) (σ : Sg) (v : V) : RV → Prop
  | .shr d => Rp K F v d
  | .own d => ∃ a, v = .ref a ∧ F a = none ∧ a ∉ T ∧ (H0 a = none ∨ Own ρ σ a) ∧ ¬ Own ρ' σ' a ∧ Holds K F H a d
def AfterS (K : PySem.W.Frag) (T : List Addr) (C : ExW) (W : WX) (σ : Sg) (ρ : Sl) (F H : Hp) (D : Ends) : Out → Prop
  | .fail => False
  | .nx ρ' => ∀ σ' F' H', GoS K T σ ρ F H σ' ρ' F' H' → D.nx σ' H'
  | .bk ρ' => ∀ σ' F' H', GoS K T σ ρ F H σ' ρ' F' H' → D.bk σ' H'
  | .ct ρ' => ∀ σ' F' H', GoS K T σ ρ F H σ' ρ' F' H' → D.ct σ' H'
  | .rt rv ρ' => ∀ σ' F' H' v, GoS K T σ ρ F H σ' ρ' F' H' → RvS K T F' H' ρ' σ' H ρ σ v rv → D.rt v H'
  | .exc c ρ' => ∀ σ' F' H' cls dd, GoS K T σ ρ F H σ' ρ' F' H' → C c cls → W cls dd σ' H'
theorem RvS.early {v : V} {rv : RV} (go : GoS K T σ ρ F H σ1 ρ1 F1 H1) (r : RvS K T F' H' ρ' σ' H1 ρ1 σ1 v rv) : RvS K T F' H' ρ' σ' H ρ σ v rv := by
  cases rv with
  | shr d => exact r
  | own d =>
    obtain ⟨a, e, f, t, n, no, q⟩ := r
    refine ⟨a, e, f, t, ?_, no, q⟩
    rcases n with n | n
    · cases w : H a with
      | none => exact .inl rfl
      | some u => obtain ⟨_, z⟩ := go.fw.stay _ _ w; rw [n] at z; cases z
    · exact (go.own a n).symm
theorem AfterS.from {D : Ends} {o : Out} (go : GoS K T σ ρ F H σ1 ρ1 F1 H1) (q : AfterS K T C W σ ρ F H D o) : AfterS K T C W σ1 ρ1 F1 H1 D o := by
  cases o with
  | fail => exact q
  | nx ρ' => exact fun σ' F' H' g => q σ' F' H' (go.trans g)
  | bk ρ' => exact fun σ' F' H' g => q σ' F' H' (go.trans g)
  | ct ρ' => exact fun σ' F' H' g => q σ' F' H' (go.trans g)
  | rt rv ρ' => exact fun σ' F' H' v g r => q σ' F' H' v (go.trans g) (RvS.early go r)
  | exc c ρ' => exact fun σ' F' H' cls dd g hc => q σ' F' H' cls dd (go.trans g) hc
def SS (Z : Fix) (g : Sta) (h : List Calls) (st : Stmt) (f : Sl → Out) : Prop := ∀ X W, At Z g h W X → ∀ σ ρ F H D, SEnv Z.K Z.T F H ρ σ → AfterS Z.K Z.T (exC Z) W σ ρ F H D (f ρ) → wS X st D σ H
def SSs (Z : Fix) (g : Sta) (h : List Calls) (st : List Stmt) (f : Sl → Out) : Prop := ∀ X W, At Z g h W X → ∀ σ ρ F H D, SEnv Z.K Z.T F H ρ σ → AfterS Z.K Z.T (exC Z) W σ ρ F H D (f ρ) → wSs X st D σ H
/-- an expression's end, in a statement -/
def Out.ofR {α : Type} (k : α → Sl → Out) : R α → Out
  | .fail => .fail
  | .exc c ρ => .exc c ρ
  | .ok a ρ => k a ρ
theorem AfterS.ofR {α : Type} {D : Ends} {r : R α} {k : α → Sl → Out} (q : AfterS K T C W σ ρ F H D (Out.ofR k r)) : After K T C W σ ρ F H (fun a ρ1 F1 H1 => AfterS K T C W σ ρ1 F1 H1 D (k a ρ1)) r := by
  cases r with
  | fail => exact q
  | exc c ρ' => exact fun F' H' cls dd g hc => q σ F' H' cls dd g.s hc
  | ok a ρ' => exact fun F' H' g => AfterS.from g.s q

/-! ### targets -/
/-- a value in hand, at the state where it is stored -/
def RvA (K : PySem.W.Frag) (T : List Addr) (F H : Hp) (ρ : Sl) (σ : Sg) (v : V) : RV → Prop
  | .shr d => Rp K F v d
  | .own d => ∃ a, v = .ref a ∧ F a = none ∧ a ∉ T ∧ ¬ Own ρ σ a ∧ Holds K F H a d
structure GoA (K : PySem.W.Frag) (T : List Addr) (v : V) (σ : Sg) (ρ : Sl) (F H : Hp) (σ' : Sg) (ρ' : Sl) : Prop where
  env : SEnv K T F H ρ' σ'
  own : ∀ a, Own ρ' σ' a → Own ρ σ a ∨ v = .ref a ∧ ¬ Own ρ σ a
  pin : ∀ i io lk d, getS ρ i = .hld io lk d → io = true ∨ lk = true → getS ρ' i = .hld io lk d ∧ stV σ' i = stV σ i
theorem stV_set {i j : Nat} {v : V} (l : i < σ.length) : stV (σ.set i (some v)) j = if i = j then some v else stV σ j := by
  unfold stV
  rw [List.getElem?_set]
  by_cases e : i = j
  · subst e; simp [l]
  · simp [e]
theorem GoA.set {i : Nat} {v : V} {rv : RV} (e : SEnv K T F H ρ σ) (r : RvA K T F H ρ σ v rv) (hs : setS ρ i rv.pv = some ρ') : GoA K T v σ ρ F H (σ.set i (some v)) ρ' := by
  unfold setS at hs
  split at hs
  · rename_i hf
    cases hs
    rw [Bool.and_eq_true] at hf
    have li : i < ρ.length := of_decide_eq_true hf.2
    have lσ : i < σ.length := by rw [← e.len]; exact li
    have own : ∀ j a, OA (ρ.set i rv.pv) (σ.set i (some v)) j a → (j = i ∧ v = .ref a ∧ ¬ Own ρ σ a) ∨ (j ≠ i ∧ OA ρ σ j a) := fun j a ⟨⟨x, y, z, w⟩, k⟩ => by
      by_cases hj : i = j
      · subst hj
        rw [getS_self li] at w
        rw [stV_set lσ, if_pos rfl] at k
        cases rv with
        | shr d => cases w
        | own d => obtain ⟨b, e1, _, _, no, _⟩ := r; cases k; cases e1; exact .inl ⟨rfl, rfl, no⟩
      · rw [getS_ne hj] at w
        rw [stV_set lσ, if_neg hj] at k
        exact .inr ⟨Ne.symm hj, ⟨x, y, z, w⟩, k⟩
    refine ⟨⟨by rw [List.length_set, List.length_set]; exact e.len, e.sub, e.tabF, e.tabH, fun j => ?_, fun j k a hj hk => ?_⟩, fun a ⟨j, hj⟩ => ?_, fun j io lk d hj hp => ?_⟩
    · by_cases hj : i = j
      · subst hj
        rw [getS_self li, stV_set lσ, if_pos rfl]
        cases rv with
        | shr d => exact ⟨v, rfl, r⟩
        | own d => obtain ⟨b, e1, f, t, _, q⟩ := r; exact ⟨b, by rw [e1], f, t, q⟩
      · rw [getS_ne hj, stV_set lσ, if_neg hj]; exact e.slot j
    · rcases own j a hj with ⟨j1, j2, j3⟩ | ⟨j1, j2⟩
      · rcases own k a hk with ⟨k1, _, _⟩ | ⟨_, k2⟩
        · rw [j1, k1]
        · exact absurd ⟨k, k2⟩ j3
      · rcases own k a hk with ⟨k1, k2, k3⟩ | ⟨_, k2⟩
        · exact absurd ⟨j, j2⟩ k3
        · exact e.apart j k a j2 k2
    · rcases own j a hj with ⟨_, j2, j3⟩ | ⟨_, j2⟩
      · exact .inr ⟨j2, j3⟩
      · exact .inl ⟨j, j2⟩
    · have ne : i ≠ j := fun z => by
        subst z
        rw [hj] at hf
        rcases hp with hp | hp
        · rw [hp] at hf; exact absurd hf.1 (by simp [freeS])
        · rw [hp] at hf; exact absurd hf.1 (by simp [freeS])
      rw [getS_ne ne, stV_set lσ, if_neg ne]
      exact ⟨hj, rfl⟩
  · cases hs
theorem GoA.trans {v u : V} (a : GoA K T v σ ρ F H σ1 ρ1) (b : GoA K T u σ1 ρ1 F H σ2 ρ2) (hb : ∀ x, Own ρ2 σ2 x → Own ρ1 σ1 x) (ha : ∀ x, Own ρ1 σ1 x → Own ρ σ x) : GoA K T v σ ρ F H σ2 ρ2 :=
  ⟨b.env, fun x h => .inl (ha x (hb x h)), fun i io lk d h q => by
    obtain ⟨h1, w1⟩ := a.pin i io lk d h q
    obtain ⟨h2, w2⟩ := b.pin i io lk d h1 q
    exact ⟨h2, w2.trans w1⟩⟩
/-- only slots that may be stored were touched -/
structure Still (g : Sta) (σ σ' : Sg) : Prop where
  len : σ'.length = σ.length
  at_ : ∀ j, storable g j = false → σ'[j]? = σ[j]?
theorem Still.refl : Still g σ σ := ⟨rfl, fun _ _ => rfl⟩
theorem Still.trans (a : Still g σ σ1) (b : Still g σ1 σ2) : Still g σ σ2 := ⟨b.len.trans a.len, fun j h => (b.at_ j h).trans (a.at_ j h)⟩
theorem Still.set {i : Nat} {v : Option V} (h : storable g i = true) : Still g σ (σ.set i v) := ⟨List.length_set, fun j q => by
  have : i ≠ j := fun z => by rw [z] at h; rw [h] at q; cases q
  rw [List.getElem?_set_ne this]⟩
def SG (Z : Fix) (g : Sta) (h : List Calls) (tg : Expr) (t : Tg) : Prop := (∀ x p, tg ≠ .Starred x p) ∧ ∀ X W, At Z g h W X → ∀ σ ρ F H v rv ρ' Q, SEnv Z.K Z.T F H ρ σ → RvA Z.K Z.T F H ρ σ v rv → asg t rv ρ = some ρ' →
  (∀ σ', Still g σ σ' → GoA Z.K Z.T v σ ρ F H σ' ρ' → ((∃ d, rv = .shr d) → ∀ x, Own ρ' σ' x → Own ρ σ x) → Q σ' H) → wG X tg v σ H Q
def SGs (Z : Fix) (g : Sta) (h : List Calls) (ts : List Expr) (t : Tgs) : Prop := (∀ e ∈ ts, ∀ x p, e ≠ .Starred x p) ∧ t.len = ts.length ∧ ∀ X W, At Z g h W X → ∀ σ ρ F H vs ds ρ' Q, SEnv Z.K Z.T F H ρ σ → RpA Z.K F vs ds → asgs t ds ρ = some ρ' →
  (∀ σ', Still g σ σ' → GoA Z.K Z.T .non σ ρ F H σ' ρ' → (∀ x, Own ρ' σ' x → Own ρ σ x) → Q σ' H) → wGs X ts vs σ H Q
theorem sg_name {x : Str} {p : Pos} {i : Nat} (hs : slot g x = some i) (hst : storable g i = true) (hl : kd g x = some .local ∨ kd g x = some .cell) : SG Z g h (.Name x p) (.var i) := by
  refine ⟨fun _ _ z => (by cases z), fun X W a σ ρ F H v rv ρ' Q e r ha q => ?_⟩
  obtain ⟨h1, h2, h3, h4⟩ := slot_some hs
  have ga := GoA.set e r ha
  refine wG_of (pg_name (i := i) (by rw [a.nm]; exact a.nd) (by rw [a.nm]; exact h1) (by show X.env.scope.names.lookup x = _ ∨ X.env.scope.names.lookup x = _; rw [a.sc]; exact hl) (a.st i x hst h1)) (q _ (Still.set hst) ga fun ⟨d, hd⟩ y hy => ?_)
  subst hd
  rcases ga.own y hy with z | ⟨z, no⟩
  · exact z
  · obtain ⟨j, ⟨p1, p2, p3, w⟩, k⟩ := hy
    change setS ρ i (.shr d) = some ρ' at ha
    unfold setS at ha
    split at ha
    · rename_i hf
      cases ha
      rw [Bool.and_eq_true] at hf
      have li : i < ρ.length := of_decide_eq_true hf.2
      have lσ : i < σ.length := by rw [← e.len]; exact li
      by_cases hj : i = j
      · subst hj; rw [getS_self li] at w; cases w
      · rw [getS_ne hj] at w
        rw [stV_set lσ, if_neg hj] at k
        exact ⟨j, ⟨p1, p2, p3, w⟩, k⟩
    · cases ha
theorem sgs_nil : SGs Z g h [] .nil := by
  refine ⟨fun e he => absurd he List.not_mem_nil, rfl, fun X W a σ ρ F H vs ds ρ' Q e r ha q => ?_⟩
  cases r with
  | nil =>
    cases ha
    exact wGs_of pgs_nil ⟨rfl, q σ .refl ⟨e, fun a h => .inl h, fun i io lk d h _ => ⟨h, rfl⟩⟩ fun _ h => h⟩
  | cons => cases ha
theorem sgs_cons {e : Expr} {es : List Expr} {t : Tg} {ts : Tgs} (s : SG Z g h e t) (ss : SGs Z g h es ts) : SGs Z g h (e :: es) (.cons t ts) := by
  refine ⟨fun x hx => ?_, by rw [Tgs.len, ss.2.1, List.length_cons], fun X W a σ ρ F H vs ds ρ' Q e0 r ha q => ?_⟩
  · rcases List.mem_cons.mp hx with rfl | hx
    · exact s.1
    · exact ss.1 x hx
  · cases r with
    | nil => cases ha
    | cons r0 rr =>
      rw [asgs, Option.bind_eq_some_iff] at ha
      obtain ⟨ρ1, h1, h2⟩ := ha
      have hst : (assignEach (e :: es) X.env).map (·.2) = assign e X.env :: (assignEach es X.env).map (·.2) := by
        cases e <;> first | rfl | exact absurd rfl (s.1 _ _)
      refine wGs_of (pgs_cons pg_w pgs_w hst) ⟨_, _, rfl, s.2 X W a σ ρ F H _ (.shr _) ρ1 _ e0 r0 h1 fun σ1 s1 g1 o1 => ?_⟩
      refine ss.2.2 X W a σ1 ρ1 F H _ _ ρ' _ g1.env rr h2 fun σ2 s2 g2 o2 => q σ2 (s1.trans s2) ?_ ?_
      · exact ⟨g2.env, fun x hx => .inl (o1 ⟨_, rfl⟩ x (o2 x hx)), fun i io lk d h w => by
          obtain ⟨a1, b1⟩ := g1.pin i io lk d h w
          obtain ⟨a2, b2⟩ := g2.pin i io lk d a1 w
          exact ⟨a2, b2.trans b1⟩⟩
      · exact fun x hx => o1 ⟨_, rfl⟩ x (o2 x hx)
theorem each_len {env : Env} : ∀ {es : List Expr}, (∀ e ∈ es, ∀ x p, e ≠ .Starred x p) → (assignEach es env).length = es.length ∧ (assignEach es env).findIdx? (·.1) = none
  | [], _ => ⟨rfl, rfl⟩
  | e :: es, n => by
    have hst : assignEach (e :: es) env = (false, assign e env) :: assignEach es env := by
      cases e <;> first | rfl | exact absurd rfl (n _ List.mem_cons_self _ _)
    obtain ⟨h1, h2⟩ := each_len (env := env) fun e he => n e (List.mem_cons_of_mem _ he)
    rw [hst, List.length_cons, List.length_cons, h1]
    refine ⟨rfl, ?_⟩
    rw [List.findIdx?_cons]
    simp [h2]
theorem RvA.rq {v : V} {rv : RV} (r : RvA K T F H ρ σ v rv) : Rq K F H v rv.d := by
  cases rv with
  | shr d => exact .inl r
  | own d => obtain ⟨a, e, _, _, _, q⟩ := r; exact .inr ⟨a, e, q⟩
theorem sg_tup {es : List Expr} {k : Nat} {p : Pos} {ts : Tgs} (ss : SGs Z g h es ts) : SG Z g h (.Tuple es k p) (.tup ts) := by
  refine ⟨fun _ _ z => (by cases z), fun X W a σ ρ F H v rv ρ' Q e r ha q => ?_⟩
  have hK := a.K
  have rq := r.rq
  obtain ⟨l1, l2⟩ := each_len (env := X.env) ss.1
  have fin : ∀ vs ds, RpA Z.K F vs ds → asgs ts ds ρ = some ρ' → wGs X es vs σ H Q := fun vs ds rs hh =>
    ss.2.2 X W a σ ρ F H vs ds ρ' Q e rs hh fun σ' s' g' o' => q σ' s' ⟨g'.env, fun x hx => .inl (o' x hx), g'.pin⟩ fun _ => o'
  rw [asg] at ha
  split at ha
  · rename_i ds hd
    split at ha
    · rename_i hl
      rw [hd] at rq
      obtain ⟨b, xs, rfl, hb, rx⟩ := rq.tup e.sub
      exact wG_of (pg_tup a.calm pgs_w l1 l2) ⟨b, xs, rfl, by rw [hK]; exact hb, by rw [rx.length, hl, ss.2.1], fin xs ds rx ha⟩
    · cases ha
  · rename_i ds hd
    split at ha
    · rename_i hl
      rw [hd] at rq
      obtain ⟨b, xs, rfl, hb, rx⟩ := rq.lst e.sub
      exact wG_of (pg_lst a.calm pgs_w l1 l2) ⟨b, xs, rfl, .inl (.inl hb), by rw [rx.length, hl, ss.2.1], fin xs ds rx ha⟩
    · cases ha
  · cases ha
end Ev
end
section
set_option Elab.async false
set_option linter.all false
set_option maxRecDepth 100000
/-! What is walked; list comprehensions. -/
namespace Ev
open PySem PySem.Spec PyProof.Rows L2
variable {Z : Fix} {g : Sta} {h : List Calls} {K : PySem.W.Frag} {F F' F1 F2 H H' H1 H2 : Hp} {T : List Addr} {σ σ' σ1 σ2 : Sg} {ρ ρ' ρ1 ρ2 : Sl} {W : WX} {X : Cx} {C : ExW}
/-- J gives the items of its, at every state that comes of ρL, FL while the walked slot is as it was -/
structure ItOk (K : PySem.W.Frag) (T : List Addr) (J : L2.It) (its : Its) (σL : Sg) (ρL : Sl) (FL : Hp) : Prop where
  ok : ∀ ρ' σ' F' H', SEnv K T F' H' ρ' σ' → Same FL F' → (∀ i, its.lk = some i → getS ρ' i = getS ρL i ∧ stV σ' i = stV σL i) →
    (∀ i, i < its.xs.length → J.go i H') ∧ J.stop its.xs.length H' ∧ ∀ i x H'', i < its.xs.length → J.yld i H' x H'' → ∃ F'' d, Ext F' H' F'' H'' ∧ its.xs[i]? = some d ∧ Rp K F'' x d
def SIt (Z : Fix) (g : Sta) (h : List Calls) (tg iter : Expr) (f : Sl → R Its) : Prop := (∀ env x, foldedSetIterable iter env x = pure x) ∧ ∀ X W, At Z g h W X → ∀ σ ρ F H (R : L2.It → Hp → Prop), SEnv Z.K Z.T F H ρ σ →
  After Z.K Z.T (exC Z) W σ ρ F H (fun its ρ1 F1 H1 => ∀ J ρL, lockS ρ1 its.lk = some ρL → ItOk Z.K Z.T J its σ ρL F1 → R J H1) (f ρ) → wI X tg iter σ H R

/-! ### the walked slot is locked -/
theorem lock_env {lk : Option Nat} (e : SEnv K T F H ρ σ) (hl : lockS ρ lk = some ρ1) : SEnv K T F H ρ1 σ ∧ (∀ i, getS ρ1 i = getS ρ i ∨ ∃ io d, lk = some i ∧ getS ρ i = .hld io false d ∧ getS ρ1 i = .hld io true d) ∧ (∀ i, lk = some i → ∃ io d, getS ρ1 i = .hld io true d) := by
  cases lk with
  | none => cases hl; exact ⟨e, fun i => .inl rfl, fun i h => nomatch h⟩
  | some i =>
    unfold lockS at hl
    dsimp only at hl
    split at hl
    · rename_i io d hp
      cases hl
      have li : i < ρ.length := getS_lt (by rw [hp]; exact fun z => nomatch z)
      have own : ∀ j a, OA (ρ.set i (.hld io true d)) σ j a → OA ρ σ j a := fun j a ⟨⟨x, y, z, w⟩, k⟩ => by
        by_cases hj : i = j
        · subst hj; exact ⟨⟨_, _, _, hp⟩, k⟩
        · rw [getS_ne hj] at w; exact ⟨⟨_, _, _, w⟩, k⟩
      refine ⟨⟨by rw [List.length_set]; exact e.len, e.sub, e.tabF, e.tabH, fun j => ?_, fun j k a hj hk => e.apart j k a (own j a hj) (own k a hk)⟩, fun j => ?_, fun j hj => ?_⟩
      · by_cases hj : i = j
        · subst hj; rw [getS_self li]; have s := e.slot i; rw [hp] at s; exact s
        · rw [getS_ne hj]; exact e.slot j
      · by_cases hj : i = j
        · subst hj; exact .inr ⟨io, d, rfl, hp, getS_self li⟩
        · exact .inl (getS_ne hj)
      · cases hj; exact ⟨io, d, getS_self li⟩
    · rename_i io d hp
      cases hl
      exact ⟨e, fun i => .inl rfl, fun j hj => by cases hj; exact ⟨_, _, hp⟩⟩
    · cases hl
theorem lock_own {lk : Option Nat} (e : SEnv K T F H ρ σ) (hl : lockS ρ lk = some ρ1) (a : Addr) : Own ρ1 σ a ↔ Own ρ σ a := by
  obtain ⟨_, h2, _⟩ := lock_env e hl
  constructor
  · rintro ⟨i, ⟨x, y, z, w⟩, k⟩
    rcases h2 i with q | ⟨io, d, _, q, _⟩
    · rw [q] at w; exact ⟨i, ⟨_, _, _, w⟩, k⟩
    · exact ⟨i, ⟨_, _, _, q⟩, k⟩
  · rintro ⟨i, ⟨x, y, z, w⟩, k⟩
    rcases h2 i with q | ⟨io, d, _, _, q⟩
    · rw [← q] at w; exact ⟨i, ⟨_, _, _, w⟩, k⟩
    · exact ⟨i, ⟨_, _, _, q⟩, k⟩
theorem unlock_get {lk : Option Nat} {i : Nat} : getS (unlockS ρ ρ2 lk) i = getS ρ2 i ∨ ∃ io l d io' l' d', lk = some i ∧ getS ρ i = .hld io l d ∧ getS ρ2 i = .hld io' l' d' ∧ getS (unlockS ρ ρ2 lk) i = .hld io l d' := by
  cases lk with
  | none => exact .inl rfl
  | some j =>
    unfold unlockS
    dsimp only
    split
    · rename_i io lk d io' lk' d' h1 h2
      have lj : j < ρ2.length := getS_lt (by rw [h2]; exact fun z => nomatch z)
      by_cases hj : j = i
      · subst hj; exact .inr ⟨_, _, _, _, _, _, rfl, h1, h2, getS_self lj⟩
      · exact .inl (getS_ne hj)
    · exact .inl rfl
theorem unlock_len {lk : Option Nat} : (unlockS ρ ρ2 lk).length = ρ2.length := by
  cases lk with
  | none => rfl
  | some j => unfold unlockS; dsimp only; split <;> simp
theorem unlock_env {lk : Option Nat} (e : SEnv K T F H ρ2 σ) : SEnv K T F H (unlockS ρ ρ2 lk) σ ∧ ∀ i a, OA (unlockS ρ ρ2 lk) σ i a → OA ρ2 σ i a := by
  have own : ∀ i a, OA (unlockS ρ ρ2 lk) σ i a → OA ρ2 σ i a := fun i a ⟨⟨x, y, z, w⟩, k⟩ => by
    rcases unlock_get (ρ := ρ) (ρ2 := ρ2) (lk := lk) (i := i) with q | ⟨_, _, _, _, _, _, _, _, q, _⟩
    · rw [q] at w; exact ⟨⟨_, _, _, w⟩, k⟩
    · exact ⟨⟨_, _, _, q⟩, k⟩
  refine ⟨⟨by rw [unlock_len]; exact e.len, e.sub, e.tabF, e.tabH, fun i => ?_, fun i j a hi hj => e.apart i j a (own i a hi) (own j a hj)⟩, own⟩
  have s := e.slot i
  rcases unlock_get (ρ := ρ) (ρ2 := ρ2) (lk := lk) (i := i) with q | ⟨_, _, _, _, _, _, _, _, q, q'⟩
  · rw [q]; exact s
  · rw [q'] ; rw [q] at s; exact s
/-- a run with the walked slot locked -/
theorem GoS.unlock {lk : Option Nat} (e : SEnv K T F H ρ σ) (hl : lockS ρ lk = some ρ1) (go : GoS K T σ ρ1 F H σ' ρ2 F' H') : GoS K T σ ρ F H σ' (unlockS ρ ρ2 lk) F' H' := by
  obtain ⟨e1, h2, h3⟩ := lock_env e hl
  obtain ⟨e2, o2⟩ := unlock_env (ρ := ρ) (lk := lk) go.env
  have ow := lock_own e hl
  refine ⟨⟨go.fw.fsub, fun a u h n t => go.fw.keep a u h (fun z => n ((ow a).mp z)) t, go.fw.stay, fun a u h => (go.fw.new a u h).imp id (Or.imp id (ow a).mp)⟩, e2, fun a ⟨i, hi⟩ => (go.own a ⟨i, o2 i a hi⟩).imp (ow a).mp id, fun i io l d hi hp => ?_⟩
  rcases h2 i with q | ⟨io', d', ql, q1, q2⟩
  · rw [← q] at hi
    obtain ⟨d1, w1, w2, w3⟩ := go.pin i io l d hi hp
    rcases unlock_get (ρ := ρ) (ρ2 := ρ2) (lk := lk) (i := i) with z | ⟨a1, a2, a3, b1, b2, b3, z0, z1, z2, z3⟩
    · exact ⟨d1, by rw [z]; exact w1, w2, w3⟩
    · rw [q] at hi
      rw [hi] at z1
      cases z1
      rw [w1] at z2
      cases z2
      exact ⟨d1, z3, w2, w3⟩
  · rw [q1] at hi
    cases hi
    obtain ⟨d1, w1, w2, w3⟩ := go.pin i _ _ _ q2 (.inr rfl)
    rcases unlock_get (ρ := ρ) (ρ2 := ρ2) (lk := lk) (i := i) with z | ⟨a1, a2, a3, b1, b2, b3, z0, z1, z2, z3⟩
    · exfalso
      subst ql
      simp only [unlockS, q1, w1] at z
      have li : i < ρ2.length := getS_lt (by rw [w1]; exact fun z => nomatch z)
      rw [getS_self li] at z
      cases z
    · rw [q1] at z1
      cases z1
      rw [w1] at z2
      cases z2
      exact ⟨_, z3, w2, fun z => nomatch z⟩
theorem Go.of_s (go : GoS K T σ ρ F H σ ρ' F' H') (own : ∀ a, Own ρ' σ a → Own ρ σ a) : Go K T σ ρ F H ρ' F' H' :=
  ⟨go.fw, go.env, own, fun i io lk d hi hp => let ⟨d', a, _, b⟩ := go.pin i io lk d hi hp; ⟨d', a, b⟩⟩
theorem Go.unlock {lk : Option Nat} (e : SEnv K T F H ρ σ) (hl : lockS ρ lk = some ρ1) (go : Go K T σ ρ1 F H ρ2 F' H') : Go K T σ ρ F H (unlockS ρ ρ2 lk) F' H' :=
  Go.of_s (GoS.unlock e hl go.s) fun a ⟨i, hi⟩ => (lock_own e hl a).mp (go.own a ⟨i, (unlock_env (ρ := ρ) (lk := lk) go.env).2 i a hi⟩)

/-! ### ranges, lists, tuples -/
theorem lim_ok {j : Int} (h : lim62 j = true) : -(2 ^ 62) ≤ j ∧ j < 2 ^ 62 := by
  rw [lim62, Bool.and_eq_true] at h
  exact ⟨of_decide_eq_true h.1, of_decide_eq_true h.2⟩
theorem it_rng {lo : Int} {n : Nat} {ρL : Sl} {FL : Hp} {lk : Option Nat} : ItOk K T (Itr lo n) ⟨rangeL lo n, lk⟩ σ ρL FL := by
  refine ⟨fun ρ' σ' F' H' e sm hl => ⟨fun i hi => by rw [rangeL_len] at hi; exact hi, by rw [rangeL_len]; exact Nat.le_refl _, fun i x H'' hi y => ?_⟩⟩
  obtain ⟨rfl, rfl⟩ := y
  rw [rangeL_len] at hi
  exact ⟨F', _, .refl e.sub, by rw [rangeL_get, if_pos hi], .int _⟩
theorem sit_rng1 {a : Expr} {tg : Expr} {p pos : Pos} {f : Sl → R RV} (hb : blt g "range" = true) (s : SE Z g h a f) (n : ∀ x p, a ≠ .Starred x p) :
    SIt Z g h tg (.Call (.Name "range" p) [a] [] pos) (fun ρ => (f ρ).bind fun v ρ' => match v with
    | .shr (.int j) => if lim62 j then .ok ⟨rangeL 0 j.toNat, none⟩ ρ' else .fail
    | _ => .fail) := by
  refine ⟨fun _ _ => rfl, fun X W at_ σ ρ F H R e q => ?_⟩
  obtain ⟨h1, h2, h3, h4⟩ := blt_some hb at_
  refine wI_of (pi_range1 h1 h2 (pa_cons pe_w pa_nil (star_ok n _ _)) (star_ok n _ _)) (s X W at_ σ ρ F H _ e (q.split.mono fun rv ρ1 F1 H1 g1 q1 v r => ?_))
  split at q1
  · split at q1
    · rename_i j hz
      obtain ⟨z1, z2⟩ := lim_ok hz
      exact ⟨j, by rw [r.isIn], z1, z2, q1.here g1.env _ ρ1 rfl it_rng⟩
    · exact q1.elim
  · exact q1.elim
theorem sit_rng2 {a b : Expr} {tg : Expr} {p pos : Pos} {f fb : Sl → R RV} (hb : blt g "range" = true) (s : SE Z g h a f) (sb : SE Z g h b fb) (n : ∀ x p, a ≠ .Starred x p) (nb : ∀ x p, b ≠ .Starred x p) :
    SIt Z g h tg (.Call (.Name "range" p) [a, b] [] pos) (fun ρ => (f ρ).bind fun v ρ1 => (fb ρ1).bind fun u ρ2 => match v, u with
    | .shr (.int i), .shr (.int j) => if lim62 i && lim62 j then .ok ⟨rangeL i (j - i).toNat, none⟩ ρ2 else .fail
    | _, _ => .fail) := by
  refine ⟨fun _ _ => rfl, fun X W at_ σ ρ F H R e q => ?_⟩
  obtain ⟨h1, h2, h3, h4⟩ := blt_some hb at_
  have hs : starEach [a, b] X.env = [(false, eval a X.env), (false, eval b X.env)] := by rw [star_ok n, star_ok nb]; rfl
  refine wI_of (pi_range2 h1 h2 (pa_cons pe_w (pa_cons pe_w pa_nil (star_ok nb _ _)) (star_ok n _ _)) hs (star_ok nb _ _)) (s X W at_ σ ρ F H _ e (q.split.mono fun rv ρ1 F1 H1 g1 q1 v r => ?_))
  refine sb X W at_ σ ρ1 F1 H1 _ g1.env (q1.split.mono fun ru ρ2 F2 H2 g2 q2 u r' => ?_)
  split at q2
  · split at q2
    · rename_i i j hz
      rw [Bool.and_eq_true] at hz
      obtain ⟨z1, z2⟩ := lim_ok hz.1
      obtain ⟨z3, z4⟩ := lim_ok hz.2
      exact ⟨i, j, by rw [r.isIn, r'.isIn], ⟨z1, z2, z3, z4⟩, q2.here g2.env _ ρ2 rfl it_rng⟩
    · exact q2.elim
  · exact q2.elim
/-- a shared list -/
theorem it_lst {a : Addr} {xs : List V} {ds : List D} {ρL : Sl} {FL : Hp} (hK : X.K = K) (e : FL a = some (.lst xs)) (r : RpA K FL xs ds) : ItOk K T (Itl X.K a) ⟨ds, none⟩ σ ρL FL := by
  refine ⟨fun ρ' σ' F' H' e' sm hl => ?_⟩
  have hq : SqL X.K H' a xs := .inl (.inl (e'.sub _ _ (sm _ _ e)))
  refine ⟨fun i hi => ?_, ⟨xs, hq, by rw [r.length]; exact Nat.le_refl _⟩, fun i x H'' hi y => ?_⟩
  · obtain ⟨v, hv, _⟩ := r.get (List.getElem?_eq_getElem hi)
    exact ⟨xs, v, hq, hv⟩
  · obtain ⟨rfl, y⟩ := y
    obtain ⟨v, hv, rv⟩ := r.get (List.getElem?_eq_getElem hi)
    have := (y xs hq).symm.trans hv
    cases this
    exact ⟨F', _, .refl e'.sub, List.getElem?_eq_getElem hi, rv.mono sm⟩
theorem it_scr {a : Addr} {xs : List V} {ds : List D} {ρL : Sl} {FL : Hp} (hK : X.K = K) (e : SqL K FL a xs) (r : RpA K FL xs ds) (uq : ∀ H' ys, SqL K H' a ys → ys = xs ∨ True) : ItOk K T (Itl X.K a) ⟨ds, none⟩ σ ρL FL := by
  refine ⟨fun ρ' σ' F' H' e' sm hl => ?_⟩
  subst hK
  have hq : SqL X.K H' a xs := Same.seq (sm.trans e'.sub) e
  refine ⟨fun i hi => ?_, ⟨xs, hq, by rw [r.length]; exact Nat.le_refl _⟩, fun i x H'' hi y => ?_⟩
  · obtain ⟨v, hv, _⟩ := r.get (List.getElem?_eq_getElem hi)
    exact ⟨xs, v, hq, hv⟩
  · obtain ⟨rfl, y⟩ := y
    obtain ⟨v, hv, rv⟩ := r.get (List.getElem?_eq_getElem hi)
    have := (y xs hq).symm.trans hv
    cases this
    exact ⟨F', _, .refl e'.sub, List.getElem?_eq_getElem hi, rv.mono sm⟩
theorem it_tup {a : Addr} {xs : List V} {ds : List D} {ρL : Sl} {FL : Hp} (hK : X.K = K) (e : SqT K FL a xs) (r : RpA K FL xs ds) : ItOk K T (Itt X.K a) ⟨ds, none⟩ σ ρL FL := by
  refine ⟨fun ρ' σ' F' H' e' sm hl => ?_⟩
  subst hK
  have hq : SqT X.K H' a xs := Same.seqT (sm.trans e'.sub) e
  refine ⟨fun i hi => ?_, ⟨xs, hq, by rw [r.length]; exact Nat.le_refl _⟩, fun i x H'' hi y => ?_⟩
  · obtain ⟨v, hv, _⟩ := r.get (List.getElem?_eq_getElem hi)
    exact ⟨xs, v, hq, hv⟩
  · obtain ⟨rfl, y⟩ := y
    obtain ⟨v, hv, rv⟩ := r.get (List.getElem?_eq_getElem hi)
    have := (y xs hq).symm.trans hv
    cases this
    exact ⟨F', _, .refl e'.sub, List.getElem?_eq_getElem hi, rv.mono sm⟩
/-- a slot's own list, locked -/
theorem it_own {i : Nat} {a : Addr} {io : Bool} {ds : List D} {ρL : Sl} {FL : Hp} (hK : X.K = K) (hp : getS ρL i = .hld io true (.list ds)) (ha : stV σ i = some (.ref a)) : ItOk K T (Itl X.K a) ⟨ds, some i⟩ σ ρL FL := by
  refine ⟨fun ρ' σ' F' H' e' sm hl => ?_⟩
  subst hK
  obtain ⟨h1, h2⟩ := hl i rfl
  obtain ⟨b, hb, _, _, ⟨xs, hx, r⟩, _⟩ := e'.at (h1.trans hp)
  rw [h2, ha] at hb
  cases hb
  have hq : SqL X.K H' a xs := .inl (.inl hx)
  refine ⟨fun i hi => ?_, ⟨xs, hq, by rw [r.length]; exact Nat.le_refl _⟩, fun i x H'' hi y => ?_⟩
  · obtain ⟨v, hv, _⟩ := r.get (List.getElem?_eq_getElem hi)
    exact ⟨xs, v, hq, hv⟩
  · obtain ⟨rfl, y⟩ := y
    obtain ⟨v, hv, rv⟩ := r.get (List.getElem?_eq_getElem hi)
    have := (y xs hq).symm.trans hv
    cases this
    exact ⟨F', _, .refl e'.sub, List.getElem?_eq_getElem hi, rv⟩
theorem lock_at {i : Nat} {ρL : Sl} (hl : lockS ρ (some i) = some ρL) {io lk : Bool} {d : D} (hp : getS ρ i = .hld io lk d) : ∃ io', getS ρL i = .hld io' true d := by
  simp only [lockS, hp] at hl
  cases lk with
  | false => cases hl; exact ⟨io, getS_self (getS_lt (by rw [hp]; exact fun z => nomatch z))⟩
  | true => cases hl; exact ⟨io, hp⟩
def iSeq (K : PySem.W.Frag) (tl : TE) : TI := fun σ H R => tl σ H fun x H1 => ∃ a xs, x = .ref a ∧ ((SqL K H1 a xs ∧ R (Itl K a) H1) ∨ (SqT K H1 a xs ∧ R (Itt K a) H1))
theorem pi_seq {tg l : Expr} {tl : TE} (hl : PE X l tl) : PI X tg l (iSeq X.K tl) := by
  refine ⟨fun pins sh σ H R I h => ?_⟩
  refine thn (hl.run pins sh σ H _ I h) fun v s1 ⟨x, H1, J, r1, q1⟩ => ?_
  obtain ⟨a, xs, e, q⟩ := q1
  subst e
  cases r1
  have fp : ∀ b ∈ [s1.heap.objs.size], FpOk X pins H1 b := fun b hb => by
    rw [List.mem_singleton.mp hb]
    exact J.fpOk (Nat.le_refl s1.heap.objs.size) (J.hok.fresh (Nat.le_refl _))
  rcases q with ⟨hq, q⟩ | ⟨hq, q⟩
  · obtain ⟨its, rv, p, hz⟩ := J.list hq
    exact wpAny_pyIter_list p.isList ⟨s1.heap.objs.size, [s1.heap.objs.size], _, _, H1, rfl, J.kept (t' := s1.toks) fun b o e => Heap.get?_push_of_some _ e, turn_list a _, ⟨_, Heap.get?_push_size _ rfl, rfl, rfl⟩, fp, q⟩
  · obtain ⟨its, rv, p, hz⟩ := J.tuple hq
    exact wpAny_pyIter_tuple (show s1.heap.IsTuple a its.toArray from p) ⟨s1.heap.objs.size, [s1.heap.objs.size], _, _, H1, rfl, J.kept (t' := s1.toks) fun b o e => Heap.get?_push_of_some _ e, turn_tuple a _, ⟨_, Heap.get?_push_size _ rfl, rfl, rfl⟩, fp, q⟩
theorem sit_seq {e0 tg : Expr} {f : Sl → R Opr} (s : SO Z g h e0 f) (hf : isSet e0 = false) : SIt Z g h tg e0 (fun ρ => (f ρ).bind fun o ρ' => match o, o.get ρ' with
    | .slot i, some (.list xs) => .ok ⟨xs, some i⟩ ρ'
    | .val _, some (.list xs) => .ok ⟨xs, none⟩ ρ'
    | .val _, some (.tuple xs) => .ok ⟨xs, none⟩ ρ'
    | .val _, some (.dict [(.none, .list xs)]) => .ok ⟨xs, none⟩ ρ'
    | _, _ => .fail) := by
  refine ⟨fun env x => by cases e0 <;> first | rfl | exact absurd hf (by simp [isSet]), fun X W at_ σ ρ F H R e q => ?_⟩
  have hK := at_.K
  refine wI_of (pi_seq pe_w) (s X W at_ σ ρ F H _ e (q.split.mono fun o ρ1 F1 H1 g1 q1 v r => ?_))
  split at q1
  · rename_i i xs ho
    have hp : ∃ io lk, getS ρ1 i = .hld io lk (.list xs) := by
      change (match getS ρ1 i with | .hld _ _ d => some d | _ => none) = some (.list xs) at ho
      split at ho
      · rename_i io lk d hp; cases ho; exact ⟨io, lk, hp⟩
      · cases ho
    obtain ⟨io, lk, hp⟩ := hp
    obtain ⟨a, ha, _, _, ⟨ys, hx, rx⟩, _⟩ := g1.env.at hp
    have hv : stV σ i = some v := r
    rw [ha] at hv
    cases hv
    obtain ⟨ρL, hl⟩ : ∃ ρL, lockS ρ1 (some i) = some ρL := by
      cases lk with
      | false => exact ⟨ρ1.set i (.hld io true (.list xs)), by simp only [lockS, hp]⟩
      | true => exact ⟨ρ1, by simp only [lockS, hp]⟩
    obtain ⟨io', hp'⟩ := lock_at hl hp
    exact ⟨a, ys, rfl, .inl ⟨.inl (.inl hx), q1.here g1.env _ ρL hl (it_own hK hp' ha)⟩⟩
  · rename_i d xs ho
    cases ho
    change Rp Z.K F1 v (.list xs) at r
    cases r with
    | lst e1 r1 => exact ⟨_, _, rfl, .inl ⟨.inl (.inl (g1.env.sub _ _ e1)), q1.here g1.env _ ρ1 rfl (it_lst hK e1 r1)⟩⟩
  · rename_i d xs ho
    cases ho
    change Rp Z.K F1 v (.tuple xs) at r
    cases r with
    | tup e1 r1 => exact ⟨_, _, rfl, .inr ⟨by rw [hK]; exact Same.seqT g1.env.sub e1.sq, q1.here g1.env _ ρ1 rfl (it_tup hK e1.sq r1)⟩⟩
  · rename_i d xs ho
    cases ho
    have r' : Rq Z.K F1 F1 v (scrD xs) := .inl r
    obtain ⟨a, ys, rfl, e1, r1⟩ := r'.scr (.refl _)
    exact ⟨_, _, rfl, .inl ⟨by rw [hK]; exact Same.seq g1.env.sub e1, q1.here g1.env _ ρ1 rfl (it_scr hK e1 r1 fun _ _ _ => .inr trivial)⟩⟩
  · exact q1.elim
end Ev
end
section
set_option Elab.async false
set_option linter.all false
set_option maxRecDepth 100000
/-! A comprehension's block: slots wiped and back, the list that grows. -/
namespace Ev
open PySem PySem.Spec PyProof.Rows L2
variable {Z : Fix} {g : Sta} {h : List Calls} {K : PySem.W.Frag} {F F' F1 F2 F3 H H' H1 H2 H3 : Hp} {T : List Addr} {σ σ' σ1 σ2 : Sg} {ρ ρ' ρ1 ρ2 ρ3 : Sl} {W : WX} {X : Cx} {C : ExW} {O : Addr → Prop}
theorem wipeS_len : ∀ vs : List Nat, (wipeS ρ vs).length = ρ.length
  | [] => rfl
  | v :: vs => by rw [wipeS, List.length_set, wipeS_len vs]
theorem wipeS_get {i : Nat} : ∀ vs : List Nat, getS (wipeS ρ vs) i = if i ∈ vs then .non else getS ρ i
  | [] => by simp [wipeS]
  | v :: vs => by
    rw [wipeS, getS_set, wipeS_len]
    by_cases e : v = i
    · subst e
      by_cases l : v < ρ.length
      · rw [if_pos ⟨rfl, l⟩, if_pos List.mem_cons_self]
      · rw [if_neg (fun z => l z.2), if_pos List.mem_cons_self, wipeS_get vs]
        split
        · rfl
        · unfold getS; rw [List.getElem?_eq_none (by omega)]; rfl
    · rw [if_neg (fun z => e z.1), wipeS_get vs]
      by_cases m : i ∈ vs
      · rw [if_pos m, if_pos (List.mem_cons_of_mem _ m)]
      · rw [if_neg m, if_neg (by simp [m, Ne.symm e])]
theorem backS_len {ρ0 : Sl} : ∀ vs : List Nat, (backS ρ0 ρ vs).length = ρ.length
  | [] => rfl
  | v :: vs => by rw [backS, List.length_set, backS_len vs]
theorem backS_get {ρ0 : Sl} {i : Nat} (hl : ρ.length = ρ0.length) : ∀ vs : List Nat, getS (backS ρ0 ρ vs) i = if i ∈ vs then getS ρ0 i else getS ρ i
  | [] => by simp [backS]
  | v :: vs => by
    rw [backS, getS_set, backS_len]
    by_cases e : v = i
    · subst e
      by_cases l : v < ρ.length
      · rw [if_pos ⟨rfl, l⟩, if_pos List.mem_cons_self]
      · rw [if_neg (fun z => l z.2), if_pos List.mem_cons_self, backS_get hl vs]
        split
        · rfl
        · unfold getS; rw [List.getElem?_eq_none (by omega), List.getElem?_eq_none (by omega)]
    · rw [if_neg (fun z => e z.1), backS_get hl vs]
      by_cases m : i ∈ vs
      · rw [if_pos m, if_pos (List.mem_cons_of_mem _ m)]
      · rw [if_neg m, if_neg (by simp [m, Ne.symm e])]
theorem wipe_stV {i : Nat} (vs : List Nat) : stV (L2.wipe σ vs) i = if i ∈ vs then none else stV σ i := by
  induction vs with
  | nil => simp [L2.wipe]
  | cons v vs ih =>
    unfold stV at ih ⊢
    rw [L2.wipe, List.getElem?_set, wipe_length]
    by_cases e : v = i
    · subst e
      by_cases l : v < σ.length
      · simp [l]
      · have : σ[v]? = none := List.getElem?_eq_none (by omega)
        simp [l, this]
    · simp only [e, if_false, ih]
      by_cases m : i ∈ vs
      · simp [m]
      · simp [m, Ne.symm e]
theorem noMut_at {vs : List Nat} (n : noMut ρ vs = true) {i : Nat} (hi : i ∈ vs) : ∀ io lk d, getS ρ i ≠ .hld io lk d := by
  intro io lk d q
  have := List.all_eq_true.mp n i hi
  rw [q] at this
  cases this
/-- from a base (ρ0 σ0 F0 H0), with what it alone held (O), to where one stands -/
structure GoW (K : PySem.W.Frag) (T : List Addr) (O : Addr → Prop) (σ0 : Sg) (ρ0 : Sl) (F0 H0 : Hp) (σ : Sg) (ρ : Sl) (F H : Hp) : Prop where
  fw : Fw T O F0 H0 F H
  env : SEnv K T F H ρ σ
  own : ∀ a, Own ρ σ a → O a
  pin : ∀ i io lk d, getS ρ0 i = .hld io lk d → io = true ∨ lk = true → ∃ d', getS ρ i = .hld io lk d' ∧ stV σ i = stV σ0 i ∧ (lk = true → d' = d)
variable {σ0 : Sg} {ρ0 : Sl} {F0 H0 : Hp}
theorem GoW.refl (e : SEnv K T F H ρ σ) (h : ∀ a, Own ρ σ a → O a) : GoW K T O σ ρ F H σ ρ F H := ⟨.refl, e, h, fun _ _ _ d h _ => ⟨d, h, rfl, fun _ => rfl⟩⟩
theorem GoW.go (a : GoW K T O σ0 ρ0 F0 H0 σ ρ F H) (b : Go K T σ ρ F H ρ' F' H') : GoW K T O σ0 ρ0 F0 H0 σ ρ' F' H' :=
  ⟨a.fw.trans b.fw fun x h => .inl (a.own x h), b.env, fun x h => a.own x (b.own x h), fun i io lk d h q => by
    obtain ⟨d1, h1, w1, e1⟩ := a.pin i io lk d h q
    obtain ⟨d2, h2, e2⟩ := b.pin i io lk d1 h1 q
    exact ⟨d2, h2, w1, fun z => (e2 z).trans (e1 z)⟩⟩
theorem GoW.asg {v : V} (a : GoW K T O σ0 ρ0 F0 H0 σ ρ F H) (b : GoA K T v σ ρ F H σ' ρ') (hb : ∀ x, Own ρ' σ' x → Own ρ σ x) : GoW K T O σ0 ρ0 F0 H0 σ' ρ' F H :=
  ⟨a.fw, b.env, fun x h => a.own x (hb x h), fun i io lk d h q => by
    obtain ⟨d1, h1, w1, e1⟩ := a.pin i io lk d h q
    obtain ⟨h2, w2⟩ := b.pin i io lk d1 h1 q
    exact ⟨d1, h2, w2.trans w1, e1⟩⟩
theorem SEnv.other {A : Addr} {o : HO} (e : SEnv K T F H ρ σ) (nF : F A = none) (nO : ¬ Own ρ σ A) (nT : A ∉ T) : SEnv K T F (upd H A o) ρ σ := by
  refine ⟨e.len, fun b u z => ?_, e.tabF, fun b hb => ?_, fun i => ?_, e.apart⟩
  · have : b ≠ A := fun w => by subst w; rw [nF] at z; cases z
    rw [upd_ne this]; exact e.sub _ _ z
  · have : b ≠ A := fun w => nT (by rw [← w]; exact hb)
    obtain ⟨ps, z, w⟩ := e.tabH b hb
    exact ⟨ps, by rw [upd_ne this]; exact z, w⟩
  · have s := e.slot i
    cases hp : getS ρ i with
    | non => trivial
    | shr d => rw [hp] at s; exact s
    | hld x y z =>
      rw [hp] at s
      obtain ⟨b, e1, fb, tb, qb⟩ := s
      have nb : b ≠ A := fun w => nO ⟨i, ⟨_, _, _, hp⟩, by rw [e1, w]⟩
      exact ⟨b, e1, fb, tb, qb.mono (.refl _) (upd_ne nb)⟩
/-- a thing that nobody's slot holds, and that was not there at the base, is changed -/
theorem GoW.other {A : Addr} {o : HO} (a : GoW K T O σ0 ρ0 F0 H0 σ ρ F H) (n0 : H0 A = none) (nF : F A = none) (nO : ¬ O A) (nT : A ∉ T) : GoW K T O σ0 ρ0 F0 H0 σ ρ F (upd H A o) :=
  ⟨⟨a.fw.fsub, fun b u hb nb nt => by
      have : b ≠ A := fun w => by rw [w, n0] at hb; cases hb
      rw [upd_ne this]; exact a.fw.keep b u hb nb nt, fun b u hb => by
      by_cases w : b = A
      · exact ⟨o, by rw [w, upd_same]⟩
      · rw [upd_ne w]; exact a.fw.stay b u hb, a.fw.new⟩, a.env.other nF (fun z => nO (a.own A z)) nT, a.own, a.pin⟩
theorem GoW.wiped {vs : List Nat} (a : GoW K T O σ0 ρ0 F0 H0 σ ρ F H) (nv : ∀ i ∈ vs, getS ρ0 i = .non) : GoW K T O σ0 ρ0 F0 H0 (L2.wipe σ vs) (wipeS ρ vs) F H := by
  have own : ∀ i b, OA (wipeS ρ vs) (L2.wipe σ vs) i b → OA ρ σ i b := fun i b ⟨⟨x, y, z, w⟩, k⟩ => by
    rw [wipeS_get] at w
    rw [wipe_stV] at k
    by_cases m : i ∈ vs
    · rw [if_pos m] at w; cases w
    · rw [if_neg m] at w k; exact ⟨⟨x, y, z, w⟩, k⟩
  refine ⟨a.fw, ⟨by rw [wipeS_len, wipe_length]; exact a.env.len, a.env.sub, a.env.tabF, a.env.tabH, fun i => ?_, fun i j b hi hj => a.env.apart i j b (own i b hi) (own j b hj)⟩, fun b ⟨i, hi⟩ => a.own b ⟨i, own i b hi⟩, fun i io lk d hi hp => ?_⟩
  · rw [wipeS_get, wipe_stV]
    by_cases m : i ∈ vs
    · rw [if_pos m]; trivial
    · rw [if_neg m, if_neg m]; exact a.env.slot i
  · have m : i ∉ vs := fun z => by rw [nv i z] at hi; cases hi
    obtain ⟨d1, h1, w1, e1⟩ := a.pin i io lk d hi hp
    exact ⟨d1, by rw [wipeS_get, if_neg m]; exact h1, by rw [wipe_stV, if_neg m]; exact w1, e1⟩
theorem env_wiped {vs : List Nat} (e : SEnv K T F H ρ σ) (n : noMut ρ vs = true) : SEnv K T F H (wipeS ρ vs) (L2.wipe σ vs) ∧ ∀ a, Own (wipeS ρ vs) (L2.wipe σ vs) a ↔ Own ρ σ a := by
  have own : ∀ i b, OA (wipeS ρ vs) (L2.wipe σ vs) i b ↔ OA ρ σ i b := fun i b => by
    constructor
    · rintro ⟨⟨x, y, z, w⟩, k⟩
      rw [wipeS_get] at w
      rw [wipe_stV] at k
      by_cases m : i ∈ vs
      · rw [if_pos m] at w; cases w
      · rw [if_neg m] at w k; exact ⟨⟨x, y, z, w⟩, k⟩
    · rintro ⟨⟨x, y, z, w⟩, k⟩
      have m : i ∉ vs := fun q => noMut_at n q _ _ _ w
      exact ⟨⟨x, y, z, by rw [wipeS_get, if_neg m]; exact w⟩, by rw [wipe_stV, if_neg m]; exact k⟩
  refine ⟨⟨by rw [wipeS_len, wipe_length]; exact e.len, e.sub, e.tabF, e.tabH, fun i => ?_, fun i j b hi hj => e.apart i j b ((own i b).mp hi) ((own j b).mp hj)⟩, fun a => ⟨fun ⟨i, hi⟩ => ⟨i, (own i a).mp hi⟩, fun ⟨i, hi⟩ => ⟨i, (own i a).mpr hi⟩⟩⟩
  rw [wipeS_get, wipe_stV]
  by_cases m : i ∈ vs
  · rw [if_pos m]; trivial
  · rw [if_neg m, if_neg m]; exact e.slot i
/-- behind the block: its slots are as they were -/
theorem GoW.back {vs : List Nat} (e : SEnv K T F0 H0 ρ σ) (n : noMut ρ vs = true) (a : GoW K T (Own (wipeS ρ vs) (L2.wipe σ vs)) (L2.wipe σ vs) (wipeS ρ vs) F0 H0 (L2.wipe σ vs) ρ' F H) : Go K T σ ρ F0 H0 (backS ρ ρ' vs) F H := by
  obtain ⟨e1, ow⟩ := env_wiped e n
  have hl : ρ'.length = ρ.length := by rw [a.env.len, wipe_length, ← e.len]
  have own : ∀ i b, OA (backS ρ ρ' vs) σ i b → i ∉ vs ∧ OA ρ' (L2.wipe σ vs) i b := fun i b ⟨⟨x, y, z, w⟩, k⟩ => by
    rw [backS_get hl] at w
    by_cases m : i ∈ vs
    · rw [if_pos m] at w; exact absurd w (noMut_at n m _ _ _)
    · rw [if_neg m] at w; exact ⟨m, ⟨x, y, z, w⟩, by rw [wipe_stV, if_neg m]; exact k⟩
  refine ⟨⟨a.fw.fsub, fun b u hb nb nt => a.fw.keep b u hb (fun z => nb ((ow b).mp z)) nt, a.fw.stay, fun b u hb => (a.fw.new b u hb).imp id (Or.imp id (ow b).mp)⟩,
    ⟨by rw [backS_len, hl]; exact e.len, a.env.sub, a.env.tabF, a.env.tabH, fun i => ?_, fun i j b hi hj => a.env.apart i j b (own i b hi).2 (own j b hj).2⟩, fun b ⟨i, hi⟩ => (ow b).mp (a.own b ⟨i, (own i b hi).2⟩), fun i io lk d hi hp => ?_⟩
  · rw [backS_get hl]
    by_cases m : i ∈ vs
    · rw [if_pos m]
      have s := e.slot i
      cases hp : getS ρ i with
      | non => trivial
      | shr d => rw [hp] at s; obtain ⟨v, e1, r⟩ := s; exact ⟨v, e1, r.mono a.fw.fsub⟩
      | hld x y z => exact absurd hp (noMut_at n m _ _ _)
    · rw [if_neg m]
      have s := a.env.slot i
      rw [wipe_stV, if_neg m] at s
      exact s
  · have m : i ∉ vs := fun z => noMut_at n z _ _ _ hi
    obtain ⟨d1, h1, w1, e1⟩ := a.pin i io lk d (by rw [wipeS_get, if_neg m]; exact hi) hp
    exact ⟨d1, by rw [backS_get hl, if_neg m]; exact h1, e1⟩
theorem still_wipe {vs : List Nat} (s : Still g σ σ') (hs : ∀ j, j ∉ vs → storable g j = false) : L2.wipe σ' vs = L2.wipe σ vs := by
  apply List.ext_getElem?
  intro j
  have key : ∀ (τ : Sg), (L2.wipe τ vs)[j]? = if j ∈ vs then (if j < τ.length then some none else none) else τ[j]? := by
    intro τ
    clear hs s
    induction vs with
    | nil => simp [L2.wipe]
    | cons v vs ih =>
      rw [L2.wipe, List.getElem?_set, wipe_length, ih]
      by_cases e : v = j
      · subst e; by_cases l : v < τ.length <;> simp [l]
      · simp only [e, if_false, List.mem_cons, Ne.symm e, false_or]
  rw [key, key, s.len]
  by_cases m : j ∈ vs
  · simp [m]
  · simp only [m, if_false]; exact s.at_ j (hs j m)
theorem wipe_wipe {vs : List Nat} : L2.wipe (L2.wipe σ vs) vs = L2.wipe σ vs := by
  refine still_wipe (g := { nm := [], sc := { kind := .function, names := [], isGenerator := false, isCoroutine := false }, st := some vs, fn := [], cs := [], bl := [] }) ⟨wipe_length _ _, fun j q => ?_⟩ fun j m => ?_
  · have m : j ∉ vs := fun z => by
      have : storable { nm := [], sc := { kind := .function, names := [], isGenerator := false, isCoroutine := false }, st := some vs, fn := [], cs := [], bl := [] } j = true := List.contains_iff_mem.mpr z
      rw [this] at q; cases q
    exact wipe_out m
  · cases q : storable { nm := [], sc := { kind := .function, names := [], isGenerator := false, isCoroutine := false }, st := some vs, fn := [], cs := [], bl := [] } j with
    | false => rfl
    | true => exact absurd (List.contains_iff_mem.mp q) m
end Ev
end
section
set_option Elab.async false
set_option linter.all false
set_option maxRecDepth 100000
/-! List comprehensions. -/
namespace Ev
open PySem PySem.Spec PyProof.Rows L2
variable {Z : Fix} {g : Sta} {h : List Calls} {K : PySem.W.Frag} {F F' F1 F2 F3 H H' H1 H2 H3 : Hp} {T : List Addr} {σ σ' σ1 σ2 : Sg} {ρ ρ' ρ1 ρ2 ρ3 : Sl} {W : WX} {X : Cx} {C : ExW} {O : Addr → Prop}
abbrev noW : WX := fun _ _ _ _ => False
theorem blk_ok {nm : List Str} {sc scope : Scope} {own : List (Str × Nat)} (hb : Ev.blkC nm sc scope own = true) : L2.BlkOk nm sc scope own := L2.blkOk_by hb
theorem relabel_eq {scope : Scope} {env : Env} : relabel scope env = Ev.relS scope env.scope := rfl
theorem own_mem {nm : List Str} {scope : Scope} {i : Nat} {x : Str} (nd : nm.Nodup) (hu : ∀ y ∈ scope.names, scope.names.lookup y.1 = some y.2) (hi : ((ownOf nm scope).map (·.2)).contains i = true) (hx : nm[i]? = some x) :
    scope.names.lookup x = some .local ∨ scope.names.lookup x = some .cell := by
  rw [List.contains_iff_mem, List.mem_map] at hi
  obtain ⟨⟨y, j⟩, hm, rfl⟩ := hi
  unfold ownOf at hm
  rw [List.mem_filterMap] at hm
  obtain ⟨⟨z, k⟩, hz, hk⟩ := hm
  have fin : ∀ kk, scope.names.lookup z = some kk → (nm.idxOf? z).map (fun i => (z, i)) = some (y, j) → scope.names.lookup x = some kk := fun kk e hk => by
    rw [Option.map_eq_some_iff] at hk
    obtain ⟨j', h1, h2⟩ := hk
    cases h2
    have := idx_some h1
    rw [hx] at this
    cases this
    exact e
  have hu' := hu _ hz
  dsimp only at hu'
  cases k with
  | «local» => exact .inl (fin _ hu' hk)
  | cell => exact .inr (fin _ hu' hk)
  | free => cases hk
  | globalExplicit => cases hk
  | globalImplicit => cases hk
/-- one stands in a comprehension's block -/
theorem At.blk {scope : Scope} {s0 : Shared} {H0 : Hp} {Ca : Addr} {cl : List (Str × Addr)} {fp : List Addr} (a : At Z g h W X) (hb : Ev.blkC g.nm g.sc scope (ownOf g.nm scope) = true) :
    At Z (inBlkS g scope (ownOf g.nm scope)) h noW (X.blk s0 H0 scope (compEnvC scope cl Ca X.env) fp) where
  prog := a.prog
  w := a.w
  K := a.K
  mg := a.mg
  base := a.base
  nm := a.nm
  sc := by show Ev.relS scope X.env.scope = Ev.relS scope g.sc; rw [a.sc]
  nd := a.nd
  room := a.room
  calm := a.calm
  takes := fun u s' ⟨_, _, _, _, _, _, _, _, _, _, _, _, _, _, _, _, w⟩ => w
  owns := PassesOwn.never
  st := fun i x hs hx => by
    have ok := blk_ok hb
    rcases own_mem a.nd ok.uniq hs hx with q | q
    · exact .inr (lookup_relS_keep (by decide) q)
    · exact .inl (by show (scope.names.lookup x == some .cell) = true; rw [q]; rfl)
  fns := fun c t e => ⟨(a.fns c t e).fn⟩
  named := ⟨a.named.cs, a.named.bl⟩
  code := a.code
/-- the tests of a comprehension -/
def wTs (X : Cx) (ifs : List Expr) (σ : Sg) (H : Hp) (Q : Bool → Hp → Prop) : Prop := ∀ pins s, Inv X pins σ H s →
  wpAny (model X.prog X.w) X.A (forIn ifs true fun c r => if r = true then do let ok ← isTrue c X.env (eval c X.env); pure (ForInStep.yield ok) else pure (ForInStep.yield r)) (TP X pins σ Q) X.xe s
theorem pts_w {X : Cx} {ifs : List Expr} : PTs X ifs (wTs X ifs) := ⟨fun pins s _ _ _ I h => h pins s I⟩
theorem wTs_of {X : Cx} {ifs : List Expr} {t : TT} {σ : Sg} {H : Hp} {Q : Bool → Hp → Prop} (h : PTs X ifs t) (q : t σ H Q) : wTs X ifs σ H Q := fun pins s I => h.run pins s σ H Q I q
def STs (Z : Fix) (g : Sta) (h : List Calls) (ifs : List Expr) (f : Sl → R Bool) : Prop := ∀ X W, At Z g h W X → ∀ σ ρ F H Q, SEnv Z.K Z.T F H ρ σ →
  After Z.K Z.T (exC Z) W σ ρ F H (fun b _ _ H' => Q b H') (f ρ) → wTs X ifs σ H Q
theorem sts_nil : STs Z g h [] (fun ρ => .ok true ρ) := fun X W a σ ρ F H Q e q => wTs_of pts_nil (q.here e)
theorem sts_one {c : Expr} {f : Sl → R Bool} (s : ST Z g h c f) : STs Z g h [c] f := fun X W a σ ρ F H Q e q => wTs_of (pts_one pt_w) (s X W a σ ρ F H Q e q)

/-- weakest over all blocks -/
def gB (X : Cx) (scope : Scope) (tg : Expr) : TG := fun v σ H Q => ∀ s H0 C cl fp, wG (X.blk s H0 scope (compEnvC scope cl C X.env) fp) tg v σ H Q
def tB' (X : Cx) (scope : Scope) (ifs : List Expr) : TT := fun σ H Q => ∀ s H0 C cl fp, wTs (X.blk s H0 scope (compEnvC scope cl C X.env) fp) ifs σ H Q
def eB (X : Cx) (scope : Scope) (elt : Expr) : TE := fun σ H Q => ∀ s H0 C cl fp, wE (X.blk s H0 scope (compEnvC scope cl C X.env) fp) elt σ H Q
theorem compL_step {f : D → Sl → R (Option D)} {x : D} {xs ys : List D} {ρE : Sl} (h : compL f (x :: xs) ρ = .ok ys ρE) : ∃ o ρ1 ys', f x ρ = .ok o ρ1 ∧ compL f xs ρ1 = .ok ys' ρE ∧ ys = o.toList ++ ys' := by
  rw [compL] at h
  cases h1 : f x ρ with
  | fail => rw [h1] at h; cases h
  | exc c ρ1 => rw [h1] at h; cases h
  | ok o ρ1 =>
    rw [h1] at h
    change ((compL f xs ρ1).bind fun ys ρ2 => R.ok (o.toList ++ ys) ρ2) = _ at h
    cases h2 : compL f xs ρ1 with
    | fail => rw [h2] at h; cases h
    | exc c ρ1 => rw [h2] at h; cases h
    | ok ys' ρ2 => rw [h2] at h; cases h; exact ⟨o, ρ1, ys', rfl, h2, rfl⟩
theorem turn_ok {α : Type} {vs : List Nat} {tg : Tg} {t : Sl → R Bool} {e : Sl → R α} {x : D} {o : Option α} {ρE : Sl} (h : turn vs tg t e x ρ = .ok o ρE) :
    ∃ ρ1 b ρ2, asg tg (.shr x) ρ = some ρ1 ∧ t ρ1 = .ok b ρ2 ∧ ((b = false ∧ o = none ∧ ρE = wipeS ρ2 vs) ∨ b = true ∧ ∃ d ρ3, e ρ2 = .ok d ρ3 ∧ o = some d ∧ ρE = wipeS ρ3 vs) := by
  unfold turn at h
  split at h
  · cases h
  · rename_i ρ1 ha
    cases ht : t ρ1 with
    | fail => rw [ht] at h; cases h
    | exc c r => rw [ht] at h; cases h
    | ok b ρ2 =>
      rw [ht] at h
      refine ⟨ρ1, b, ρ2, ha, ht, ?_⟩
      cases b with
      | false =>
        change R.ok none (wipeS ρ2 vs) = _ at h
        cases h
        exact .inl ⟨rfl, rfl, rfl⟩
      | true =>
        change ((e ρ2).bind fun d ρ3 => R.ok (some d) (wipeS ρ3 vs)) = _ at h
        cases he : e ρ2 with
        | fail => rw [he] at h; cases h
        | exc c r => rw [he] at h; cases h
        | ok d ρ3 => rw [he] at h; cases h; exact .inr ⟨rfl, d, ρ3, rfl, rfl, rfl⟩
theorem dat_ok {r : R RV} {d : D} {ρE : Sl} (h : r.dat = .ok d ρE) : ∃ rv, r = .ok rv ρE ∧ rv.d = d := by
  cases r with
  | fail => cases h
  | exc c r => cases h
  | ok rv r => cases h; exact ⟨rv, rfl, rfl⟩
theorem After.of_ok {α : Type} {Ok : α → Sl → Hp → Hp → Prop} {a : α} (q : ∀ F' H', Go K T σ ρ F H ρ' F' H' → Ok a ρ' F' H') {r : R α} (e : r = .ok a ρ') : After K T C W σ ρ F H Ok r := by
  subst e; exact q
theorem sto_blk {scope : Scope} {j : Nat} (hj : j ∉ (ownOf g.nm scope).map (·.2)) : storable (inBlkS g scope (ownOf g.nm scope)) j = false := by
  show ((ownOf g.nm scope).map (·.2)).contains j = false
  cases q : ((ownOf g.nm scope).map (·.2)).contains j with
  | false => rfl
  | true => exact absurd (List.contains_iff_mem.mp q) hj
/-- [elt for tg in iter if ..] -/
theorem comp_core {elt tg iter : Expr} {ifs : List Expr} {scope : Scope} {t : Tg} {fit : Sl → R Its} {ft : Sl → R Bool} {fe : Sl → R RV} (si : SIt Z g h tg iter fit) (hb : Ev.blkC g.nm g.sc scope (ownOf g.nm scope) = true)
    (sg : SG Z (inBlkS g scope (ownOf g.nm scope)) h tg t) (st : STs Z (inBlkS g scope (ownOf g.nm scope)) h ifs ft) (se : SE Z (inBlkS g scope (ownOf g.nm scope)) h elt fe)
    (a : At Z g h W X) {Q : VK} (e : SEnv Z.K Z.T F H ρ σ)
    (q : After Z.K Z.T (exC Z) W σ ρ F H (okV Z H Q) ((fit ρ).bind fun its ρ' => match lockS ρ' its.lk with
      | some ρ1 => (inBlk ((ownOf g.nm scope).map (·.2)) ρ1 (compL (turn ((ownOf g.nm scope).map (·.2)) t ft fun r => (fe r).dat) its.xs)).bind fun ds ρ2 =>
          if its.xs.length ≤ mAx then .ok (.own (.list ds)) (unlockS ρ' ρ2 its.lk) else .fail
      | none => .fail)) :
    tLc (wI X tg iter) (gB X scope tg) (tB' X scope ifs) (eB X scope elt) ((ownOf g.nm scope).map (·.2)) σ H Q := by
  generalize hvs : (ownOf g.nm scope).map (·.2) = vs at q ⊢
  refine si.2 X W a σ ρ F H _ e (q.split.mono fun its ρi F1 H1 g1 q1 J ρL hL iok => ?_)
  rw [hL] at q1
  change After _ _ _ _ _ _ _ _ _ ((inBlk vs ρL (compL (turn vs t ft fun r => (fe r).dat) its.xs)).bind fun ds ρ2 => if its.xs.length ≤ mAx then R.ok (RV.own (.list ds)) (unlockS ρi ρ2 its.lk) else .fail) at q1
  unfold inBlk at q1
  cases hn : noMut ρL vs with
  | false => rw [hn] at q1; exact q1.elim
  | true =>
    rw [hn, if_pos rfl] at q1
    cases hc : compL (turn vs t ft fun r => (fe r).dat) its.xs (wipeS ρL vs) with
    | fail => rw [hc] at q1; exact q1.elim
    | exc c r => rw [hc] at q1; exact q1.elim
    | ok ds ρE =>
      rw [hc] at q1
      change After _ _ _ _ _ _ _ _ _ (if its.xs.length ≤ mAx then R.ok (RV.own (.list ds)) (unlockS ρi (backS ρL ρE vs) its.lk) else .fail) at q1
      split at q1
      · rename_i hsz
        obtain ⟨eL, hL2, hL3⟩ := lock_env g1.env hL
        obtain ⟨eB', ow⟩ := env_wiped eL hn
        intro Da nD
        have nDF : F1 Da = none := free_of g1.env.sub nD
        have nDT : Da ∉ Z.T := fun z => g1.env.tabs Da z nD
        have nDO : ¬ Own (wipeS ρL vs) (L2.wipe σ vs) Da := fun z => by
          obtain ⟨u, hu⟩ := eB'.own_some z
          rw [nD] at hu; cases hu
        refine ⟨fun i m H' => ∃ ρ' F' acc done rest, i ≤ its.xs.length ∧ m = its.xs.length - i ∧ compL (turn vs t ft fun r => (fe r).dat) (its.xs.drop i) ρ' = .ok rest ρE ∧ done ++ rest = ds ∧ done.length ≤ i ∧
          GoW Z.K Z.T (Own (wipeS ρL vs) (L2.wipe σ vs)) (L2.wipe σ vs) (wipeS ρL vs) F1 H1 (L2.wipe σ vs) ρ' F' H' ∧ F' Da = none ∧ H' Da = some (.lst acc) ∧ RpA Z.K F' acc done, ⟨its.xs.length, wipeS ρL vs, F1, [], [], ds, Nat.zero_le _, rfl, hc, rfl, Nat.le_refl _, ?_, nDF, upd_same, .nil⟩, ?_⟩
        · exact (GoW.refl eB' fun _ z => z).other nD nDF nDO nDT
        · rintro i m H' ⟨ρ', F', acc, done, rest, hi, rfl, hcr, hdr, hdl, gw, dF, dH, rd⟩
          have lkc : ∀ k, its.lk = some k → getS ρ' k = getS ρL k ∧ stV (L2.wipe σ vs) k = stV σ k := fun k hk => by
            obtain ⟨io, d, hd⟩ := hL3 k hk
            have nk : k ∉ vs := fun z => noMut_at hn z _ _ _ hd
            have hd' : getS (wipeS ρL vs) k = .hld io true d := by rw [wipeS_get, if_neg nk]; exact hd
            obtain ⟨d', w1, _, w3⟩ := gw.pin k io true d hd' (.inr rfl)
            exact ⟨by rw [w1, hd, w3 rfl], by rw [wipe_stV, if_neg nk]⟩
          obtain ⟨go1, go2, go3⟩ := iok.ok ρ' _ F' H' gw.env gw.fw.fsub lkc
          by_cases hlt : i < its.xs.length
          · refine .inr ⟨go1 i hlt, fun H'' => ∃ ρ' F' acc done rest, i + 1 ≤ its.xs.length ∧ compL (turn vs t ft fun r => (fe r).dat) (its.xs.drop (i + 1)) ρ' = .ok rest ρE ∧ done ++ rest = ds ∧ done.length ≤ i + 1 ∧
              GoW Z.K Z.T (Own (wipeS ρL vs) (L2.wipe σ vs)) (L2.wipe σ vs) (wipeS ρL vs) F1 H1 (L2.wipe σ vs) ρ' F' H'' ∧ F' Da = none ∧ H'' Da = some (.lst acc) ∧ RpA Z.K F' acc done, fun H'' ⟨ρ'', F'', acc', done', rest', k1, k2⟩ => ⟨_, by omega, ρ'', F'', acc', done', rest', k1, rfl, k2⟩, fun x H'' y => ?_⟩
            obtain ⟨F2, d, ex, hd, rx⟩ := go3 i x H'' hlt y
            have hdrop : its.xs.drop i = d :: its.xs.drop (i + 1) := by
              rw [List.drop_eq_getElem_cons hlt]
              rw [List.getElem?_eq_getElem hlt] at hd
              cases hd; rfl
            rw [hdrop] at hcr
            obtain ⟨o, ρn, ys', hf, hcr', hys⟩ := compL_step hcr
            obtain ⟨ρ1, b, ρ2, ha, ht, hcase⟩ := turn_ok hf
            have gw2 := gw.go (Go.ext gw.env ex)
            have dF2 : F2 Da = none := by
              cases z : F2 Da with
              | none => rfl
              | some u =>
                rcases ex.new _ _ z with y | y
                · rw [dF] at y; cases y
                · rw [dH] at y; cases y
            have dH2 : H'' Da = some (.lst acc) := ex.hsub _ _ dH
            intro s0 H0 Ca cl fp
            refine sg.2 _ noW (At.blk a hb) (L2.wipe σ vs) ρ' F2 H'' x (.shr d) ρ1 _ gw2.env rx ha fun σ2 s2 ga o2 => ?_
            have gw3 := gw2.asg ga (o2 ⟨d, rfl⟩)
            have hw : L2.wipe σ2 vs = L2.wipe σ vs := by
              rw [still_wipe s2 fun j hj => sto_blk (by rw [hvs]; exact hj), wipe_wipe]
            refine ⟨hw, fun s0 H0 Ca cl fp => ?_⟩
            refine st _ noW (At.blk a hb) σ2 ρ1 F2 H'' _ gw3.env (After.of_ok (fun F3 H3 g3 => ?_) ht)
            have gw4 := gw3.go g3
            have dF3 : F3 Da = none := by
              cases z : F3 Da with
              | none => rfl
              | some u =>
                rcases g3.fw.new _ _ z with y | y | y
                · rw [dF2] at y; cases y
                · rw [dH2] at y; cases y
                · exact absurd (gw3.own Da y) nDO
            have dH3 : H3 Da = some (.lst acc) := g3.fw.keep Da _ dH2 (fun z => nDO (gw3.own Da z)) nDT
            have nvs : ∀ k ∈ vs, getS (wipeS ρL vs) k = .non := fun k hk => by rw [wipeS_get, if_pos hk]
            rcases hcase with ⟨rfl, rfl, rfl⟩ | ⟨rfl, dv, ρ3, he, rfl, rfl⟩
            · rw [if_neg Bool.false_ne_true]
              have := gw4.wiped nvs
              rw [hw] at this
              exact ⟨wipeS ρ2 vs, F3, acc, done, ys', hlt, hcr', by rw [← hdr, hys]; rfl, by omega, this, dF3, dH3, rd.mono ((Same.trans ex.fsub g3.fw.fsub))⟩
            · rw [if_pos rfl]
              intro s0 H0 Ca cl fp
              obtain ⟨rv, hrv, hd2⟩ := dat_ok he
              refine se _ noW (At.blk a hb) σ2 ρ2 F3 H3 _ g3.env (After.of_ok (fun F4 H4 g4 v4 r4 => ?_) hrv)
              obtain ⟨F5, g5, r5, sm5⟩ := Go.dat g3.env g4 r4
              have gw5 := gw4.go g5
              have dF5 : F5 Da = none := by
                cases z : F5 Da with
                | none => rfl
                | some u =>
                  rcases g5.fw.new _ _ z with y | y | y
                  · rw [dF3] at y; cases y
                  · rw [dH3] at y; cases y
                  · exact absurd (gw4.own Da y) nDO
              have dH5 : H4 Da = some (.lst acc) := g5.fw.keep Da _ dH3 (fun z => nDO (gw4.own Da z)) nDT
              have := (gw5.other (o := .lst (acc ++ [v4])) nD dF5 nDO nDT).wiped nvs
              rw [hw] at this
              have racc := rd.mono ((Same.trans (Same.trans ex.fsub g3.fw.fsub) g5.fw.fsub))
              refine ⟨acc, dH5, ?_, wipeS ρ3 vs, F5, acc ++ [v4], done ++ [dv], ys', hlt, hcr', by rw [← hdr, hys]; simp, by rw [List.length_append, List.length_singleton]; omega, this, dF5, upd_same, racc.append (.cons (by rw [← hd2]; exact r5) .nil)⟩
              rw [racc.length, sizeLine_eq]
              unfold mAx at hsz
              omega
          · have hi' : i = its.xs.length := by omega
            subst hi'
            rw [List.drop_length] at hcr
            cases hcr
            refine .inl ⟨go2, ?_⟩
            have gb := GoW.back eL hn gw
            have gu := Go.unlock g1.env hL gb
            have n0 : H Da = none := by
              cases w : H Da with
              | none => rfl
              | some u => obtain ⟨_, z⟩ := g1.fw.stay _ _ w; rw [nD] at z; cases z
            rw [List.append_nil] at hdr
            subst hdr
            exact q1 F' H' gu (.ref Da) ⟨Da, rfl, dF, nDT, n0, acc, dH, rd⟩
      · exact q1.elim
theorem se_comp {elt tg iter : Expr} {ifs : List Expr} {scope : Scope} {pos : Pos} {t : Tg} {fit : Sl → R Its} {ft : Sl → R Bool} {fe : Sl → R RV} (si : SIt Z g h tg iter fit) (hb : Ev.blkC g.nm g.sc scope (ownOf g.nm scope) = true)
    (sg : SG Z (inBlkS g scope (ownOf g.nm scope)) h tg t) (st : STs Z (inBlkS g scope (ownOf g.nm scope)) h ifs ft) (se : SE Z (inBlkS g scope (ownOf g.nm scope)) h elt fe) :
    SE Z g h (.ListComp elt [⟨tg, iter, ifs, 0⟩] scope pos) (fun ρ => (fit ρ).bind fun its ρ' => match lockS ρ' its.lk with
      | some ρ1 => (inBlk ((ownOf g.nm scope).map (·.2)) ρ1 (compL (turn ((ownOf g.nm scope).map (·.2)) t ft fun r => (fe r).dat) its.xs)).bind fun ds ρ2 =>
          if its.xs.length ≤ mAx then .ok (.own (.list ds)) (unlockS ρ' ρ2 its.lk) else .fail
      | none => .fail) := by
  intro X W a σ ρ F H Q e q
  exact wE_of (pe_lc a.calm (by rw [a.nm]; exact a.nd) pi_w (by rw [a.nm, a.sc]; exact blk_ok hb) (fun s0 H0 C cl fp => ⟨fun pins s σ H v u Q I r w => w s0 H0 C cl fp pins s u I r⟩) (fun s0 H0 C cl fp => ⟨fun pins s σ H Q I w => w s0 H0 C cl fp pins s I⟩)
    (fun s0 H0 C cl fp => ⟨fun pins s σ H Q I w => w s0 H0 C cl fp pins s I⟩) (si.1 _)) (comp_core si hb sg st se a e q)
end Ev
end
section
set_option Elab.async false
set_option linter.all false
set_option maxRecDepth 100000
/-! Statements, construct by construct. -/
namespace Ev
open PySem PySem.Spec PyProof.Rows L2
variable {Z : Fix} {g : Sta} {h : List Calls} {K : PySem.W.Frag} {F F' F1 F2 F3 H H' H1 H2 H3 : Hp} {T : List Addr} {σ σ' σ1 σ2 : Sg} {ρ ρ' ρ1 ρ2 ρ3 : Sl} {W : WX} {X : Cx} {C : ExW} {O : Addr → Prop}
theorem AfterS.here_nx {D : Ends} (e : SEnv K T F H ρ σ) (q : AfterS K T C W σ ρ F H D (.nx ρ)) : D.nx σ H := q σ F H (GoS.refl e)
theorem ss_pass {pos : Pos} : SS Z g h (.Pass pos) (fun ρ => .nx ρ) := fun X W a σ ρ F H D e q => wS_of ps_pass (q.here_nx e)
theorem ss_brk {pos : Pos} : SS Z g h (.Break pos) (fun ρ => .bk ρ) := fun X W a σ ρ F H D e q => wS_of ps_break (q σ F H (GoS.refl e))
theorem ss_cnt {pos : Pos} : SS Z g h (.Continue pos) (fun ρ => .ct ρ) := fun X W a σ ρ F H D e q => wS_of ps_continue (q σ F H (GoS.refl e))
theorem ss_retn {pos : Pos} : SS Z g h (.Return none pos) (fun ρ => .rt (.shr .none) ρ) := fun X W a σ ρ F H D e q => wS_of ps_retN (q σ F H .non (GoS.refl e) .non)
theorem swaps_no {e : Expr} (n : noComp e = true) (t : Option Expr) (l : Nat) (env : Env) : swapsWith e t l env = pure false := by
  cases e <;> first | rfl | exact absurd n (by simp [noComp])
theorem ss_ex {e0 : Expr} {pos : Pos} {f : Sl → R RV} (s : SE Z g h e0 f) (n : noComp e0 = true) : SS Z g h (.Expr e0 pos) (fun ρ => Out.ofR (fun _ ρ' => .nx ρ') (f ρ)) := by
  intro X W a σ ρ F H D e q
  exact wS_of (ps_expr pe_w (swaps_no n _ _ _)) (s X W a σ ρ F H _ e (q.ofR.mono fun rv ρ1 F1 H1 g1 q1 v r => q1.here_nx g1.env))
theorem rvS_of {H0 : Hp} {v : V} {rv : RV} (e : SEnv K T F0 H0 ρ σ) (go : Go K T σ ρ F0 H0 ρ' F' H') (r : RvOk K T F' H' H0 v rv) : RvS K T F' H' ρ' σ H0 ρ σ v rv := by
  cases rv with
  | shr d => exact r
  | own d =>
    obtain ⟨a, e1, f, t, n, q⟩ := r
    exact ⟨a, e1, f, t, .inl n, (fun z => by obtain ⟨u, hu⟩ := e.own_some (go.own a z); rw [n] at hu; cases hu), q⟩
theorem AfterS.rt_of {D : Ends} {r : R RV} (e : SEnv K T F H ρ σ) (q : AfterS K T C W σ ρ F H D (Out.ofR (fun v ρ' => .rt v ρ') r)) : After K T C W σ ρ F H (fun rv _ F' H' => ∀ v, RvOk K T F' H' H v rv → D.rt v H') r := by
  cases r with
  | fail => exact q
  | exc c ρ' => exact fun F' H' cls dd g hc => q σ F' H' cls dd g.s hc
  | ok rv ρ' => exact fun F' H' g v r => q σ F' H' v g.s (rvS_of e g r)
theorem ss_ret {e0 : Expr} {pos : Pos} {f : Sl → R RV} (s : SE Z g h e0 f) : SS Z g h (.Return (some e0) pos) (fun ρ => Out.ofR (fun v ρ' => .rt v ρ') (f ρ)) := by
  intro X W a σ ρ F H D e q
  exact wS_of (ps_ret pe_w) (s X W a σ ρ F H _ e (AfterS.rt_of e q))
/-- return of a name: a slot's own list leaves it -/
theorem ss_retv {x : Str} {p pos : Pos} {i : Nat} (hs : slot g x = some i) : SS Z g h (.Return (some (.Name x p)) pos) (fun ρ => match getS ρ i with
    | .shr d => .rt (.shr d) ρ
    | .hld false false d => .rt (.own d) (ρ.set i .non)
    | _ => .fail) := by
  intro X W a σ ρ F H D e q
  have pe := slot_pe (pos := p) hs a
  dsimp only at q
  split at q
  · rename_i d hp
    have s := e.slot i
    rw [hp] at s
    obtain ⟨v, e1, r⟩ := s
    exact wS_of (ps_ret pe) ⟨v, stV_get e1, q σ F H v (GoS.refl e) r⟩
  · rename_i d hp
    obtain ⟨b, e1, f, t, hq, oa⟩ := e.at hp
    have li : i < ρ.length := getS_lt (by rw [hp]; exact fun z => nomatch z)
    have own : ∀ j c, OA (ρ.set i .non) σ j c → i ≠ j ∧ OA ρ σ j c := fun j c ⟨⟨x, y, z, w⟩, k⟩ => by
      by_cases hj : i = j
      · subst hj; rw [getS_self li] at w; cases w
      · rw [getS_ne hj] at w; exact ⟨hj, ⟨_, _, _, w⟩, k⟩
    refine wS_of (ps_ret pe) ⟨.ref b, stV_get e1, q σ F H (.ref b) ⟨.refl, ⟨by rw [List.length_set]; exact e.len, e.sub, e.tabF, e.tabH, fun j => ?_, fun j k c hj hk => e.apart j k c (own j c hj).2 (own k c hk).2⟩, fun c ⟨j, hj⟩ => .inl ⟨j, (own j c hj).2⟩, fun j io lk d' hj hpn => ?_⟩ ⟨b, rfl, f, t, .inr ⟨i, oa⟩, fun ⟨j, hj⟩ => (own j b hj).1 (e.apart i j b oa (own j b hj).2), hq⟩⟩
    · by_cases hj : i = j
      · subst hj; rw [getS_self li]; trivial
      · rw [getS_ne hj]; exact e.slot j
    · have ne : i ≠ j := fun z => by subst z; rw [hp] at hj; cases hj; simp at hpn
      exact ⟨d', by rw [getS_ne ne]; exact hj, rfl, fun _ => rfl⟩
  · exact q.elim
theorem ss_if {c : Expr} {x y : List Stmt} {pos : Pos} {fc : Sl → R Bool} {fx fy : Sl → Out} (sc : ST Z g h c fc) (sx : SSs Z g h x fx) (sy : SSs Z g h y fy) : SS Z g h (.If c x y pos) (fun ρ => Out.ofR (fun b ρ' => if b then fx ρ' else fy ρ') (fc ρ)) := by
  intro X W a σ ρ F H D e q
  refine wS_of (ps_if pt_w pss_w pss_w) (sc X W a σ ρ F H _ e (q.ofR.mono fun b ρ1 F1 H1 g1 q1 => ?_))
  cases b with
  | true => rw [if_pos rfl] at q1 ⊢; exact sx X W a σ ρ1 F1 H1 D g1.env q1
  | false => rw [if_neg Bool.false_ne_true] at q1 ⊢; exact sy X W a σ ρ1 F1 H1 D g1.env q1
theorem sss_nil : SSs Z g h [] (fun ρ => .nx ρ) := fun X W a σ ρ F H D e q => wSs_of pss_nil (q.here_nx e)
theorem sss_cons {s : Stmt} {ss : List Stmt} {f fs : Sl → Out} (h1 : SS Z g h s f) (h2 : SSs Z g h ss fs) : SSs Z g h (s :: ss) (fun ρ => match f ρ with
    | .nx ρ' => fs ρ'
    | o => o) := by
  intro X W a σ ρ F H D e q
  refine wSs_of (pss_cons ps_w pss_w) (h1 X W a σ ρ F H _ e ?_)
  cases hf : f ρ with
  | nx ρ' =>
    simp only [hf] at q
    exact fun σ' F' H' go => h2 X W a σ' ρ' F' H' D go.env (AfterS.from go q)
  | fail => simp only [hf] at q; exact q
  | bk ρ' => simp only [hf] at q; exact q
  | ct ρ' => simp only [hf] at q; exact q
  | rt v ρ' => simp only [hf] at q; exact q
  | exc c ρ' => simp only [hf] at q; exact q

/-! ### assignments -/
/-- behind the value: it is stored -/
theorem set_after {tg : Expr} {t : Tg} {D : Ends} {rv : RV} {v : V} (sg : SG Z g h tg t) (a : At Z g h W X) (e : SEnv Z.K Z.T F H ρ σ) (go : Go Z.K Z.T σ ρ F H ρ1 F1 H1) (r : RvOk Z.K Z.T F1 H1 H v rv) (ha : asg t rv ρ1 = some ρ2)
    (q : AfterS Z.K Z.T C W σ ρ F H D (.nx ρ2)) : wG X tg v σ H1 D.nx := by
  have ra : RvA Z.K Z.T F1 H1 ρ1 σ v rv := by
    cases rv with
    | shr d => exact r
    | own d =>
      obtain ⟨b, e1, f, t, n, hq⟩ := r
      exact ⟨b, e1, f, t, (fun z => by obtain ⟨u, hu⟩ := e.own_some (go.own b z); rw [n] at hu; cases hu), hq⟩
  refine sg.2 X W a σ ρ1 F1 H1 v rv ρ2 _ go.env ra ha fun σ' st ga oo => q σ' F1 H1 ⟨go.fw, ga.env, fun x hx => ?_, fun i io lk d hi hp => ?_⟩
  · rcases ga.own x hx with z | ⟨z, no⟩
    · exact .inl (go.own x z)
    · cases rv with
      | shr d => exact .inl (go.own x (oo ⟨d, rfl⟩ x hx))
      | own d =>
        obtain ⟨b, e1, f, t, n, hq⟩ := r
        rw [z] at e1
        cases e1
        exact .inr n
  · obtain ⟨d1, h1, e1⟩ := go.pin i io lk d hi hp
    obtain ⟨h2, w2⟩ := ga.pin i io lk d1 h1 hp
    exact ⟨d1, h2, w2, e1⟩
theorem swapped_no {tg e : Expr} (n : noPair tg e = true) (env : Env) : swappedStores [tg] e env = pure none := by
  cases tg <;> first | rfl | (cases e <;> first | rfl | exact absurd n (by simp [noPair]))
theorem ss_set {tg e0 : Expr} {pos : Pos} {t : Tg} {f : Sl → R RV} (sg : SG Z g h tg t) (s : SE Z g h e0 f) (n : noPair tg e0 = true) (hsw : ∀ env : Env, env.scope = g.sc → swapsWith e0 (some tg) pos.line env = pure false) :
    SS Z g h (.Assign [tg] e0 pos) (fun ρ => Out.ofR (fun v ρ' => match asg t v ρ' with
    | some ρ2 => .nx ρ2
    | none => .fail) (f ρ)) := by
  intro X W a σ ρ F H D e q
  refine wS_of (ps_asg pe_w pg_w (hsw X.env a.sc) (swapped_no n _) (by cases tg <;> first | rfl | exact (sg.1 _ _ rfl).elim)) (s X W a σ ρ F H _ e ?_)
  cases hf : f ρ with
  | fail => simp only [hf] at q; exact q
  | exc c ρ' => simp only [hf] at q; exact fun F' H' cls dd g hc => q σ F' H' cls dd g.s hc
  | ok rv ρ1 =>
    simp only [hf] at q
    intro F1 H1 go v r
    change AfterS _ _ _ _ _ _ _ _ _ (match asg t rv ρ1 with | some ρ2 => Out.nx ρ2 | none => .fail) at q
    split at q
    · rename_i ρ2 ha
      exact set_after sg a e go r ha q
    · exact q.elim
theorem sw_lc {elt : Expr} {gs : List Comprehension} {scope : Scope} {pos py : Pos} {y : Str} {l : Nat} {env : Env} : swapsWith (.ListComp elt gs scope pos) (some (.Name y py)) l env =
    pure (env.blockKind == .function && env.kindOf y == some .local && py.line == pos.line && !(scope.names.any fun (n, k) => n == y && (k == .local || k == .cell))) := rfl
/-- y = [elt for ..] -/
theorem ss_setLc {y : Str} {py pos spos : Pos} {i : Nat} {elt tg iter : Expr} {ifs : List Expr} {scope : Scope} {t : Tg} {fit : Sl → R Its} {ft : Sl → R Bool} {fe : Sl → R RV} (hs : slot g y = some i) (hst : storable g i = true) (hl : kd g y = some .local ∨ kd g y = some .cell)
    (si : SIt Z g h tg iter fit) (hb : Ev.blkC g.nm g.sc scope (ownOf g.nm scope) = true)
    (sg : SG Z (inBlkS g scope (ownOf g.nm scope)) h tg t) (st : STs Z (inBlkS g scope (ownOf g.nm scope)) h ifs ft) (se : SE Z (inBlkS g scope (ownOf g.nm scope)) h elt fe) :
    SS Z g h (.Assign [.Name y py] (.ListComp elt [⟨tg, iter, ifs, 0⟩] scope pos) spos) (fun ρ => Out.ofR (fun v ρ' => match asg (.var i) v ρ' with
    | some ρ2 => .nx ρ2
    | none => .fail) ((fit ρ).bind fun its ρ' => match lockS ρ' its.lk with
      | some ρ1 => (inBlk ((ownOf g.nm scope).map (·.2)) ρ1 (compL (turn ((ownOf g.nm scope).map (·.2)) t ft fun r => (fe r).dat) its.xs)).bind fun ds ρ2 =>
          if its.xs.length ≤ mAx then .ok (.own (.list ds)) (unlockS ρ' ρ2 its.lk) else .fail
      | none => .fail)) := by
  have sgn : SG Z g h (.Name y py) (.var i) := sg_name hs hst hl
  intro X W a σ ρ F H D e q
  obtain ⟨h1, h2, h3, h4⟩ := slot_some hs
  by_cases hsw : (X.env.blockKind == .function && X.env.kindOf y == some .local && py.line == pos.line && !(scope.names.any fun (n, k) => n == y && (k == .local || k == .cell))) = true
  · have hloc : X.env.scope.names.lookup y = some .local := by
      simp only [Bool.and_eq_true] at hsw
      exact eq_of_beq hsw.1.1.2
    have hN : X.N[i]? = some y := by rw [a.nm]; exact h1
    refine wS_of (ps_setLc a.calm (by rw [a.nm]; exact a.nd) hN hloc (by rw [sw_lc, hsw]) pi_w (by rw [a.nm, a.sc]; exact blk_ok hb) (fun s0 H0 C cl fp => ⟨fun pins s σ H v u Q I r w => w s0 H0 C cl fp pins s u I r⟩) (fun s0 H0 C cl fp => ⟨fun pins s σ H Q I w => w s0 H0 C cl fp pins s I⟩)
      (fun s0 H0 C cl fp => ⟨fun pins s σ H Q I w => w s0 H0 C cl fp pins s I⟩) (si.1 _)) (comp_core si hb sg st se a (Q := fun v H1 => gName i v σ H1 D.nx) e ?_)
    dsimp only at q ⊢
    generalize hr : (Ev.R.bind (fit ρ) _ : R RV) = r0 at q ⊢
    cases r0 with
    | fail => exact q
    | exc c ρ' => exact fun F' H' cls dd g hc => q σ F' H' cls dd g.s hc
    | ok rv ρ1 =>
      intro F1 H1 go v r
      change AfterS _ _ _ _ _ _ _ _ _ (match asg (.var i) rv ρ1 with | some ρ2 => Out.nx ρ2 | none => .fail) at q
      split at q
      · rename_i ρ2 ha
        have ra : RvA Z.K Z.T F1 H1 ρ1 σ v rv := by
          cases rv with
          | shr d => exact r
          | own d =>
            obtain ⟨b, e1, f, t, n, hq⟩ := r
            exact ⟨b, e1, f, t, (fun z => by obtain ⟨u, hu⟩ := e.own_some (go.own b z); rw [n] at hu; cases hu), hq⟩
        have ga := GoA.set go.env ra ha
        refine q _ F1 H1 ⟨go.fw, ga.env, fun x hx => ?_, fun j io lk d hi hp => ?_⟩
        · rcases ga.own x hx with z | ⟨z, no⟩
          · exact .inl (go.own x z)
          · cases rv with
            | shr d =>
              exfalso
              obtain ⟨j, ⟨p1, p2, p3, w⟩, k⟩ := hx
              change setS ρ1 i (.shr d) = some ρ2 at ha
              unfold setS at ha
              split at ha
              · rename_i hf
                cases ha
                rw [Bool.and_eq_true] at hf
                have li : i < ρ1.length := of_decide_eq_true hf.2
                have lσ : i < σ.length := by rw [← go.env.len]; exact li
                by_cases hj : i = j
                · subst hj; rw [getS_self li] at w; cases w
                · rw [getS_ne hj] at w
                  rw [stV_set lσ, if_neg hj] at k
                  exact no ⟨j, ⟨p1, p2, p3, w⟩, k⟩
              · cases ha
            | own d =>
              obtain ⟨b, e1, f, t, n, hq⟩ := r
              rw [z] at e1
              cases e1
              exact .inr n
        · obtain ⟨d1, w1, e1⟩ := go.pin j io lk d hi hp
          obtain ⟨w2, w3⟩ := ga.pin j io lk d1 w1 hp
          exact ⟨d1, w2, w3, e1⟩
      · exact q.elim
  · refine wS_of (ps_asg pe_w pg_w (by show swapsWith (.ListComp elt [⟨tg, iter, ifs, 0⟩] scope pos) (some (.Name y py)) spos.line X.env = _; rw [sw_lc, Bool.eq_false_iff.mpr hsw]) (swapped_no rfl _)) (se_comp si hb sg st se X W a σ ρ F H _ e ?_)
    dsimp only at q ⊢
    generalize hr : (Ev.R.bind (fit ρ) _ : R RV) = r0 at q ⊢
    cases r0 with
    | fail => exact q
    | exc c ρ' => exact fun F' H' cls dd g hc => q σ F' H' cls dd g.s hc
    | ok rv ρ1 =>
      intro F1 H1 go v r
      change AfterS _ _ _ _ _ _ _ _ _ (match asg (.var i) rv ρ1 with | some ρ2 => Out.nx ρ2 | none => .fail) at q
      split at q
      · rename_i ρ2 ha
        exact set_after sgn a e go r ha q
      · exact q.elim
end Ev
end
section
set_option linter.all false
/-! Tools for what a def of IR computes: loops and comprehensions by what they keep. -/
namespace Ev
open PySem
theorem rangeL_map (i : Int) (n : Nat) : rangeL i n = (List.range n).map fun k => .int (i + (k : Int)) := by
  induction n generalizing i with
  | zero => rfl
  | succ n ih =>
    rw [rangeL, ih, List.range_succ_eq_map, List.map_cons, List.map_map]
    congr 1
    · simp
    · apply List.map_congr_left
      intro k _
      simp only [Function.comp]
      congr 1
      push_cast
      omega
theorem compL_run {f : D → Sl → R (Option D)} {ρ : Sl} (g : D → Option D) : (xs : List D) → (h : ∀ x ∈ xs, f x ρ = .ok (g x) ρ) → compL f xs ρ = .ok (xs.filterMap g) ρ
  | [], _ => rfl
  | x :: xs, h => by
    have e := h x (by simp)
    have r := compL_run g xs fun y hy => h y (by simp [hy])
    cases q : g x with
    | none => simp [compL, e, r, q, List.filterMap_cons]
    | some y => simp [compL, e, r, q, List.filterMap_cons]
theorem stopL_run {b : Bool} {f : D → Sl → R (Option Bool)} {ρ : Sl} (g : D → Option Bool) : (xs : List D) → (h : ∀ x ∈ xs, f x ρ = .ok (g x) ρ) → stopL b f xs ρ = .ok (if xs.any (fun x => g x == some b) then b else !b) ρ
  | [], _ => by simp [stopL]
  | x :: xs, h => by
    have e := h x (by simp)
    have r := stopL_run (b := b) g xs fun y hy => h y (by simp [hy])
    by_cases q : g x = some b
    · simp [stopL, e, q]
    · have q2 : (g x == some b) = false := by simpa using q
      simp [stopL, e, r, q, q2]
/-- a loop by what holds behind each turn -/
theorem forL_inv {ρ0 : Sl} {f : D → Sl → Out} (P : List D → Sl → Prop) : (done xs : List D) → (ρ : Sl) → P done ρ →
    (h : ∀ d x r ρ, done ++ xs = d ++ x :: r → P d ρ → ∃ ρ', (f x ρ = .nx ρ' ∨ f x ρ = .ct ρ') ∧ P (d ++ [x]) (rst ρ0 ρ')) →
    ∃ ρ', forL ρ0 f xs ρ = .nx ρ' ∧ P (done ++ xs) ρ'
  | done, [], ρ, hp, _ => ⟨ρ, rfl, by simpa using hp⟩
  | done, x :: xs, ρ, hp, h => by
    obtain ⟨ρ', e, p'⟩ := h done x xs ρ rfl hp
    obtain ⟨ρ2, e2, p2⟩ := forL_inv P (done ++ [x]) xs (rst ρ0 ρ') p' fun d y r ρ he hd => h d y r ρ (by simpa using he) hd
    refine ⟨ρ2, ?_, by simpa using p2⟩
    rcases e with e | e <;> simp [forL, e, e2]
theorem forL_keep {ρ0 : Sl} {f : D → Sl → Out} (P : List D → Sl → Prop) (xs : List D) (ρ : Sl) (hp : P [] ρ)
    (h : ∀ d x r ρ, xs = d ++ x :: r → P d ρ → ∃ ρ', (f x ρ = .nx ρ' ∨ f x ρ = .ct ρ') ∧ P (d ++ [x]) (rst ρ0 ρ')) :
    ∃ ρ', forL ρ0 f xs ρ = .nx ρ' ∧ P xs ρ' := by
  simpa using forL_inv P [] xs ρ hp (by simpa using h)
/-- a loop whose slots are told by a state -/
theorem forL_fold {σ : Type} {ρ0 : Sl} {f : D → Sl → Out} (mk : σ → Sl) (step : σ → D → σ) : (xs : List D) → (s : σ) →
    (h : ∀ s, ∀ x ∈ xs, ∃ ρ', (f x (mk s) = .nx ρ' ∨ f x (mk s) = .ct ρ') ∧ rst ρ0 ρ' = mk (step s x)) → forL ρ0 f xs (mk s) = .nx (mk (xs.foldl step s))
  | [], s, _ => rfl
  | x :: xs, s, h => by
    obtain ⟨ρ', e, e1⟩ := h s x (by simp)
    have r := forL_fold mk step xs (step s x) fun s y hy => h s y (by simp [hy])
    rcases e with e | e <;> simp [forL, e, e1, r]
theorem bind_ok {α β : Type} (a : α) (ρ : Sl) (k : α → Sl → R β) : (R.ok a ρ).bind k = k a ρ := rfl
theorem gen_run {c : Calls} {t : List Calls} {q : Qt} {b : Bool} {vs : List Nat} {tg : Tg} {it : It} {ts : T} {e : E} {ρ ρ1 ρ2 : Sl} {xs : List D} {lk : Option Nat} (g : D → Option Bool)
    (hq : q.end? = some b) (hit : evIt (c :: t) it ρ = .ok ⟨xs, lk⟩ ρ1) (hlk : lockS ρ1 lk = some ρ2) (hm : noMut ρ2 vs = true) (hb : backS ρ2 (wipeS ρ2 vs) vs = ρ2)
    (h : ∀ x ∈ xs, turn vs tg (evT t ts) (fun r => (evE t e r).bind fun v r' => R.ofO r' (boolOf v)) x (wipeS ρ2 vs) = .ok (g x) (wipeS ρ2 vs)) :
    evE (c :: t) (.gen q vs tg it ts e) ρ = .ok (.shr (.bool (if xs.any (fun x => g x == some b) then b else !b))) (unlockS ρ1 ρ2 lk) := by
  have r := stopL_run (b := b) g xs h
  rw [evE.eq_def]
  simp only [hq, hit, bind_ok, hlk, inBlk, hm, if_true, r, noX, hb]
theorem comp_run {h : List Calls} {vs : List Nat} {tg : Tg} {it : It} {ts : T} {e : E} {ρ ρ1 ρ2 : Sl} {xs : List D} {lk : Option Nat} (g : D → Option D)
    (hit : evIt h it ρ = .ok ⟨xs, lk⟩ ρ1) (hlk : lockS ρ1 lk = some ρ2) (hm : noMut ρ2 vs = true) (hb : backS ρ2 (wipeS ρ2 vs) vs = ρ2) (hl : xs.length ≤ mAx)
    (hx : ∀ x ∈ xs, turn vs tg (evT h ts) (fun r => (evE h e r).dat) x (wipeS ρ2 vs) = .ok (g x) (wipeS ρ2 vs)) :
    evE h (.comp vs tg it ts e) ρ = .ok (.own (.list (xs.filterMap g))) (unlockS ρ1 ρ2 lk) := by
  have r := compL_run g xs hx
  rw [evE]
  simp only [hit, bind_ok, hlk, inBlk, hm, if_true, r, noX, hb, hl]
theorem all_run (p : D → Bool) (xs : List D) : (if xs.any (fun x => (some (p x) == some false)) then false else !false) = xs.all p := by
  induction xs with
  | nil => rfl
  | cons x xs ih =>
    cases q : p x <;> simp_all
theorem any_run (p : D → Bool) (xs : List D) : (if xs.any (fun x => (some (p x) == some true)) then true else !true) = xs.any p := by
  induction xs with
  | nil => rfl
  | cons x xs ih =>
    cases q : p x <;> simp_all
theorem forL_mapI {σ τ : Type} {ρ0 : Sl} {f : D → Sl → Out} (mk : σ → Sl) (step : σ → τ → σ) (g : τ → D) (I : σ → Prop) : (zs : List τ) → (s : σ) → I s →
    (h : ∀ s, I s → ∀ z ∈ zs, I (step s z) ∧ ∃ ρ', (f (g z) (mk s) = .nx ρ' ∨ f (g z) (mk s) = .ct ρ') ∧ rst ρ0 ρ' = mk (step s z)) →
    forL ρ0 f (zs.map g) (mk s) = .nx (mk (zs.foldl step s)) ∧ I (zs.foldl step s)
  | [], s, hs, _ => ⟨rfl, hs⟩
  | z :: zs, s, hs, h => by
    obtain ⟨i, ρ', e, e1⟩ := h s hs z (by simp)
    have r := forL_mapI mk step g I zs (step s z) i fun s hs y hy => h s hs y (by simp [hy])
    refine ⟨?_, r.2⟩
    rcases e with e | e <;> simp [forL, e, e1, r.1]
/-- a for loop over zs, seen as g z; the slots told by a state -/
theorem for_run {σ τ : Type} {h : List Calls} {tg : Tg} {it : It} {b : Ss} {ρ ρ1 ρ2 : Sl} {lk : Option Nat} (mk : σ → Sl) (step : σ → τ → σ) (g : τ → D) (I : σ → Prop) (zs : List τ) (s0 : σ)
    (hit : evIt h it ρ = .ok ⟨zs.map g, lk⟩ ρ1) (hlk : lockS ρ1 lk = some ρ2) (h0 : ρ2 = mk s0) (hI : I s0)
    (hx : ∀ s, I s → ∀ z ∈ zs, I (step s z) ∧ ∃ r ρ', asg tg (.shr (g z)) (mk s) = some r ∧ (evSs h b r = .nx ρ' ∨ evSs h b r = .ct ρ') ∧ rst ρ2 ρ' = mk (step s z)) :
    evS h (.for_ tg it b) ρ = .nx (unlockS ρ1 (mk (zs.foldl step s0)) lk) ∧ I (zs.foldl step s0) := by
  have r := forL_mapI (ρ0 := ρ2) (f := fun x r => match asg tg (.shr x) r with | some r' => evSs h b r' | none => .fail) mk step g I zs s0 hI (by
    intro s hs z hz
    obtain ⟨i, r, ρ', a, e, e1⟩ := hx s hs z hz
    exact ⟨i, ρ', by simpa only [a] using e, e1⟩)
  refine ⟨?_, r.2⟩
  have r1 := r.1
  rw [← h0] at r1
  rw [evS.eq_def]
  simp only [hit, hlk]
  exact congrArg (Out.map fun ρ2 => unlockS ρ1 ρ2 lk) r1
/-- a comprehension over zs, seen as g z -/
theorem comp_map {τ : Type} {h : List Calls} {vs : List Nat} {tg : Tg} {it : It} {ts : T} {e : E} {ρ ρ1 ρ2 : Sl} {lk : Option Nat} (g : τ → D) (f : τ → Option D) (zs : List τ)
    (hit : evIt h it ρ = .ok ⟨zs.map g, lk⟩ ρ1) (hlk : lockS ρ1 lk = some ρ2) (hm : noMut ρ2 vs = true) (hb : backS ρ2 (wipeS ρ2 vs) vs = ρ2) (hl : zs.length ≤ mAx)
    (hx : ∀ z ∈ zs, turn vs tg (evT h ts) (fun r => (evE h e r).dat) (g z) (wipeS ρ2 vs) = .ok (f z) (wipeS ρ2 vs)) :
    evE h (.comp vs tg it ts e) ρ = .ok (.own (.list (zs.filterMap f))) (unlockS ρ1 ρ2 lk) := by
  have r : compL (turn vs tg (evT h ts) fun r => (evE h e r).dat) (zs.map g) (wipeS ρ2 vs) = .ok (zs.filterMap f) (wipeS ρ2 vs) := by
    clear hit hl
    induction zs with
    | nil => rfl
    | cons z zs ih =>
      have e := hx z (by simp)
      have r := ih fun y hy => hx y (by simp [hy])
      cases q : f z with
      | none => simp [compL, e, r, q, List.filterMap_cons]
      | some y => simp [compL, e, r, q, List.filterMap_cons]
  rw [evE]
  simp only [hit, bind_ok, hlk, inBlk, hm, if_true, r, noX, hb, List.length_map, hl]
theorem forL_pre {σ τ : Type} {ρ0 : Sl} {f : D → Sl → Out} (mk : σ → Sl) (step : σ → τ → σ) (g : τ → D) (s0 : σ) : (done zs : List τ) →
    (h : ∀ d z r, done ++ zs = d ++ z :: r → ∃ ρ', (f (g z) (mk (d.foldl step s0)) = .nx ρ' ∨ f (g z) (mk (d.foldl step s0)) = .ct ρ') ∧ rst ρ0 ρ' = mk (step (d.foldl step s0) z)) →
    forL ρ0 f (zs.map g) (mk (done.foldl step s0)) = .nx (mk ((done ++ zs).foldl step s0))
  | done, [], _ => by simp [forL]
  | done, z :: zs, h => by
    obtain ⟨ρ', e, e1⟩ := h done z zs rfl
    have r := forL_pre mk step g s0 (done ++ [z]) zs fun d y r he => h d y r (by simpa using he)
    simp only [List.foldl_append, List.foldl_cons, List.foldl_nil, List.append_assoc, List.cons_append, List.nil_append] at r
    rcases e with e | e <;> simp [forL, e, e1, r]
/-- a for loop; each turn may know the items done so far -/
theorem for_pre {σ τ : Type} {h : List Calls} {tg : Tg} {it : It} {b : Ss} {ρ ρ1 ρ2 : Sl} {lk : Option Nat} (mk : σ → Sl) (step : σ → τ → σ) (g : τ → D) (zs : List τ) (s0 : σ)
    (hit : evIt h it ρ = .ok ⟨zs.map g, lk⟩ ρ1) (hlk : lockS ρ1 lk = some ρ2) (h0 : ρ2 = mk s0)
    (hx : ∀ d z r, zs = d ++ z :: r → ∃ q ρ', asg tg (.shr (g z)) (mk (d.foldl step s0)) = some q ∧ (evSs h b q = .nx ρ' ∨ evSs h b q = .ct ρ') ∧ rst ρ2 ρ' = mk (step (d.foldl step s0) z)) :
    evS h (.for_ tg it b) ρ = .nx (unlockS ρ1 (mk (zs.foldl step s0)) lk) := by
  have r1 := forL_pre (ρ0 := ρ2) (f := fun x r => match asg tg (.shr x) r with | some r' => evSs h b r' | none => .fail) mk step g s0 [] zs (by
    intro d z r hd
    obtain ⟨q, ρ', a, e, e1⟩ := hx d z r (by simpa using hd)
    exact ⟨ρ', by simpa only [a] using e, e1⟩)
  simp only [List.foldl_nil, List.nil_append] at r1
  rw [← h0] at r1
  rw [evS.eq_def]
  simp only [hit, hlk]
  exact congrArg (Out.map fun ρ2 => unlockS ρ1 ρ2 lk) r1
theorem forL_cnt {τ : Type} {ρ0 : Sl} {f : D → Sl → Out} (g : τ → D) (P : Nat → Sl → Prop) : (k : Nat) → (zs : List τ) → (ρ : Sl) → P k ρ →
    (h : ∀ j z ρ, j < k + zs.length → z ∈ zs → P j ρ → ∃ ρ', (f (g z) ρ = .nx ρ' ∨ f (g z) ρ = .ct ρ') ∧ P (j + 1) (rst ρ0 ρ')) →
    ∃ ρ', forL ρ0 f (zs.map g) ρ = .nx ρ' ∧ P (k + zs.length) ρ'
  | k, [], ρ, hp, _ => ⟨ρ, rfl, hp⟩
  | k, z :: zs, ρ, hp, h => by
    obtain ⟨ρ', e, p'⟩ := h k z ρ (by simp) (by simp) hp
    obtain ⟨ρ2, e2, p2⟩ := forL_cnt g P (k + 1) zs (rst ρ0 ρ') p' fun j y ρ hj hy hd => h j y ρ (by simp; omega) (by simp [hy]) hd
    refine ⟨ρ2, ?_, by rw [List.length_cons, ← Nat.add_assoc, Nat.add_right_comm]; exact p2⟩
    rcases e with e | e <;> simp [forL, e, e2]
/-- a for loop by what holds behind each turn, the turns counted -/
theorem for_keep {τ : Type} {h : List Calls} {tg : Tg} {it : It} {b : Ss} {ρ ρ1 ρ2 : Sl} {lk : Option Nat} (P : Nat → Sl → Prop) (g : τ → D) (zs : List τ)
    (hit : evIt h it ρ = .ok ⟨zs.map g, lk⟩ ρ1) (hlk : lockS ρ1 lk = some ρ2) (h0 : P 0 ρ2)
    (hx : ∀ j z r, j < zs.length → z ∈ zs → P j r → ∃ q ρ', asg tg (.shr (g z)) r = some q ∧ (evSs h b q = .nx ρ' ∨ evSs h b q = .ct ρ') ∧ P (j + 1) (rst ρ2 ρ')) :
    ∃ ρ', evS h (.for_ tg it b) ρ = .nx (unlockS ρ1 ρ' lk) ∧ P zs.length ρ' := by
  obtain ⟨ρ', r1, p⟩ := forL_cnt (ρ0 := ρ2) (f := fun x r => match asg tg (.shr x) r with | some r' => evSs h b r' | none => .fail) g P 0 zs ρ2 h0 (by
    intro j z r hj hz hp
    obtain ⟨q, ρ', a, e, e1⟩ := hx j z r (by omega) hz hp
    exact ⟨ρ', by simpa only [a] using e, e1⟩)
  refine ⟨ρ', ?_, by simpa using p⟩
  rw [evS.eq_def]
  simp only [hit, hlk]
  exact congrArg (Out.map fun ρ2 => unlockS ρ1 ρ2 lk) r1
end Ev
end
section
set_option Elab.async false
set_option linter.all false
set_option maxRecDepth 100000
/-! Loops. -/
namespace Ev
open PySem PySem.Spec PyProof.Rows L2
variable {Z : Fix} {g : Sta} {h : List Calls} {K : PySem.W.Frag} {F F' F1 F2 F3 H H' H1 H2 H3 : Hp} {T : List Addr} {σ σ' σ1 σ2 : Sg} {ρ ρ' ρ1 ρ2 ρ3 : Sl} {W : WX} {X : Cx} {C : ExW} {O : Addr → Prop}
theorem rst_len : ∀ (b r : Sl), (rst b r).length = r.length
  | [], [] => rfl
  | [], _ :: _ => rfl
  | .non :: b, [] => rfl
  | .shr _ :: b, [] => rfl
  | .hld _ _ _ :: b, [] => rfl
  | .non :: b, .non :: r => congrArg (· + 1) (rst_len b r)
  | .non :: b, .shr _ :: r => congrArg (· + 1) (rst_len b r)
  | .non :: b, .hld true _ _ :: r => congrArg (· + 1) (rst_len b r)
  | .non :: b, .hld false _ _ :: r => congrArg (· + 1) (rst_len b r)
  | .shr _ :: b, p :: r => by rw [rst, List.length_cons, List.length_cons, rst_len b r]; exact fun z => nomatch z
  | .hld _ _ _ :: b, p :: r => by rw [rst, List.length_cons, List.length_cons, rst_len b r]; exact fun z => nomatch z
theorem getS_cons {p : PV} {r : Sl} {i : Nat} : getS (p :: r) (i + 1) = getS r i := rfl
theorem rst_get : ∀ (b r : Sl) (i : Nat), getS (rst b r) i = getS r i ∧ (i < b.length → getS b i = .non → ∀ d, getS (rst b r) i ≠ .hld false true d) ∨ i < b.length ∧ getS b i = .non ∧ (∀ lk d, getS r i ≠ .hld true lk d) ∧ getS (rst b r) i = .non
  | [], [], _ => .inl ⟨rfl, fun z => absurd z (Nat.not_lt_zero _)⟩
  | [], _ :: _, _ => .inl ⟨rfl, fun z => absurd z (Nat.not_lt_zero _)⟩
  | .non :: b, [], _ => .inl ⟨rfl, fun _ _ d z => by cases z⟩
  | .shr _ :: b, [], _ => .inl ⟨rfl, fun _ _ d z => by cases z⟩
  | .hld _ _ _ :: b, [], _ => .inl ⟨rfl, fun _ _ d z => by cases z⟩
  | .non :: b, .non :: r, 0 => .inl ⟨rfl, fun _ _ d z => by cases z⟩
  | .non :: b, .shr d :: r, 0 => .inr ⟨Nat.succ_pos _, rfl, fun _ _ z => (by cases z), rfl⟩
  | .non :: b, .hld true lk d :: r, 0 => .inl ⟨rfl, fun _ _ d z => by cases z⟩
  | .non :: b, .hld false lk d :: r, 0 => .inr ⟨Nat.succ_pos _, rfl, fun _ _ z => (by cases z), rfl⟩
  | .non :: b, p :: r, i + 1 => by
    have e : getS (rst (.non :: b) (p :: r)) (i + 1) = getS (rst b r) i := by
      cases p with
      | non => rfl
      | shr d => rfl
      | hld io lk d => cases io <;> rfl
    rw [e]
    rcases rst_get b r i with ⟨h1, h2⟩ | ⟨h1, h2⟩
    · exact .inl ⟨h1, fun l => h2 (Nat.lt_of_succ_lt_succ l)⟩
    · exact .inr ⟨Nat.succ_lt_succ h1, h2⟩
  | .shr _ :: b, p :: r, 0 => .inl ⟨rfl, fun _ z => by cases z⟩
  | .shr _ :: b, p :: r, i + 1 => by
    rcases rst_get b r i with ⟨h1, h2⟩ | ⟨h1, h2⟩
    · exact .inl ⟨h1, fun l => h2 (Nat.lt_of_succ_lt_succ l)⟩
    · exact .inr ⟨Nat.succ_lt_succ h1, h2⟩
  | .hld _ _ _ :: b, p :: r, 0 => .inl ⟨rfl, fun _ z => by cases z⟩
  | .hld _ _ _ :: b, p :: r, i + 1 => by
    rcases rst_get b r i with ⟨h1, h2⟩ | ⟨h1, h2⟩
    · exact .inl ⟨h1, fun l => h2 (Nat.lt_of_succ_lt_succ l)⟩
    · exact .inr ⟨Nat.succ_lt_succ h1, h2⟩
/-- some slots are known less of -/
theorem env_less (e : SEnv K T F H ρ σ) (hl : ρ'.length = ρ.length) (hs : ∀ i, getS ρ' i = getS ρ i ∨ getS ρ' i = .non) : SEnv K T F H ρ' σ ∧ ∀ i a, OA ρ' σ i a → OA ρ σ i a := by
  have own : ∀ i a, OA ρ' σ i a → OA ρ σ i a := fun i a ⟨⟨x, y, z, w⟩, k⟩ => by
    rcases hs i with q | q
    · rw [q] at w; exact ⟨⟨_, _, _, w⟩, k⟩
    · rw [q] at w; cases w
  refine ⟨⟨hl.trans e.len, e.sub, e.tabF, e.tabH, fun i => ?_, fun i j a hi hj => e.apart i j a (own i a hi) (own j a hj)⟩, own⟩
  rcases hs i with q | q
  · rw [q]; exact e.slot i
  · rw [q]; trivial
/-- at a loop's head: what was unknown ahead of it is not walked -/
def Hd (b ρ : Sl) : Prop := ∀ i, i < b.length → getS b i = .non → ∀ d, getS ρ i ≠ .hld false true d
theorem Hd.self {b : Sl} : Hd b b := fun i _ h d => by rw [h]; exact fun z => nomatch z
theorem Hd.rst {b r : Sl} : Hd b (Ev.rst b r) := fun i l h d => by
  rcases rst_get b r i with ⟨h1, h2⟩ | ⟨_, _, _, h2⟩
  · exact h2 l h d
  · rw [h2]; exact fun z => nomatch z
theorem GoS.rst {b : Sl} (hd : Hd b ρ) (go : GoS K T σ ρ F H σ' ρ' F' H') : GoS K T σ ρ F H σ' (Ev.rst b ρ') F' H' := by
  obtain ⟨e1, o1⟩ := env_less go.env (rst_len b ρ') fun i => (rst_get b ρ' i).imp (fun z => z.1) fun z => z.2.2.2
  refine ⟨go.fw, e1, fun a ⟨i, hi⟩ => go.own a ⟨i, o1 i a hi⟩, fun i io lk d hi hp => ?_⟩
  obtain ⟨d', w1, w2, w3⟩ := go.pin i io lk d hi hp
  rcases rst_get b ρ' i with ⟨q, _⟩ | ⟨q0, q1, q2, q3⟩
  · exact ⟨d', by rw [q]; exact w1, w2, w3⟩
  · cases io with
    | true => exact absurd w1 (q2 _ _)
    | false => cases lk with
      | true => exact absurd hi (hd i q0 q1 _)
      | false => rcases hp with hp | hp <;> cases hp
/-- a body's ends, told from the loop's own head -/
theorem AfterS.body {D : Ends} {N : Sg → Hp → Prop} {o : Out} {r : Sl → Out} {b : Sl} (hd : Hd b ρ) (go : GoS K T σ ρ F H σ1 ρ1 F1 H1)
    (q : AfterS K T C W σ ρ F H D (match o with
      | .nx ρ2 => r (Ev.rst b ρ2)
      | .ct ρ2 => r (Ev.rst b ρ2)
      | .bk ρ2 => .nx (Ev.rst b ρ2)
      | o => o))
    (hN : ∀ ρ2 σ2 F2 H2, GoS K T σ ρ F H σ2 (Ev.rst b ρ2) F2 H2 → AfterS K T C W σ2 (Ev.rst b ρ2) F2 H2 D (r (Ev.rst b ρ2)) → N σ2 H2) :
    AfterS K T C W σ1 ρ1 F1 H1 { D with nx := N, ct := N, bk := D.nx } o := by
  cases o with
  | fail => exact q
  | nx ρ2 => exact fun σ2 F2 H2 g => have w := (go.trans g).rst hd; hN ρ2 σ2 F2 H2 w (AfterS.from w q)
  | ct ρ2 => exact fun σ2 F2 H2 g => have w := (go.trans g).rst hd; hN ρ2 σ2 F2 H2 w (AfterS.from w q)
  | bk ρ2 => exact fun σ2 F2 H2 g => q σ2 F2 H2 ((go.trans g).rst hd)
  | rt v ρ2 => exact fun σ2 F2 H2 u g rr => q σ2 F2 H2 u (go.trans g) (RvS.early go rr)
  | exc c ρ2 => exact fun σ2 F2 H2 cls dd g hc => q σ2 F2 H2 cls dd (go.trans g) hc
theorem ss_while {c : Expr} {b : List Stmt} {pos : Pos} {ft : Sl → R Bool} {fb : Sl → Out} (st : ST Z g h c ft) (sb : SSs Z g h b fb) : SS Z g h (.While c b [] pos) (fun ρ => whileL ρ ft fb wFuel ρ) := by
  intro X W a σ ρ F H D e q
  refine wS_of (ps_while a.owns pt_w pss_w) ⟨fun m σ' H' => ∃ ρ' F', SEnv Z.K Z.T F' H' ρ' σ' ∧ Hd ρ ρ' ∧ AfterS Z.K Z.T (exC Z) W σ' ρ' F' H' D (whileL ρ ft fb m ρ'), ⟨wFuel, ρ, F, e, Hd.self, q⟩, ?_⟩
  rintro m σ' H' ⟨ρ', F', e', hd, q'⟩
  cases m with
  | zero => exact q'.elim
  | succ n =>
    rw [whileL] at q'
    refine st X W a σ' ρ' F' H' _ e' ?_
    cases ht : ft ρ' with
    | fail => rw [ht] at q'; exact q'.elim
    | exc c ρ1 => rw [ht] at q'; exact fun F1 H1 cls dd g1 hc => q' σ' F1 H1 cls dd g1.s hc
    | ok k ρ1 =>
      rw [ht] at q'
      intro F1 H1 g1
      cases k with
      | false =>
        show (if false = true then _ else _)
        rw [if_neg Bool.false_ne_true]
        exact q' σ' F1 H1 g1.s
      | true =>
        show (if true = true then _ else _)
        rw [if_pos rfl]
        refine ⟨fun σ2 H2 => ∃ ρ' F', SEnv Z.K Z.T F' H2 ρ' σ2 ∧ Hd ρ ρ' ∧ AfterS Z.K Z.T (exC Z) W σ2 ρ' F' H2 D (whileL ρ ft fb n ρ'), fun σ2 H2 w => ⟨n, Nat.lt_succ_self n, w⟩, ?_⟩
        refine sb X W a σ' ρ1 F1 H1 _ g1.env (AfterS.body hd g1.s (r := whileL ρ ft fb n) ?_ fun ρ2 σ2 F2 H2 w z => ⟨_, F2, w.env, Hd.rst, z⟩)
        revert q'
        dsimp only
        cases fb ρ1 <;> exact id
theorem GoS.asg {v : V} (a : GoS K T σ ρ F H σ1 ρ1 F1 H1) (b : GoA K T v σ1 ρ1 F1 H1 σ2 ρ2) (hb : ∀ x, Own ρ2 σ2 x → Own ρ1 σ1 x) : GoS K T σ ρ F H σ2 ρ2 F1 H1 :=
  ⟨a.fw, b.env, fun x hx => a.own x (hb x hx), fun i io lk d hi hp => by
    obtain ⟨d1, w1, w2, w3⟩ := a.pin i io lk d hi hp
    obtain ⟨z1, z2⟩ := b.pin i io lk d1 w1 hp
    exact ⟨d1, z1, z2.trans w2, w3⟩⟩
theorem AfterS.unlock {D : Ends} {o : Out} {lk : Option Nat} (e : SEnv K T F H ρ σ) (hl : lockS ρ lk = some ρ1) (q : AfterS K T C W σ ρ F H D (o.map fun ρ2 => unlockS ρ ρ2 lk)) : AfterS K T C W σ ρ1 F H D o := by
  cases o with
  | fail => exact q
  | nx ρ2 => exact fun σ' F' H' g => q σ' F' H' (GoS.unlock e hl g)
  | bk ρ2 => exact fun σ' F' H' g => q σ' F' H' (GoS.unlock e hl g)
  | ct ρ2 => exact fun σ' F' H' g => q σ' F' H' (GoS.unlock e hl g)
  | exc c ρ2 => exact fun σ' F' H' cls dd g hc => q σ' F' H' cls dd (GoS.unlock e hl g) hc
  | rt rv ρ2 =>
    refine fun σ' F' H' v g r => q σ' F' H' v (GoS.unlock e hl g) ?_
    cases rv with
    | shr d => exact r
    | own d =>
      obtain ⟨a, e1, f, t, n, no, hq⟩ := r
      exact ⟨a, e1, f, t, n.imp id (lock_own e hl a).mp, fun ⟨i, hi⟩ => no ⟨i, (unlock_env (ρ := ρ) (lk := lk) g.env).2 i a hi⟩, hq⟩
theorem ss_for {tg iter : Expr} {b : List Stmt} {pos : Pos} {t : Tg} {fit : Sl → R Its} {fb : Sl → Out} (si : SIt Z g h tg iter fit) (sg : SG Z g h tg t) (sb : SSs Z g h b fb) :
    SS Z g h (.For tg iter b [] pos) (fun ρ => Out.ofR (fun its ρ' => match lockS ρ' its.lk with
      | some ρ1 => (forL ρ1 (fun x r => match asg t (.shr x) r with
          | some r' => fb r'
          | none => .fail) its.xs ρ1).map fun ρ2 => unlockS ρ' ρ2 its.lk
      | none => .fail) (fit ρ)) := by
  intro X W a σ ρ F H D e q
  refine wS_of (ps_for a.owns a.calm pi_w pg_w pss_w (si.1 _)) (si.2 X W a σ ρ F H _ e (q.ofR.mono fun its ρi F1 H1 g1 q1 J ρL hL iok => ?_))
  rw [hL] at q1
  have eL := (lock_env g1.env hL).1
  have q2 := AfterS.unlock g1.env hL q1
  have hL3 := (lock_env g1.env hL).2.2
  clear q1
  generalize hf : (fun (x : Ev.D) (r : Sl) => match asg t (.shr x) r with | some r' => fb r' | none => Out.fail) = f at q2
  refine ⟨fun i m σ' H' => i ≤ its.xs.length ∧ m = its.xs.length - i ∧ ∃ ρ' F', SEnv Z.K Z.T F' H' ρ' σ' ∧ Hd ρL ρ' ∧ Same F1 F' ∧ (∀ k, its.lk = some k → getS ρ' k = getS ρL k ∧ stV σ' k = stV σ k) ∧ AfterS Z.K Z.T (exC Z) W σ' ρ' F' H' D (forL ρL f (its.xs.drop i) ρ'),
    ⟨_, Nat.zero_le _, rfl, ρL, F1, eL, Hd.self, Same.refl _, fun k hk => ⟨rfl, rfl⟩, q2⟩, ?_⟩
  rintro i m σ' H' ⟨hi, rfl, ρ', F', e', hd, sm, lkc, q'⟩
  obtain ⟨go1, go2, go3⟩ := iok.ok ρ' σ' F' H' e' sm lkc
  by_cases hlt : i < its.xs.length
  · refine .inr ⟨go1 i hlt, fun σ2 H2 => i + 1 ≤ its.xs.length ∧ ∃ ρ' F', SEnv Z.K Z.T F' H2 ρ' σ2 ∧ Hd ρL ρ' ∧ Same F1 F' ∧ (∀ k, its.lk = some k → getS ρ' k = getS ρL k ∧ stV σ2 k = stV σ k) ∧ AfterS Z.K Z.T (exC Z) W σ2 ρ' F' H2 D (forL ρL f (its.xs.drop (i + 1)) ρ'),
      fun σ2 H2 w => ⟨_, by omega, w.1, rfl, w.2⟩, fun x H'' y => ?_⟩
    obtain ⟨F2, d, ex, hd1, rx⟩ := go3 i x H'' hlt y
    have hdrop : its.xs.drop i = d :: its.xs.drop (i + 1) := by
      rw [List.drop_eq_getElem_cons hlt]
      rw [List.getElem?_eq_getElem hlt] at hd1
      cases hd1; rfl
    rw [hdrop, forL] at q'
    have g2 := (Go.ext e' ex).s
    cases ha : asg t (.shr d) ρ' with
    | none =>
      exfalso
      have : f d ρ' = Out.fail := by rw [← hf]; simp only [ha]
      rw [this] at q'
      exact q'
    | some ρa =>
      have hfd : f d ρ' = fb ρa := by rw [← hf]; simp only [ha]
      rw [hfd] at q'
      refine sg.2 X W a σ' ρ' F2 H'' x (.shr d) ρa _ g2.env rx ha fun σ2 s2 ga o2 => ?_
      have g3 := GoS.asg g2 ga (o2 ⟨d, rfl⟩)
      refine sb X W a σ2 ρa F2 H'' _ g3.env (AfterS.body hd g3 (r := forL ρL f (its.xs.drop (i + 1))) ?_ fun ρ2 σ3 F3 H3 w z => ⟨hlt, _, F3, w.env, Hd.rst, sm.trans w.fw.fsub, fun k hk => ?_, z⟩)
      · revert q'
        cases fb ρa <;> exact id
      · obtain ⟨l1, l2⟩ := lkc k hk
        obtain ⟨io, dk, h3⟩ := hL3 k hk
        obtain ⟨d', w1, w2, w3⟩ := w.pin k io true dk (l1.trans h3) (.inr rfl)
        exact ⟨by rw [w1, w3 rfl, h3], w2.trans l2⟩
  · have : i = its.xs.length := by omega
    subst this
    rw [List.drop_length, forL] at q'
    exact .inl ⟨go2, q' σ' F' H' (GoS.refl e')⟩
end Ev
end
section
set_option Elab.async false
set_option linter.all false
set_option maxRecDepth 100000
/-! Several stores at once; stores into lists and dicts. -/
namespace Ev
open PySem PySem.Spec PyProof.Rows L2
variable {Z : Fix} {g : Sta} {h : List Calls} {K : PySem.W.Frag} {F F' F1 F2 F3 H H' H0 H1 H2 H3 : Hp} {T : List Addr} {σ σ' σ1 σ2 : Sg} {ρ ρ' ρ1 ρ2 ρ3 : Sl} {W : WX} {X : Cx} {C : ExW} {O : Addr → Prop}
def OwnsAt : List V → List RV → Addr → Prop
  | v :: vs, .own _ :: rs, a => v = .ref a ∨ OwnsAt vs rs a
  | _ :: vs, .shr _ :: rs, a => OwnsAt vs rs a
  | _, _, _ => False
/-- values in hand, each new one by itself -/
def RvsOk (K : PySem.W.Frag) (T : List Addr) (F H H0 : Hp) : List V → List RV → Prop
  | [], [] => True
  | v :: vs, rv :: rs => RvOk K T F H H0 v rv ∧ ((∃ d, rv = .own d) → ∀ a, v = .ref a → ¬ OwnsAt vs rs a) ∧ RvsOk K T F H H0 vs rs
  | _, _ => False
theorem RvOk.later {v : V} {rv : RV} (go : Go K T σ ρ F H ρ1 F1 H1) (go2 : Go K T σ ρ1 F1 H1 ρ2 F2 H2) (e : SEnv K T F H ρ σ) (r : RvOk K T F1 H1 H v rv) : RvOk K T F2 H2 H v rv := by
  cases rv with
  | shr d => exact Rp.mono go2.fw.fsub r
  | own d =>
    obtain ⟨a, e1, f, t, n, q⟩ := r
    have no : ¬ Own ρ1 σ a := fun z => by
      obtain ⟨u, hu⟩ := e.own_some (go.own a z)
      rw [n] at hu; cases hu
    obtain ⟨o, ho⟩ := q.some
    refine ⟨a, e1, ?_, t, n, q.mono go2.fw.fsub ((go2.fw.keep a o ho no t).trans ho.symm)⟩
    cases z : F2 a with
    | none => rfl
    | some u =>
      rcases go2.fw.new a u z with y | y | y
      · rw [f] at y; cases y
      · rw [ho] at y; cases y
      · exact absurd y no
theorem RvsOk.fresh : ∀ {vs : List V} {rs : List RV} {a : Addr}, RvsOk K T F H H0 vs rs → OwnsAt vs rs a → H0 a = none
  | v :: vs, .own d :: rs, a, h, o => by
    rcases o with o | o
    · obtain ⟨b, e, _, _, n, _⟩ := h.1
      rw [o] at e; cases e; exact n
    · exact RvsOk.fresh h.2.2 o
  | v :: vs, .shr d :: rs, a, h, o => RvsOk.fresh h.2.2 o
  | [], [], _, _, o => o.elim
theorem RvsOk.early : ∀ {vs : List V} {rs : List RV}, Go K T σ ρ F H ρ1 F1 H1 → RvsOk K T F2 H2 H1 vs rs → RvsOk K T F2 H2 H vs rs
  | [], [], _, _ => trivial
  | v :: vs, rv :: rs, go, h => ⟨RvOk.early go h.1, h.2.1, RvsOk.early go h.2.2⟩
  | [], _ :: _, _, h => h.elim
  | _ :: _, [], _, h => h.elim
def SRs (Z : Fix) (g : Sta) (h : List Calls) (es : List Expr) (f : Sl → R (List RV)) : Prop := ∀ X W, At Z g h W X → ∀ σ ρ F H Q, SEnv Z.K Z.T F H ρ σ →
  After Z.K Z.T (exC Z) W σ ρ F H (fun rs _ F' H' => ∀ vs, RvsOk Z.K Z.T F' H' H vs rs → Q vs H') (f ρ) → wA X es σ H Q
theorem srs_nil : SRs Z g h [] (fun ρ => .ok [] ρ) := fun X W a σ ρ F H Q e q => wA_of pa_nil (q.here e [] trivial)
theorem srs_cons {e : Expr} {es : List Expr} {f : Sl → R RV} {fs : Sl → R (List RV)} (n : ∀ x p, e ≠ .Starred x p) (s : SE Z g h e f) (ss : SRs Z g h es fs) :
    SRs Z g h (e :: es) (fun ρ => (f ρ).bind fun v ρ' => (fs ρ').bind fun vs ρ2 => .ok (v :: vs) ρ2) := by
  intro X W a σ ρ F H Q e0 q
  refine wA_of (pa_cons pe_w pa_w (star_ok n _ _)) (s X W a σ ρ F H _ e0 (q.split.mono fun rv ρ1 F1 H1 g1 q1 v r => ?_))
  refine ss X W a σ ρ1 F1 H1 _ g1.env (q1.split.mono fun rs ρ2 F2 H2 g2 q2 vs rr => q2.here g2.env (v :: vs) ⟨RvOk.later g1 g2 e0 r, fun ⟨d, hd⟩ b hb o => ?_, RvsOk.early g1 rr⟩)
  subst hd
  obtain ⟨c, e1, _, _, _, hq⟩ := r
  rw [hb] at e1
  cases e1
  obtain ⟨u, hu⟩ := hq.some
  rw [rr.fresh o] at hu
  cases hu
def setA : Sg → List Nat → List V → Sg
  | σ, i :: is, v :: vs => setA (σ.set i (some v)) is vs
  | σ, _, _ => σ
/-- all are stored -/
theorem put_all : ∀ {is : List Nat} {rs : List RV} {vs : List V} {ρ ρ' : Sl} {σ : Sg}, SEnv K T F H ρ σ → RvsOk K T F H H0 vs rs → (∀ a, OwnsAt vs rs a → ¬ Own ρ σ a) → putAll is rs ρ = some ρ' →
    vs.length = is.length ∧ SEnv K T F H ρ' (setA σ is vs) ∧ (∀ a, Own ρ' (setA σ is vs) a → Own ρ σ a ∨ OwnsAt vs rs a) ∧ ∀ i io lk d, getS ρ i = .hld io lk d → io = true ∨ lk = true → getS ρ' i = .hld io lk d ∧ stV (setA σ is vs) i = stV σ i
  | [], [], [], ρ, ρ', σ, e, r, no, hp => by cases hp; exact ⟨rfl, e, fun a h => .inl h, fun i io lk d h _ => ⟨h, rfl⟩⟩
  | i :: is, rv :: rs, v :: vs, ρ, ρ', σ, e, r, no, hp => by
    rw [putAll, Option.bind_eq_some_iff] at hp
    obtain ⟨ρ1, h1, h2⟩ := hp
    have ra : RvA K T F H ρ σ v rv := by
      cases rv with
      | shr d => exact r.1
      | own d =>
        obtain ⟨a, e1, f, t, n, q⟩ := r.1
        exact ⟨a, e1, f, t, no a (.inl e1), q⟩
    have ga := GoA.set e ra h1
    have up : ∀ a, OwnsAt vs rs a → OwnsAt (v :: vs) (rv :: rs) a := fun a o => by cases rv with | shr d => exact o | own d => exact .inr o
    have no1 : ∀ a, OwnsAt vs rs a → ¬ Own ρ1 (σ.set i (some v)) a := fun a o z => by
      rcases ga.own a z with y | ⟨y, yn⟩
      · exact no a (up a o) y
      · cases rv with
        | own d => exact r.2.1 ⟨d, rfl⟩ a y o
        | shr d =>
          obtain ⟨j, ⟨b1, b2, b3, w⟩, k⟩ := z
          change setS ρ i (.shr d) = some ρ1 at h1
          unfold setS at h1
          split at h1
          · rename_i hf
            cases h1
            rw [Bool.and_eq_true] at hf
            have li : i < ρ.length := of_decide_eq_true hf.2
            have lσ : i < σ.length := by rw [← e.len]; exact li
            by_cases hj : i = j
            · subst hj; rw [getS_self li] at w; cases w
            · rw [getS_ne hj] at w
              rw [stV_set lσ, if_neg hj] at k
              exact yn ⟨j, ⟨b1, b2, b3, w⟩, k⟩
          · cases h1
    obtain ⟨l, e2, o2, p2⟩ := put_all ga.env r.2.2 no1 h2
    refine ⟨by rw [List.length_cons, List.length_cons, l], e2, fun a hx => ?_, fun j io lk d hj hq => ?_⟩
    · rcases o2 a hx with y | y
      · rcases ga.own a y with z | ⟨z, zn⟩
        · exact .inl z
        · cases rv with
          | own d => exact .inr (.inl z)
          | shr d =>
            exfalso
            obtain ⟨j, ⟨b1, b2, b3, w⟩, k⟩ := y
            change setS ρ i (.shr d) = some ρ1 at h1
            unfold setS at h1
            split at h1
            · rename_i hf
              cases h1
              rw [Bool.and_eq_true] at hf
              have li : i < ρ.length := of_decide_eq_true hf.2
              have lσ : i < σ.length := by rw [← e.len]; exact li
              by_cases hj : i = j
              · subst hj; rw [getS_self li] at w; cases w
              · rw [getS_ne hj] at w
                rw [stV_set lσ, if_neg hj] at k
                exact zn ⟨j, ⟨b1, b2, b3, w⟩, k⟩
            · cases h1
      · exact .inr (up a y)
    · obtain ⟨w1, w2⟩ := ga.pin j io lk d hj hq
      obtain ⟨w3, w4⟩ := p2 j io lk d w1 hq
      exact ⟨w3, w4.trans w2⟩
  | [], _ :: _, _, _, _, _, _, _, _, hp => by cases hp
  | _ :: _, [], _, _, _, _, _, _, _, hp => by cases hp
  | [], [], _ :: _, _, _, _, _, r, _, _ => r.elim
  | _ :: _, _ :: _, [], _, _, _, _, r, _, _ => r.elim
/-- the end of such a statement -/
theorem par_end {is : List Nat} {rs : List RV} {vs : List V} {D : Ends} (e : SEnv K T F H ρ σ) (go : Go K T σ ρ F H ρ1 F1 H1) (r : RvsOk K T F1 H1 H vs rs) (hp : putAll is rs ρ1 = some ρ2)
    (q : AfterS K T C W σ ρ F H D (.nx ρ2)) : vs.length = is.length ∧ D.nx (setA σ is vs) H1 := by
  have no : ∀ a, OwnsAt vs rs a → ¬ Own ρ1 σ a := fun a o z => by
    obtain ⟨u, hu⟩ := e.own_some (go.own a z)
    rw [r.fresh o] at hu; cases hu
  obtain ⟨l, e2, o2, p2⟩ := put_all go.env r no hp
  refine ⟨l, q _ F1 H1 ⟨go.fw, e2, fun a h => (o2 a h).imp (go.own a) fun o => r.fresh o, fun i io lk d hi hq => ?_⟩⟩
  obtain ⟨d', w1, w2⟩ := go.pin i io lk d hi hq
  obtain ⟨w3, w4⟩ := p2 i io lk d' w1 hq
  exact ⟨d', w3, w4, w2⟩
/-! ### the rule -/
theorem parK_ok {env : Env} {ts vs : List Expr} {k k2 : Nat} {p p2 : Pos} {r : Option (List Str)} (hs : env.scope = g.sc) (hp : parK g ts vs = some r) : swappedStores [.Tuple ts k p] (.Tuple vs k2 p2) env = pure r := by
  have e1 : env.blockKind = bkd g := by rw [Env.blockKind, hs]; rfl
  unfold swappedStores
  dsimp only
  rw [e1]
  generalize hA : vs.any _ = c2
  generalize hB : List.filterMap _ ts = ns
  have a1 : vs.any isStd = c2 := by rw [← hA]; congr 1
  have a2 : ts.filterMap (nmAt g ((ts.head?.map (·.pos.line)).getD 0)) = ns := by
    rw [← hB]; congr 1; funext e; cases e <;> first | rfl | (unfold nmAt kd Env.kindOf; rw [hs])
  clear hA hB
  unfold parK at hp
  rw [a1, a2] at hp
  clear a1 a2
  revert hp
  generalize (!(ts.length == 2 || ts.length == 3) || vs.length != ts.length || bkd g != .function) = c1
  generalize (ns.length != ts.length || ns.eraseDups.length != ns.length) = c3
  generalize vs.all (foldedForSure 8) = c4
  generalize vs.all (constantsAlone 8) = c5
  intro hp
  cases c1 <;> cases c2 <;> cases c3 <;> cases c4 <;> cases c5 <;> first | (cases hp; rfl) | (simp at hp; done) | (simp at hp; subst hp; rfl)
/-- names that are stored, with their slots -/
inductive NmsOk (g : Sta) : List Expr → List Nat → Prop where
  | nil : NmsOk g [] []
  | cons {x : Str} {p : Pos} {i : Nat} {ts : List Expr} {is : List Nat} : slot g x = some i → storable g i = true → (kd g x = some .local ∨ kd g x = some .cell) → NmsOk g ts is → NmsOk g (.Name x p :: ts) (i :: is)
theorem NmsOk.len : ∀ {ts : List Expr} {is : List Nat}, NmsOk g ts is → ts.length = is.length
  | _, _, .nil => rfl
  | _, _, .cons _ _ _ r => by rw [List.length_cons, List.length_cons, r.len]
theorem NmsOk.plain : ∀ {ts : List Expr} {is : List Nat}, NmsOk g ts is → ∀ e ∈ ts, ∀ x p, e ≠ .Starred x p
  | _, _, .nil, e, h => absurd h List.not_mem_nil
  | _, _, .cons _ _ _ r, e, h => by
    rcases List.mem_cons.mp h with rfl | h
    · exact fun _ _ z => by cases z
    · exact r.plain e h
theorem names_wGs (a : At Z g h W X) : ∀ {ts : List Expr} {is : List Nat} {vs : List V} {σ : Sg} {H : Hp} {Q : Sg → Hp → Prop}, NmsOk g ts is → vs.length = is.length → Q (setA σ is vs) H → wGs X ts vs σ H Q
  | _, _, [], σ, H, Q, .nil, _, q => wGs_of pgs_nil ⟨rfl, q⟩
  | _, _, _ :: _, σ, H, Q, .nil, l, q => by simp at l
  | _, _, [], σ, H, Q, .cons _ _ _ _, l, q => by simp at l
  | _, _, v :: vs, σ, H, Q, .cons (x := x) (p := p) (i := i) (ts := ts) (is := is) hs hst hl r, l, q => by
    obtain ⟨h1, h2, h3, h4⟩ := slot_some hs
    refine wGs_of (pgs_cons (pg_name (i := i) (by rw [a.nm]; exact a.nd) (by rw [a.nm]; exact h1) (by show X.env.scope.names.lookup x = _ ∨ X.env.scope.names.lookup x = _; rw [a.sc]; exact hl) (a.st i x hst h1)) pgs_w rfl) ⟨v, vs, rfl, ?_⟩
    exact names_wGs a r (by simpa using l) q
theorem RvsOk.length : ∀ {vs : List V} {rs : List RV}, RvsOk K T F H H0 vs rs → vs.length = rs.length
  | [], [], _ => rfl
  | _ :: _, _ :: _, h => by rw [List.length_cons, List.length_cons, RvsOk.length h.2.2]
  | [], _ :: _, h => h.elim
  | _ :: _, [], h => h.elim
theorem RvsOk.upd {p : Addr} {o : HO} (n : H p = none) : ∀ {vs : List V} {rs : List RV}, RvsOk K T F H H0 vs rs → RvsOk K T F (L2.upd H p o) H0 vs rs
  | [], [], _ => trivial
  | v :: vs, rv :: rs, h => by
    refine ⟨?_, h.2.1, RvsOk.upd n h.2.2⟩
    have h1 := h.1
    cases rv with
    | shr d => exact h1
    | own d =>
      obtain ⟨a, e, f, t, n0, q⟩ := h1
      obtain ⟨u, hu⟩ := q.some
      have : a ≠ p := fun z => by rw [z, n] at hu; cases hu
      exact ⟨a, e, f, t, n0, q.mono (Same.refl _) (upd_ne this)⟩
  | [], _ :: _, h => h.elim
  | _ :: _, [], h => h.elim
theorem Go.other {p : Addr} {o : HO} (go : Go K T σ ρ F H ρ1 F1 H1) (n : H1 p = none) : Go K T σ ρ F H ρ1 F1 (L2.upd H1 p o) := by
  have nF : F1 p = none := free_of go.env.sub n
  have nT : p ∉ T := fun z => go.env.tabs p z n
  have nO : ¬ Own ρ1 σ p := fun z => by
    obtain ⟨u, hu⟩ := go.env.own_some z
    rw [n] at hu; cases hu
  have ne : ∀ {a : Addr} {u : HO}, H1 a = some u → a ≠ p := fun h z => by rw [z, n] at h; cases h
  refine ⟨⟨go.fw.fsub, fun a u h no t => ?_, fun a u h => ?_, go.fw.new⟩, go.env.other nF nO nT, go.own, go.pin⟩
  · have := go.fw.keep a u h no t
    rw [upd_ne (ne this)]; exact this
  · obtain ⟨w, hw⟩ := go.fw.stay a u h
    exact ⟨w, by rw [upd_ne (ne hw)]; exact hw⟩
theorem SRs.tup {es : List Expr} {k : Nat} {pos : Pos} {f : Sl → R (List RV)} (s : SRs Z g h es f) (a : At Z g h W X) {Q : VK} (e : SEnv Z.K Z.T F H ρ σ) (hl : es.length ≤ 1000) (hn : ∀ ρ vs ρ', f ρ = .ok vs ρ' → vs.length = es.length)
    (q : After Z.K Z.T (exC Z) W σ ρ F H (fun rs _ F' H' => ∀ vs, RvsOk Z.K Z.T F' H' H vs rs → ∀ p, H' p = none → Q (.ref p) (upd H' p (.tup vs))) (f ρ)) : wE X (.Tuple es k pos) σ H Q := by
  refine wE_of (pe_tup pa_w) (s X W a σ ρ F H _ e ?_)
  cases hf : f ρ with
  | fail => rw [hf] at q; exact q
  | exc c ρ1 => rw [hf] at q; exact q
  | ok rs ρ1 =>
    rw [hf] at q
    intro F1 H1 go vs r
    have := RvsOk.length r
    exact ⟨by rw [this, hn _ _ _ hf, sizeLine_eq]; omega, q F1 H1 go vs r⟩
theorem ss_par {ts es : List Expr} {k k2 : Nat} {p p2 pos : Pos} {is : List Nat} {f : Sl → R (List RV)} {r : Option (List Str)} (n : NmsOk g ts is) (hp : parK g ts es = some r) (hr : r = none ∨ r = some (ts.filterMap isNm)) (nd : is.Nodup) (hloc : r ≠ none → ∀ x p, Expr.Name x p ∈ ts → kd g x = some .local)
    (s : SRs Z g h es f) (hl : es.length = ts.length) (hl2 : es.length ≤ 1000) (hn : ∀ ρ vs ρ', f ρ = .ok vs ρ' → vs.length = es.length) :
    SS Z g h (.Assign [.Tuple ts k p] (.Tuple es k2 p2) pos) (fun ρ => Out.ofR (fun vs ρ' => match putAll is vs ρ' with
      | some ρ2 => .nx ρ2
      | none => .fail) (f ρ)) := by
  intro X W a σ ρ F H D e q
  dsimp only at q
  have fin : ∀ rs ρ1 F1 H1 vs, f ρ = .ok rs ρ1 → Go Z.K Z.T σ ρ F H ρ1 F1 H1 → RvsOk Z.K Z.T F1 H1 H vs rs → vs.length = is.length ∧ D.nx (setA σ is vs) H1 := fun rs ρ1 F1 H1 vs hf go rr => by
    rw [hf] at q
    change AfterS _ _ _ _ _ _ _ _ _ (match putAll is rs ρ1 with | some ρ2 => Out.nx ρ2 | none => .fail) at q
    split at q
    · rename_i ρ2 ha
      exact par_end e go rr ha q
    · exact q.elim
  rcases hr with hr | hr
  · subst hr
    obtain ⟨l1, l2⟩ := each_len (env := X.env) n.plain
    refine wS_of (ps_asg pe_w (pg_tup a.calm pgs_w l1 l2) rfl (parK_ok a.sc hp) rfl) (s.tup a e hl2 hn ?_)
    cases hf : f ρ with
    | fail => rw [hf] at q; exact q
    | exc c ρ1 => rw [hf] at q; exact fun F' H' cls dd g hc => q σ F' H' cls dd g.s hc
    | ok rs ρ1 =>
      intro F1 H1 go vs rr p hpn
      obtain ⟨w1, w2⟩ := fin rs ρ1 F1 (L2.upd H1 p (.tup vs)) vs hf (go.other hpn) (rr.upd hpn)
      exact ⟨p, vs, rfl, TupAt.sq (.inl upd_same), by rw [w1, n.len], names_wGs a n w1 w2⟩
  · have hsw := parK_ok (k := k) (k2 := k2) (p := p) (p2 := p2) a.sc hp
    subst hr
    have aft : ∀ Q : List V → Hp → Prop, (∀ vs H1, vs.length = is.length → D.nx (setA σ is vs) H1 → Q vs H1) → wA X es σ H Q := fun Q hQ => s X W a σ ρ F H Q e (by
      cases hf : f ρ with
      | fail => rw [hf] at q; exact q
      | exc c ρ1 => rw [hf] at q; exact fun F' H' cls dd g hc => q σ F' H' cls dd g.s hc
      | ok rs ρ1 =>
        intro F1 H1 go vs rr
        obtain ⟨w1, w2⟩ := fin rs ρ1 F1 H1 vs hf go rr
        exact hQ vs H1 w1 w2)
    have lk : ∀ {x : Str}, kd g x = some .local → X.env.scope.names.lookup x = some .local := fun h => by rw [a.sc]; exact h
    have len : ts.length = 2 ∨ ts.length = 3 := by
      unfold parK at hp
      split at hp
      · cases hp
      · rename_i hc
        simp only [Bool.or_eq_true, Bool.not_eq_true', not_or, beq_iff_eq] at hc
        have := hc.1.1
        simp only [Bool.or_eq_false_iff, not_and, Bool.not_eq_false] at this
        by_cases h2 : ts.length = 2
        · exact .inl h2
        · exact .inr (by have := this (by simpa using h2); simpa using this)
    have sl : ∀ {x : Str} {i : Nat}, slot g x = some i → X.N[i]? = some x := fun h => by rw [a.nm]; exact (slot_some h).1
    cases n with
    | nil => simp at len
    | cons s1 st1 k1 n =>
      cases n with
      | nil => simp at len
      | cons s2 st2 k2 n =>
        have k1' := hloc (by simp) _ _ List.mem_cons_self
        have k2' := hloc (by simp) _ _ (List.mem_cons_of_mem _ List.mem_cons_self)
        cases n with
        | nil =>
          obtain ⟨b1, b2, rfl⟩ : ∃ b1 b2, es = [b1, b2] := by
            match es, hl with
            | [b1, b2], _ => exact ⟨b1, b2, rfl⟩
          refine wS_of (ps_par a.calm (by rw [a.nm]; exact a.nd) (sl s1) (sl s2) (by intro z; subst z; simp at nd) (lk k1') (lk k2') pa_w hsw rfl) (aft _ fun vs H1 l w => ?_)
          match vs, l with
          | [v1, v2], _ => exact ⟨v1, v2, rfl, w⟩
        | cons s3 st3 k3 n =>
          have k3' := hloc (by simp) _ _ (List.mem_cons_of_mem _ (List.mem_cons_of_mem _ List.mem_cons_self))
          cases n with
          | nil =>
            obtain ⟨b1, b2, b3, rfl⟩ : ∃ b1 b2 b3, es = [b1, b2, b3] := by
              match es, hl with
              | [b1, b2, b3], _ => exact ⟨b1, b2, b3, rfl⟩
            refine wS_of (ps_par3 a.calm (by rw [a.nm]; exact a.nd) (sl s1) (sl s2) (sl s3) (by intro z; subst z; simp at nd) (by intro z; subst z; simp at nd) (by intro z; subst z; simp at nd) (lk k1') (lk k2') (lk k3') pa_w hsw rfl) (aft _ fun vs H1 l w => ?_)
            match vs, l with
            | [v1, v2, v3], _ => exact ⟨v1, v2, v3, rfl, w⟩
          | cons s4 st4 k4 n => simp at len
end Ev
end
section
set_option Elab.async false
set_option linter.all false
set_option maxRecDepth 100000
/-! Stores into lists and dicts; del; +=. -/
namespace Ev
open PySem PySem.Spec PyProof.Rows L2
variable {Z : Fix} {g : Sta} {h : List Calls} {K : PySem.W.Frag} {F F' F1 F2 F3 H H' H0 H1 H2 H3 : Hp} {T : List Addr} {σ σ' σ1 σ2 : Sg} {ρ ρ' ρ1 ρ2 ρ3 : Sl} {W : WX} {X : Cx} {C : ExW} {O : Addr → Prop}
/-- the weakest reading of o[i] = v, by values -/
def wPut (X : Cx) : TSet := fun o i v H Q => ∀ pins s σ ov iv u, Inv X pins σ H s → RelV o ov → RelV i iv → RelV v u → wpAny (model X.prog X.w) X.A (setItem ov iv u) (fun _ s' => ∃ H', Inv X pins σ H' s' ∧ Q H') X.xe s
theorem put_w : PSet X (wPut X) := fun pins s σ H o i v ov iv u Q I ro ri rv w => w pins s σ ov iv u I ro ri rv
theorem put_of {t : TSet} {o i v : V} {Q : Hp → Prop} (hs : PSet X t) (q : t o i v H Q) : wPut X o i v H Q := fun pins s σ ov iv u I ro ri rv => hs pins s σ H o i v ov iv u Q I ro ri rv q
theorem place_ixN {n j : Nat} {k : Int} (h : place n k = some j) : ixN n k = some j := by
  rw [place_ix] at h; exact h
theorem sto_ok {i : Nat} {x : V} {v k : V} {rk : RV} {y : D} {D : Ends} (a : At Z g h W X) (e : SEnv Z.K Z.T F H ρ σ) (hx : stV σ i = some x) (rv : Rp Z.K F v y) (rr : ∀ d, rk = .shr d → Rp Z.K F k d)
    (q : AfterS Z.K Z.T C W σ ρ F H D (stoV ρ i rk y)) : wPut X x k v H (fun H' => D.nx σ H') := by
  unfold stoV at q
  split at q
  · rename_i io xs j hp
    obtain ⟨b, hb, f, t, ⟨us, hl, ru⟩, oa⟩ := e.at hp
    rw [hx] at hb
    cases hb
    split at q
    · rename_i p hpl
      have := rr _ rfl
      cases this
      have hpl' := hpl
      rw [← ru.length] at hpl'
      have go := Go.write (d' := .list (xs.set p y)) e hp hx (o := .lst (us.set p v)) ⟨_, upd_same, ru.set p rv⟩
      exact put_of set_list ⟨b, us, j, p, rfl, rfl, hl, place_ixN hpl', q σ F _ go.s⟩
    · exact q.elim
  · rename_i io kvs kd hp
    obtain ⟨b, hb, f, t, ⟨us, hl, ru⟩, oa⟩ := e.at hp
    rw [hx] at hb
    cases hb
    split at q
    · rename_i hc
      simp only [Bool.and_eq_true, decide_eq_true_eq] at hc
      obtain ⟨k', rfl⟩ := keyOk_dKey hc.1.1
      have hk : k = kV k' := by
        have := rr _ rfl
        cases k' with
        | inl n => cases this; rfl
        | inr n => cases this; rfl
      have go := Go.write (d' := .dict (put kvs (keyD k') y)) e hp hx (o := .dK (putK us k' v)) ⟨_, upd_same, ru.pt k' rv⟩
      exact put_of (set_dict (by have := a.ok.hu; omega)) ⟨b, _, rfl, by rw [hk]; exact DPut.k hl (by rw [ru.length, sizeLine_eq]; exact hc.2), q σ F _ go.s⟩
    · exact q.elim
  · exact q.elim
theorem swaps_sub {e o i : Expr} {p : Pos} {l : Nat} {env : Env} : swapsWithSole [.Subscript o i p] e l env = pure false := by
  cases e <;> rfl
theorem stV_at {i : Nat} {x : V} (h : stV σ i = some x) : σ[i]? = some (some x) := by
  unfold stV at h
  rwa [Option.join_eq_some_iff] at h
theorem ss_sto {x : Str} {p tp pos : Pos} {i : Nat} {ke ve : Expr} {fk fv : Sl → R RV} (hs : slot g x = some i) (hsl : isSlice ke = false) (sk : SE Z g h ke fk) (sv : SE Z g h ve fv) :
    SS Z g h (.Assign [.Subscript (.Name x p) ke tp] ve pos) (fun ρ => match fv ρ with
    | .ok y ρ1 => match getS ρ1 i with
      | .hld _ _ _ => match fk ρ1 with
        | .ok x ρ2 => stoV ρ2 i x y.d
        | .exc c ρ' => .exc c ρ'
        | .fail => .fail
      | _ => .fail
    | .exc c ρ' => .exc c ρ'
    | .fail => .fail) := by
  intro X W a σ ρ F H D e q
  dsimp only at q
  refine wS_of (ps_asg pe_w (pg_sub (slot_pe (pos := p) hs a) pe_w put_w (by intro v; cases ke <;> first | rfl | exact absurd hsl (by simp [isSlice]))) swaps_sub rfl rfl) (sv X W a σ ρ F H _ e ?_)
  cases hv : fv ρ with
  | fail => rw [hv] at q; exact q
  | exc c ρ1 => rw [hv] at q; exact fun F' H' cls dd g hc => q σ F' H' cls dd g.s hc
  | ok rv ρ1 =>
    rw [hv] at q
    intro F1 H1 g1 v r
    obtain ⟨F2, g2, r2, sm⟩ := Go.dat e g1 r
    dsimp only at q
    split at q
    · rename_i io lk d hp
      obtain ⟨b, hb, _⟩ := g1.env.at hp
      refine ⟨.ref b, stV_at hb, sk X W a σ ρ1 F2 H1 _ g2.env ?_⟩
      cases hk : fk ρ1 with
      | fail => rw [hk] at q; exact q
      | exc c ρ2 => rw [hk] at q; exact fun F' H' cls dd g hc => q σ F' H' cls dd (g2.trans g).s hc
      | ok rk ρ2 =>
        rw [hk] at q
        intro F3 H3 g3 k rk'
        exact sto_ok (C := exC Z) a g3.env hb (r2.mono g3.fw.fsub) (fun d hd => by subst hd; exact rk') (AfterS.from (g2.trans g3).s q)
    · exact q.elim
theorem ss_del {x : Str} {p tp pos : Pos} {i : Nat} {ke : Expr} {fk : Sl → R RV} (hs : slot g x = some i) (sk : SE Z g h ke fk) :
    SS Z g h (.Delete [.Subscript (.Name x p) ke tp] pos) (fun ρ => match getS ρ i with
    | .hld _ _ _ => match fk ρ with
      | .ok x ρ2 => delV ρ2 i x
      | .exc c ρ' => .exc c ρ'
      | .fail => .fail
    | _ => .fail) := by
  intro X W a σ ρ F H D e q
  dsimp only at q
  split at q
  · rename_i io lk d hp
    obtain ⟨b, hb, _⟩ := e.at hp
    refine wS_of (ps_ddel (slot_pe (pos := p) hs a) pe_w) ⟨.ref b, stV_at hb, sk X W a σ ρ F H _ e ?_⟩
    cases hk : fk ρ with
    | fail => rw [hk] at q; exact q
    | exc c ρ2 => rw [hk] at q; exact fun F' H' cls dd g hc => q σ F' H' cls dd g.s hc
    | ok rk ρ2 =>
      rw [hk] at q
      intro F3 H3 g3 k rk'
      unfold delV at q
      dsimp only at q
      split at q
      · rename_i io' kvs kd hp'
        split at q
        · rename_i hc
          simp only [Bool.and_eq_true] at hc
          obtain ⟨k', rfl⟩ := keyOk_dKey hc.1.1
          obtain ⟨b', hb', f, t, ⟨us, hl, ru⟩, oa⟩ := g3.env.at hp'
          rw [hb] at hb'
          cases hb'
          have hk : k = kV k' := by
            have : Rp Z.K F3 k (keyD k') := rk'
            cases k' with
            | inl n => cases this; rfl
            | inr n => cases this; rfl
          have go := Go.write (d' := .dict (rem kvs (keyD k'))) g3.env hp' hb (o := .dK (dropK us k')) ⟨_, upd_same, ru.drop k'⟩
          exact ⟨b, us, k', rfl, hl, hk, by rw [ru.isSome]; exact hc.2, q σ F3 _ (g3.trans go).s⟩
        · exact q.elim
      · exact q.elim
  · exact q.elim
theorem ss_aug {x : Str} {p pos : Pos} {i : Nat} {e0 : Expr} {f : Sl → R RV} (hs : slot g x = some i) (hst : storable g i = true) (hl : kd g x = some .local ∨ kd g x = some .cell) (s : SE Z g h e0 f) :
    SS Z g h (.AugAssign (.Name x p) .Add e0 pos) (fun ρ => match getS ρ i with
    | .shr (.int j) => match f ρ with
      | .ok (.shr (.int k)) ρ' => match setS ρ' i (.shr (.int (j + k))) with
        | some ρ2 => .nx ρ2
        | none => .fail
      | .exc c ρ' => .exc c ρ'
      | _ => .fail
    | _ => .fail) := by
  intro X W a σ ρ F H D e q
  dsimp only at q
  obtain ⟨h1, h2, h3, h4⟩ := slot_some hs
  split at q
  · rename_i j hp
    have so := e.slot i
    rw [hp] at so
    obtain ⟨v, hv, rv⟩ := so
    refine wS_of (ps_aug (i := i) (by rw [a.nm]; exact a.nd) (by rw [a.nm]; exact h1) (by show X.env.scope.names.lookup x = _ ∨ X.env.scope.names.lookup x = _; rw [a.sc]; exact hl) pe_w ip_add (a.st i x hst h1)) ⟨v, stV_at hv, s X W a σ ρ F H _ e ?_⟩
    cases hf : f ρ with
    | fail => rw [hf] at q; exact q
    | exc c ρ1 => rw [hf] at q; exact fun F' H' cls dd g hc => q σ F' H' cls dd g.s hc
    | ok rv1 ρ1 =>
      rw [hf] at q
      intro F1 H1 g1 u r
      cases rv1 with
      | own d => exact q.elim
      | shr d => cases d <;> first | exact q.elim | skip
                 rename_i k
                 cases rv
                 have ru : Rp Z.K F1 u (.int k) := r
                 cases ru
                 change AfterS _ _ _ _ _ _ _ _ _ (match setS ρ1 i (.shr (.int (j + k))) with | some ρ2 => Out.nx ρ2 | none => .fail) at q
                 split at q
                 · rename_i ρ3 ha
                   have ga := GoA.set (rv := .shr (.int (j + k))) (v := .int (j + k)) g1.env (.int _) ha
                   exact ⟨j, k, rfl, rfl, q _ F1 H1 (GoS.asg g1.s ga fun y hy => (ga.own y hy).elim id fun z => by cases z.1)⟩
                 · exact q.elim
  · exact q.elim
end Ev
end
section
set_option Elab.async false
set_option linter.all false
set_option maxRecDepth 100000
/-! all(..), any(..) of generator expressions. -/
namespace Ev
open PySem PySem.Spec PyProof.Rows L2
variable {Z : Fix} {g : Sta} {h : List Calls} {K : PySem.W.Frag} {F F' F1 F2 F3 H H' H0 H1 H2 H3 : Hp} {T : List Addr} {σ σ' σ1 σ2 : Sg} {ρ ρ' ρ1 ρ2 ρ3 : Sl} {W : WX} {X : Cx} {C : ExW} {O : Addr → Prop}
theorem genOk {nm : List Str} {sc scope : Scope} (h : genC nm sc scope (ownOf nm scope) = true) : GenOk nm sc scope (ownOf nm scope) := by
  unfold genC at h
  simp only [Bool.and_eq_true, Bool.not_eq_true', List.all_eq_true, decide_eq_true_eq] at h
  exact ⟨blk_ok h.1.1.1.1, h.1.1.1.2, fun y hy => h.1.1.2 y hy, h.1.2⟩
theorem genC_blk {nm : List Str} {sc scope : Scope} (h : genC nm sc scope (ownOf nm scope) = true) : Ev.blkC nm sc scope (ownOf nm scope) = true := by
  unfold genC at h
  simp only [Bool.and_eq_true] at h
  exact h.1.1.1.1
/-- one stands in a generator's frame -/
theorem At.gen {scope : Scope} {c : Calls} {t : List Calls} {s0 : Shared} {H0 : Hp} {code : Value} {fp : List Addr} (a : At Z g (c :: t) W X) (hb : genC g.nm g.sc scope (ownOf g.nm scope) = true) :
    At Z (inGenS g scope (ownOf g.nm scope)) t noW (genX X scope s0 H0 code fp) where
  prog := a.prog
  w := a.w
  K := a.K
  mg := a.mg
  base := a.base
  nm := a.nm
  sc := rfl
  nd := a.nd
  room := ⟨a.room.hd, by have := a.room.dp; simp only [List.length_cons] at this; show X.A.depth + 1 + 3 * (2 * t.length + 1) + 5 < _; omega, by have := a.room.un; simp only [List.length_cons] at this; show X.A.units + 1 + 1 + 3 + 16 * (2 * t.length + 1) + 200 < _; omega⟩
  calm := a.calm
  takes := fun u s' ⟨_, _, _, _, _, _, _, _, _, _, _, _, _, _, _, _, w⟩ => w
  owns := PassesOwn.never
  st := fun i x hs hx => by
    have ok := genOk hb
    rcases own_mem a.nd ok.blk.uniq hs hx with q | q
    · exact .inr q
    · exact absurd rfl (ok.cell _ (PySem.mem_of_lookup q))
  fns := fun c' t' e => ⟨(a.fns c' t' (e.trans (List.suffix_cons c t))).fn⟩
  named := ⟨a.named.cs, a.named.bl⟩
  code := fun _ z => by cases z
/-- the table of generators has grown -/
theorem Go.tabbed {P : Addr} (e : SEnv K T F H ρ σ) (hP : P ∈ T) (tb : GxR.Tabbed P H H') : Go K T σ ρ F H ρ F H' := by
  have at_ : ∀ b, b ∉ T → H' b = H b := fun b hb => tb.2 b fun z => hb (by rw [z]; exact hP)
  refine ⟨⟨.refl _, fun a u h _ nt => by rw [at_ a nt]; exact h, fun a u h => ?_, fun a u z => .inl z⟩, ⟨e.len, fun a u z => ?_, e.tabF, fun b hb => ?_, fun i => ?_, e.apart⟩, fun a h => h, fun i io lk d hi _ => ⟨d, hi, fun _ => rfl⟩⟩
  · by_cases hb : a = P
    · obtain ⟨ps, q, _⟩ := tb.1; exact ⟨_, by rw [hb]; exact q⟩
    · exact ⟨u, by rw [tb.2 a hb]; exact h⟩
  · have : a ∉ T := fun w => by rw [e.tabF a w] at z; cases z
    rw [at_ a this]; exact e.sub _ _ z
  · by_cases hb' : b = P
    · rw [hb']; exact tb.1
    · obtain ⟨ps, q1, q2⟩ := e.tabH b hb
      exact ⟨ps, by rw [tb.2 b hb']; exact q1, q2⟩
  · have s := e.slot i
    cases hp : getS ρ i with
    | non => trivial
    | shr d => rw [hp] at s; exact s
    | hld io lk d =>
      rw [hp] at s
      obtain ⟨a, e1, f, t, q⟩ := s
      exact ⟨a, e1, f, t, q.mono (.refl _) (at_ a t)⟩
theorem stopL_step {b r : Bool} {f : D → Sl → R (Option Bool)} {x : D} {xs : List D} {ρ ρE : Sl} (h : stopL b f (x :: xs) ρ = .ok r ρE) :
    ∃ o ρ1, f x ρ = .ok o ρ1 ∧ (o = some b ∧ r = b ∧ ρE = ρ1 ∨ o ≠ some b ∧ stopL b f xs ρ1 = .ok r ρE) := by
  rw [stopL] at h
  cases h1 : f x ρ with
  | fail => rw [h1] at h; cases h
  | exc c ρ1 => rw [h1] at h; cases h
  | ok o ρ1 =>
    rw [h1] at h
    change (if o = some b then R.ok b ρ1 else stopL b f xs ρ1) = _ at h
    split at h
    · rename_i e; cases h; exact ⟨o, _, rfl, .inl ⟨e, rfl, rfl⟩⟩
    · rename_i e; exact ⟨o, _, rfl, .inr ⟨e, h⟩⟩
theorem bool_ok {r : R RV} {k : Bool} {ρE : Sl} (h : (r.bind fun v r' => R.ofO r' (boolOf v)) = .ok k ρE) : r = .ok (.shr (.bool k)) ρE := by
  cases r with
  | fail => cases h
  | exc c r => cases h
  | ok rv r =>
    change R.ofO r (boolOf rv) = _ at h
    cases rv with
    | own d => cases h
    | shr d => cases d <;> first | (cases h; rfl) | cases h
def gG (X : Cx) (scope : Scope) (tg : Expr) : TG := fun v σ H Q => ∀ s H0 code fp, wG (genX X scope s H0 code fp) tg v σ H Q
def tG (X : Cx) (scope : Scope) (ifs : List Expr) : TT := fun σ H Q => ∀ s H0 code fp, wTs (genX X scope s H0 code fp) ifs σ H Q
def eG (X : Cx) (scope : Scope) (elt : Expr) : TE := fun σ H Q => ∀ s H0 code fp, wE (genX X scope s H0 code fp) elt σ H Q
theorem sto_gen {scope : Scope} {j : Nat} (hj : j ∉ (ownOf g.nm scope).map (·.2)) : storable (inGenS g scope (ownOf g.nm scope)) j = false := by
  show ((ownOf g.nm scope).map (·.2)).contains j = false
  cases q : ((ownOf g.nm scope).map (·.2)).contains j with
  | false => rfl
  | true => exact absurd (List.contains_iff_mem.mp q) hj
theorem gen_core {b : Bool} {c : Calls} {t : List Calls} {P : Addr} {elt tg iter : Expr} {ifs : List Expr} {scope : Scope} {tt : Tg} {fit : Sl → R Its} {ft : Sl → R Bool} {fe : Sl → R RV} (si : SIt Z g (c :: t) tg iter fit) (hb : genC g.nm g.sc scope (ownOf g.nm scope) = true)
    (sg : SG Z (inGenS g scope (ownOf g.nm scope)) t tg tt) (st : STs Z (inGenS g scope (ownOf g.nm scope)) t ifs ft) (se : SE Z (inGenS g scope (ownOf g.nm scope)) t elt fe)
    (a : At Z g (c :: t) W X) (hPT : P ∈ Z.T) {Q : VK} (e : SEnv Z.K Z.T F H ρ σ)
    (q : After Z.K Z.T (exC Z) W σ ρ F H (okV Z H Q) ((fit ρ).bind fun its ρ' => match lockS ρ' its.lk with
      | some ρ1 => (inBlk ((ownOf g.nm scope).map (·.2)) ρ1 (stopL b (turn ((ownOf g.nm scope).map (·.2)) tt ft fun r => (fe r).bind fun v r' => R.ofO r' (boolOf v)) its.xs)).bind fun k ρ2 => .ok (.shr (.bool k)) (unlockS ρ' ρ2 its.lk)
      | none => .fail)) :
    tQu b P (wI X tg iter) (gG X scope tg) (tG X scope ifs) (eG X scope elt) ((ownOf g.nm scope).map (·.2)) σ H Q := by
  generalize hvs : (ownOf g.nm scope).map (·.2) = vs at q ⊢
  refine si.2 X W a σ ρ F H _ e (q.split.mono fun its ρi F1 H1 g1 q1 J ρL hL iok => ?_)
  refine ⟨g1.env.tabH P hPT, fun Ht tb => ?_⟩
  have gt := Go.tabbed g1.env hPT tb
  have q1 := After.from gt q1
  have e1 := gt.env
  rw [hL] at q1
  generalize hfn : (turn vs tt ft fun r => (fe r).bind fun v r' => R.ofO r' (boolOf v)) = fn at q1
  change After _ _ _ _ _ _ _ _ _ ((inBlk vs ρL (stopL b fn its.xs)).bind fun k ρ2 => R.ok (RV.shr (.bool k)) (unlockS ρi ρ2 its.lk)) at q1
  unfold inBlk at q1
  cases hn : noMut ρL vs with
  | false => rw [hn] at q1; exact q1.elim
  | true =>
    rw [hn, if_pos rfl] at q1
    cases hc : stopL b fn its.xs (wipeS ρL vs) with
    | fail => rw [hc] at q1; exact q1.elim
    | exc c r => rw [hc] at q1; exact q1.elim
    | ok res ρE =>
      rw [hc] at q1
      change After _ _ _ _ _ _ _ _ _ (R.ok (RV.shr (.bool res)) (unlockS ρi (backS ρL ρE vs) its.lk)) at q1
      obtain ⟨eL, hL2, hL3⟩ := lock_env e1 hL
      obtain ⟨eB', ow⟩ := env_wiped eL hn
      have nvs : ∀ k ∈ vs, getS (wipeS ρL vs) k = .non := fun k hk => by rw [wipeS_get, if_pos hk]
      have last : ∀ F' H', GoW Z.K Z.T (Own (wipeS ρL vs) (L2.wipe σ vs)) (L2.wipe σ vs) (wipeS ρL vs) F1 Ht (L2.wipe σ vs) ρE F' H' → Q (.bl res) H' := fun F' H' gw =>
        q1 F' H' (Go.unlock e1 hL (GoW.back eL hn gw)) (.bl res) (.bl res)
      refine ⟨fun i m H' => i ≤ its.xs.length ∧ m = its.xs.length - i ∧ ∃ ρ' F', stopL b fn (its.xs.drop i) ρ' = .ok res ρE ∧
        GoW Z.K Z.T (Own (wipeS ρL vs) (L2.wipe σ vs)) (L2.wipe σ vs) (wipeS ρL vs) F1 Ht (L2.wipe σ vs) ρ' F' H', ⟨_, Nat.zero_le _, rfl, wipeS ρL vs, F1, hc, GoW.refl eB' fun _ z => z⟩, ?_⟩
      rintro i m H' ⟨hi, rfl, ρ', F', hcr, gw⟩
      have lkc : ∀ k, its.lk = some k → getS ρ' k = getS ρL k ∧ stV (L2.wipe σ vs) k = stV σ k := fun k hk => by
        obtain ⟨io, d, hd⟩ := hL3 k hk
        have nk : k ∉ vs := fun z => noMut_at hn z _ _ _ hd
        have hd' : getS (wipeS ρL vs) k = .hld io true d := by rw [wipeS_get, if_neg nk]; exact hd
        obtain ⟨d', w1, _, w3⟩ := gw.pin k io true d hd' (.inr rfl)
        exact ⟨by rw [w1, hd, w3 rfl], by rw [wipe_stV, if_neg nk]⟩
      obtain ⟨go1, go2, go3⟩ := iok.ok ρ' _ F' H' gw.env gw.fw.fsub lkc
      by_cases hlt : i < its.xs.length
      · refine .inr ⟨go1 i hlt, fun H'' => i + 1 ≤ its.xs.length ∧ ∃ ρ' F', stopL b fn (its.xs.drop (i + 1)) ρ' = .ok res ρE ∧
          GoW Z.K Z.T (Own (wipeS ρL vs) (L2.wipe σ vs)) (L2.wipe σ vs) (wipeS ρL vs) F1 Ht (L2.wipe σ vs) ρ' F' H'', fun H'' w => ⟨_, by omega, w.1, rfl, w.2⟩, fun x H'' y => ?_⟩
        obtain ⟨F2, d, ex, hd, rx⟩ := go3 i x H'' hlt y
        have hdrop : its.xs.drop i = d :: its.xs.drop (i + 1) := by
          rw [List.drop_eq_getElem_cons hlt]
          rw [List.getElem?_eq_getElem hlt] at hd
          cases hd; rfl
        rw [hdrop] at hcr
        obtain ⟨o, ρn, hf, hcase⟩ := stopL_step hcr
        rw [← hfn] at hf
        obtain ⟨ρ1, k, ρ2, ha, ht, hk⟩ := turn_ok hf
        have gw2 := gw.go (Go.ext gw.env ex)
        intro s0 H0 code fp
        refine sg.2 _ noW (At.gen a hb) (L2.wipe σ vs) ρ' F2 H'' x (.shr d) ρ1 _ gw2.env rx ha fun σ2 s2 ga o2 => ?_
        have gw3 := gw2.asg ga (o2 ⟨d, rfl⟩)
        have hw : L2.wipe σ2 vs = L2.wipe σ vs := by
          rw [still_wipe s2 fun j hj => sto_gen (by rw [hvs]; exact hj), wipe_wipe]
        refine ⟨hw, fun s0 H0 code fp => ?_⟩
        refine st _ noW (At.gen a hb) σ2 ρ1 F2 H'' _ gw3.env (After.of_ok (fun F3 H3 g3 => ?_) ht)
        have gw4 := gw3.go g3
        rcases hk with ⟨rfl, rfl, rfl⟩ | ⟨rfl, kv, ρ3, he, rfl, rfl⟩
        · rw [if_neg Bool.false_ne_true]
          have := gw4.wiped nvs
          rw [hw] at this
          rcases hcase with ⟨z, _⟩ | ⟨_, hcr'⟩
          · cases z
          · exact ⟨hlt, _, F3, hcr', this⟩
        · rw [if_pos rfl]
          intro s0 H0 code fp
          have hrv := bool_ok he
          refine se _ noW (At.gen a hb) σ2 ρ2 F3 H3 _ g3.env (After.of_ok (fun F4 H4 g4 v4 r4 => ?_) hrv)
          have gw5 := (gw4.go g4).wiped nvs
          rw [hw] at gw5
          have r4' : Rp Z.K F4 v4 (.bool kv) := r4
          cases r4'
          refine ⟨kv, rfl, ?_⟩
          rcases hcase with ⟨z, rfl, rfl⟩ | ⟨z, hcr'⟩
          · cases z
            rw [if_pos rfl]
            exact last F4 H4 gw5
          · rw [if_neg fun y => z (by rw [y])]
            exact ⟨hlt, _, F4, hcr', gw5⟩
      · have hi' : i = its.xs.length := by omega
        subst hi'
        rw [List.drop_length] at hcr
        cases hcr
        exact .inl ⟨go2, last F' H' gw⟩
theorem se_all {c : Calls} {t : List Calls} {elt tg iter : Expr} {ifs : List Expr} {scope : Scope} {p gpos pos : Pos} {tt : Tg} {fit : Sl → R Its} {ft : Sl → R Bool} {fe : Sl → R RV} (hbl : blt g "all" = true) (hhg : g.hg = true) (hgb : g.gb = false) (hfo : ∀ env v, genFold iter env v = pure v) (si : SIt Z g (c :: t) tg iter fit) (hb : genC g.nm g.sc scope (ownOf g.nm scope) = true)
    (sg : SG Z (inGenS g scope (ownOf g.nm scope)) t tg tt) (st : STs Z (inGenS g scope (ownOf g.nm scope)) t ifs ft) (se : SE Z (inGenS g scope (ownOf g.nm scope)) t elt fe) :
    SE Z g (c :: t) (.Call (.Name "all" p) [.GeneratorExp elt [⟨tg, iter, ifs, 0⟩] scope gpos] [] pos) (fun ρ => (fit ρ).bind fun its ρ' => match lockS ρ' its.lk with
      | some ρ1 => (inBlk ((ownOf g.nm scope).map (·.2)) ρ1 (stopL false (turn ((ownOf g.nm scope).map (·.2)) tt ft fun r => (fe r).bind fun v r' => R.ofO r' (boolOf v)) its.xs)).bind fun k ρ2 => .ok (.shr (.bool k)) (unlockS ρ' ρ2 its.lk)
      | none => .fail) := by
  intro X W a σ ρ F H Q e q
  obtain ⟨cc, P, hcode, tb, hPT⟩ := a.code hhg hgb
  obtain ⟨h1, h2, h3, h4⟩ := blt_some hbl a
  exact wE_of (pe_allQ (k := 1) (a.room.mono (by omega)) a.calm (by rw [a.nm]; exact a.nd) h1 h2 tb hcode (by rw [a.nm, a.sc]; exact genOk hb) pi_w (hfo _) (fun s0 H0 code fp => ⟨fun pins s σ H v u Q I r w => w s0 H0 code fp pins s u I r⟩) (fun s0 H0 code fp => ⟨fun pins s σ H Q I w => w s0 H0 code fp pins s I⟩)
    (fun s0 H0 code fp => ⟨fun pins s σ H Q I w => w s0 H0 code fp pins s I⟩)) (gen_core (b := false) si hb sg st se a hPT e q)
theorem se_any {c : Calls} {t : List Calls} {elt tg iter : Expr} {ifs : List Expr} {scope : Scope} {p gpos pos : Pos} {tt : Tg} {fit : Sl → R Its} {ft : Sl → R Bool} {fe : Sl → R RV} (hbl : blt g "any" = true) (hhg : g.hg = true) (hgb : g.gb = false) (hfo : ∀ env v, genFold iter env v = pure v) (si : SIt Z g (c :: t) tg iter fit) (hb : genC g.nm g.sc scope (ownOf g.nm scope) = true)
    (sg : SG Z (inGenS g scope (ownOf g.nm scope)) t tg tt) (st : STs Z (inGenS g scope (ownOf g.nm scope)) t ifs ft) (se : SE Z (inGenS g scope (ownOf g.nm scope)) t elt fe) :
    SE Z g (c :: t) (.Call (.Name "any" p) [.GeneratorExp elt [⟨tg, iter, ifs, 0⟩] scope gpos] [] pos) (fun ρ => (fit ρ).bind fun its ρ' => match lockS ρ' its.lk with
      | some ρ1 => (inBlk ((ownOf g.nm scope).map (·.2)) ρ1 (stopL true (turn ((ownOf g.nm scope).map (·.2)) tt ft fun r => (fe r).bind fun v r' => R.ofO r' (boolOf v)) its.xs)).bind fun k ρ2 => .ok (.shr (.bool k)) (unlockS ρ' ρ2 its.lk)
      | none => .fail) := by
  intro X W a σ ρ F H Q e q
  obtain ⟨cc, P, hcode, tb, hPT⟩ := a.code hhg hgb
  obtain ⟨h1, h2, h3, h4⟩ := blt_some hbl a
  exact wE_of (pe_anyQ (k := 1) (a.room.mono (by omega)) a.calm (by rw [a.nm]; exact a.nd) h1 h2 tb hcode (by rw [a.nm, a.sc]; exact genOk hb) pi_w (hfo _) (fun s0 H0 code fp => ⟨fun pins s σ H v u Q I r w => w s0 H0 code fp pins s u I r⟩) (fun s0 H0 code fp => ⟨fun pins s σ H Q I w => w s0 H0 code fp pins s I⟩)
    (fun s0 H0 code fp => ⟨fun pins s σ H Q I w => w s0 H0 code fp pins s I⟩)) (gen_core (b := true) si hb sg st se a hPT e q)
end Ev
end
section
set_option Elab.async false
set_option linter.all false
set_option maxRecDepth 100000
/-! enumerate(..) over a list or a tuple. -/
namespace Ev
open PySem PySem.Spec PyProof.Rows L2 PySem.W
open PySem.Sem (wp)
set_option maxHeartbeats 1000000 in
theorem meets_enum1 {v : Value} {o : Obj} {G : Heap → Prop} (B : Begins v o G) :
    Meets (Builtin.«enumerate.__new__» ⟨[.type "enumerate", v], []⟩) (fun _ R s => G s.heap ∧
      R (.ok (.ret (.ref (s.heap.push o).objs.size))) { s with heap := (s.heap.push o).push { cls := .type "enumerate", data := .fields #[.none, .bool false, .ref s.heap.objs.size, rawInt 0, .none, .none] } }) :=
  .of_wp fun prog w A R s h => by
    obtain ⟨hp, gs, dr, tk, os⟩ := s; obtain ⟨g1, h⟩ := h
    have hsub := sub_enumerate
    have go1 : ∀ {A2 : Around} {E2 : Value → Shared → Prop} {Q2 : Value → Shared → Prop}, Q2 (.ref hp.objs.size) ⟨hp.push o, gs, dr, tk, os⟩ → wpAny (model prog w) A2 (pyIter v) Q2 E2 ⟨hp, gs, dr, tk, os⟩ :=
      fun q => B.iter prog w _ _ ⟨hp, gs, dr, tk, os⟩ _ g1 q
    wp_walk using go1
    refine wpAny_stack_any fun st => wpAny_pure ?_
    split
    · rename_i c _ _ _ _ _
      cases (c == Value.type "enumerate")
      · wp_walk using go1
        exact ⟨_, rfl, h⟩
      · wp_walk using go1
        exact ⟨_, rfl, h⟩
    · wp_walk using go1
      exact ⟨_, rfl, h⟩
theorem call_enum1 {prog : Program} {w : World} {A : Around} {E : Value → Shared → Prop} {s : Shared} {v : Value} {o : Obj} {G : Heap → Prop} {Q : Value → Shared → Prop} (B : Begins v o G) (g1 : G s.heap)
    (h : ∀ h', IsEnum h' (s.heap.objs.size + 1) s.heap.objs.size 0 .none → h'.get? s.heap.objs.size = some o → (∀ b u, s.heap.get? b = some u → h'.get? b = some u) → Q (.ref (s.heap.objs.size + 1)) { s with heap := h' }) :
    wpAny (model prog w) A (call (.type "enumerate") [v]) Q E s := by
  refine callType_new F.called_enumerate (by decide) (F.typeCall_enumerate_1 _) (F.newCall_enumerate_1 _) (fun ob => F.args_object_init_2 ob _) F.entry_enumerate_new (meets_enum1 B) ⟨g1, ?_⟩
  have sz : (s.heap.push o).objs.size = s.heap.objs.size + 1 := Heap.size_push ..
  show _ ∧ _
  rw [sz]
  have en : IsEnum ((s.heap.push o).push { cls := .type "enumerate", data := .fields #[.none, .bool false, .ref s.heap.objs.size, rawInt 0, .none, .none] }) (s.heap.objs.size + 1) s.heap.objs.size 0 .none := by
    have w := Heap.get?_push_size (s.heap.push o) (o := { cls := .type "enumerate", data := .fields #[.none, .bool false, .ref s.heap.objs.size, rawInt 0, .none, .none] }) rfl
    rw [sz] at w; exact w
  exact ⟨⟨_, en, rfl⟩, h _ en (Heap.get?_push_of_some _ (Heap.get?_push_size _ B.free)) fun b u x => Heap.get?_push_of_some _ (Heap.get?_push_of_some _ x)⟩
theorem enumT_end {prog : Program} {w : World} {A : Around} {E : Value → Shared → Prop} {s : Shared} {e it a : Addr} {i j : Nat} {us : Array Value} {old : Value} {Q : Option Value → Shared → Prop} (hh : A.handled = none) (en : IsEnum s.heap e it ((j : Nat) : Int) old) (ti : s.heap.IsTupleIter it a i) (tp : s.heap.IsTuple a us) (hx : us[i]? = none)
    (hQ : ∀ h', Heap.ExtBut it s.heap h' → Q none { s with heap := h' }) : wpAny (model prog w) A (pyNext (.ref e)) Q E s := by
  have ty : s.TypeIs (.ref e) "enumerate" := ⟨_, en, rfl⟩
  unfold pyNext
  refine wpAny_bind (wpAny_attempt (wpAny_callSpecial?_slot (name := Str.ofString "__next__") ty F.slot_enumerate_next (wpAny_call_entry F.slot_enumerate_next ty F.entry_enumerate_next ?_ (F.args_enumerate_next_1 _))))
  show wpAny _ _ (field (.ref e) 2 >>= fun _ => _) _ _ _
  refine wpAny_bind (wpAny_field en rfl (x := .ref it) rfl (wpAny_bind (wpAny_nextOf_tuple_end hh ti tp hx fun h2 y eb ⟨ob, ho, hc⟩ => ?_)))
  exact wpAny_bind (wpAny_isInstance (T := "StopIteration") (b := true) ⟨ob, ho, hc⟩ isSubtype_stop (wpAny_pure (hQ _ eb)))
/-- a tuple's items, each in a new pair with its number -/
def Itet (K : PySem.W.Frag) (a : Addr) : L2.It :=
  ⟨fun i H => ∃ (xs : List V) (x : V), SqT K H a xs ∧ xs[i]? = some x, fun i H v H' => ∃ T x, v = .ref T ∧ H T = none ∧ H' = upd H T (.tup [.int (i : Nat), x]) ∧ ∀ xs, SqT K H a xs → xs[i]? = some x, fun i H => ∃ xs : List V, SqT K H a xs ∧ xs.length ≤ i⟩
theorem turn_enumT {P : Program} {w : World} {K : PySem.W.Frag} {elts : List Expr} {kk : Nat} {tpos : Pos} (a e it : Addr) :
    Turn P w K (.Tuple elts kk tpos) (Itet K a) [e, it] e (fun i h => (∃ old, IsEnum h e it ((i : Nat) : Int) old) ∧ h.IsTupleIter it a i ∧ e ≠ it ∧ a ≠ it ∧ a ≠ e) where
  mem := by simp
  obj := fun i h st b hb => by
    obtain ⟨⟨old, en⟩, ⟨ob, h1, h2, h3⟩, _⟩ := st
    have z : b = e ∨ b = it := by simpa using hb
    rcases z with rfl | rfl
    · exact ⟨_, en, fun v q => nomatch q⟩
    · exact ⟨ob, h1, fun v q => by rw [h3] at q; cases q⟩
  keep := fun i h h' st k => let ⟨⟨old, en⟩, ti, r⟩ := st; ⟨⟨old, k e (by simp) _ en⟩, ti.at fun ob q => k it (by simp) ob q, r⟩
  item := by
    intro X hP hw hK hc i pins s σ H E I hf st hg
    subst hP hw hK
    obtain ⟨⟨old, en⟩, ti, ne, na, nae⟩ := st
    obtain ⟨xs, x, hq, hx⟩ := hg
    obtain ⟨us, rv, p, hz⟩ := I.tuple hq
    obtain ⟨u, hu, ru⟩ := rv.get hx
    have le : e < s.heap.objs.size := Heap.lt_size en
    have li : it < s.heap.objs.size := by obtain ⟨_, q, _⟩ := ti; exact Heap.lt_size q
    have tp : s.heap.IsTuple a us.toArray := p
    have hlt : i < us.toArray.size := by
      have := (List.getElem?_eq_some_iff.mp hu).1
      simpa using this
    refine wpAny_pyNext_enum_itemD (Draws.tuple (A := X.A.in1) (I.ok.hd hc) it a na us.toArray) en ⟨ti, tp⟩ hlt ne (by simp; exact ⟨ne, Ne.symm nae⟩) fun y h' tk hy ho st' hT hsz hk => ?_
    have hy' : y = u := by
      have : us.toArray[i]? = some u := by simpa using hu
      rw [this] at hy; cases hy; rfl
    subst hy'
    refine ⟨_, rfl, wpAny_letOwnedTupleGo_enum (s := { s with heap := h', toks := tk + 1 }) ho fun h2 en' sb => ?_⟩
    have hT2 : h2.get? s.heap.objs.size = some { cls := .type "tuple", data := .seq #[.int i tk, y] } := (sb.2 _ (Nat.ne_of_gt le)).trans hT
    have new : ObjOk X.prog X.w (upd H s.heap.objs.size (.tup [.int (i : Nat), x])) h2 s.heap.objs.size (.tup [.int (i : Nat), x]) :=
      ⟨by show 2 ≤ sizeLine; decide, [.int i tk, y], .cons ⟨_, rfl⟩ (.cons ru .nil), ⟨_, hT2, rfl, _, rfl⟩⟩
    have I1 : Inv X pins σ (upd H s.heap.objs.size (.tup [.int (i : Nat), x])) { s with heap := h2, toks := tk + 1 } :=
      I.turnedNew (ch := [e, it]) (fun b ob hb q => (sb.2 b (fun z => hb (by simp [z]))).trans (hk b ob (fun z => hb (by simp [z])) (fun z => hb (by simp [z])) q)) hf (Nat.le_refl _) new
    refine ⟨.ref s.heap.objs.size, _, I1, rfl, ⟨_, x, rfl, I.hok.fresh (Nat.le_refl _), rfl, fun ys hy => by rw [I.tuple_inj hy hq]; exact hx⟩, ⟨⟨y, ?_⟩, st'.1.at fun ob q => (sb.2 it (Ne.symm ne)).trans q, ne, na, nae⟩, fun b hb => ?_⟩
    · have e1 : ((i + 1 : Nat) : Int) = (i : Int) + 1 := by omega
      rw [e1]; exact en'
    · have lb : b < s.heap.objs.size := by
        have z : b = e ∨ b = it := by simpa using hb
        rcases z with rfl | rfl
        · exact le
        · exact li
      rw [upd_ne (Nat.ne_of_lt lb)]
      exact (hf b hb).1
  done := by
    intro X hP hw hK hc i pins s σ H E I hf st hg
    subst hP hw hK
    obtain ⟨⟨old, en⟩, ti, ne, na, nae⟩ := st
    obtain ⟨xs, hq, hx⟩ := hg
    obtain ⟨us, rv, p, hz⟩ := I.tuple hq
    have tp : s.heap.IsTuple a us.toArray := p
    obtain ⟨f0, f1, f2, f3, f4, f5⟩ := hf it (by simp)
    have hl := rv.length
    exact enumT_end (I.ok.hd hc) en ti tp (by simp; omega) fun h2 eb => ⟨rfl, I.turned (t' := s.toks) (fun b ob hb q => eb b ob hb q) f0 f1 f3 f4 f5⟩
  self := fun A i s Q E st h => let ⟨⟨_, en⟩, _⟩ := st; wpAny_pyIter_enum en h
def iEnumA (K : PySem.W.Frag) (te : TE) : TI := fun σ H R => te σ H fun x H1 => ∃ a xs, x = .ref a ∧ ((SqL K H1 a xs ∧ R (Ite K a) H1) ∨ (SqT K H1 a xs ∧ R (Itet K a) H1))
theorem pi_enumA {X : Cx} {e : Expr} {te : TE} {p pos tpos : Pos} {elts : List Expr} {kk : Nat} (hg : Gl X "enumerate") (hm : X.mg "enumerate" = none) (ha : PE X e te) (hs : starEach [e] X.env = [(false, eval e X.env)]) :
    PI X (.Tuple elts kk tpos) (.Call (.Name "enumerate" p) [e] [] pos) (iEnumA X.K te) := by
  refine ⟨fun pins s σ H R I h => ?_⟩
  refine Call_ (ld_blt I hg hm boot_enumerate (PyProof.Rows.callWith_type1 ?_ hs rfl))
  rw [hs]
  show wpAny _ _ (spliced ((false, eval e X.env) :: [])) _ _ s
  refine Calls.spliced_cons (thn (ha.run pins s σ H _ I h) fun u s1 ⟨x, H1, I1, r1, a, xs, ex, q1⟩ => ?_)
  subst ex
  cases r1
  refine Calls.spliced_nil ?_
  have fresh : ∀ b ∈ [s1.heap.objs.size + 1, s1.heap.objs.size], FpOk X pins H1 b := fun b hb => by
    have z : b = s1.heap.objs.size + 1 ∨ b = s1.heap.objs.size := by simpa using hb
    have le : s1.heap.objs.size ≤ b := by
      rcases z with rfl | rfl
      · exact Nat.le_add_right _ _
      · exact Nat.le_refl _
    exact I1.fpOk le (I1.hok.fresh le)
  rcases q1 with ⟨hq, q⟩ | ⟨hq, q⟩
  · obtain ⟨us, rv, p', hz⟩ := I1.list hq
    refine call_enum1 (begins_list a us.toArray) p'.isList fun h' en ho hk => wpAny_pyIter_enum en ?_
    have I2 : Inv X pins σ H1 { s1 with heap := h' } := I1.kept (t' := s1.toks) hk
    exact ⟨s1.heap.objs.size + 1, _, _, _, H1, rfl, I2, turn_enum a (s1.heap.objs.size + 1) s1.heap.objs.size, ⟨⟨.none, en⟩, ⟨_, ho, rfl, rfl⟩, Nat.succ_ne_self _⟩, fresh, q⟩
  · obtain ⟨us, rv, p', hz⟩ := I1.tuple hq
    have tp : s1.heap.IsTuple a us.toArray := p'
    have la : a < s1.heap.objs.size := by obtain ⟨_, q, _⟩ := tp; exact Heap.lt_size q
    refine call_enum1 (begins_tuple a us.toArray) tp fun h' en ho hk => wpAny_pyIter_enum en ?_
    have I2 : Inv X pins σ H1 { s1 with heap := h' } := I1.kept (t' := s1.toks) hk
    exact ⟨s1.heap.objs.size + 1, _, _, _, H1, rfl, I2, turn_enumT a (s1.heap.objs.size + 1) s1.heap.objs.size, ⟨⟨.none, en⟩, ⟨_, ho, rfl, rfl⟩, Nat.succ_ne_self _, Nat.ne_of_lt la, Nat.ne_of_lt (Nat.lt_succ_of_lt la)⟩, fresh, q⟩

variable {Z : Fix} {g : Sta} {h : List Calls} {K : PySem.W.Frag} {F F' F1 F2 F3 H H' H0 H1 H2 H3 : Hp} {T : List Addr} {σ σ' σ1 σ2 : Sg} {ρ ρ' ρ1 ρ2 ρ3 : Sl} {W : WX} {X : Cx}
theorem zipIdx_get {xs : List D} {i : Nat} {d : D} (h : xs[i]? = some d) : (xs.zipIdx.map fun p => PyData.tuple [.int p.2, p.1])[i]? = some (.tuple [.int i, d]) := by
  rw [List.getElem?_map, List.getElem?_zipIdx, h]
  simp
/-- a pair told anew -/
theorem pair_ext {F H : Hp} {T : Addr} {i : Nat} {x : V} {d : D} (s : Same F H) (n : H T = none) (r : Rp K F x d) : Ext F H (upd F T (.tup [.int (i : Nat), x])) (upd H T (.tup [.int (i : Nat), x])) ∧ Rp K (upd F T (.tup [.int (i : Nat), x])) (.ref T) (.tuple [.int i, d]) :=
  have e := Ext.shr s n
  ⟨e, .tup (.inl upd_same) (.cons (.int _) (.cons (r.mono e.fsub) .nil))⟩
theorem it_enum {a : Addr} {ds : List D} {ρL : Sl} {FL : Hp} {lk : Option Nat} (hq : ∀ ρ' σ' F' H', SEnv K T F' H' ρ' σ' → Same FL F' → (∀ i, lk = some i → getS ρ' i = getS ρL i ∧ stV σ' i = stV σ i) → ∃ xs, SqL X.K H' a xs ∧ RpA K F' xs ds) :
    ItOk K T (Ite X.K a) ⟨ds.zipIdx.map fun p => .tuple [.int p.2, p.1], lk⟩ σ ρL FL := by
  refine ⟨fun ρ' σ' F' H' e' sm hl => ?_⟩
  obtain ⟨xs, hx, rx⟩ := hq ρ' σ' F' H' e' sm hl
  have len : (ds.zipIdx.map fun p => PyData.tuple [.int p.2, p.1]).length = ds.length := by rw [List.length_map, List.length_zipIdx]
  refine ⟨fun i hi => ?_, ⟨xs, hx, by rw [len, rx.length]; exact Nat.le_refl _⟩, fun i x H'' hi y => ?_⟩
  · obtain ⟨v, hv, _⟩ := rx.get (List.getElem?_eq_getElem (by rw [← len]; exact hi))
    exact ⟨xs, v, hx, hv⟩
  · obtain ⟨Ta, u, rfl, n, rfl, y⟩ := y
    have hd := List.getElem?_eq_getElem (l := ds) (i := i) (by rw [← len]; exact hi)
    obtain ⟨v, hv, rv⟩ := rx.get hd
    have w := (y xs hx).symm.trans hv
    cases w
    obtain ⟨z1, z2⟩ := pair_ext (i := i) e'.sub n rv
    exact ⟨_, _, z1, zipIdx_get hd, z2⟩
theorem it_enumT {a : Addr} {ds : List D} {ρL : Sl} {FL : Hp} {lk : Option Nat} (hq : ∀ ρ' σ' F' H', SEnv K T F' H' ρ' σ' → Same FL F' → (∀ i, lk = some i → getS ρ' i = getS ρL i ∧ stV σ' i = stV σ i) → ∃ xs, SqT X.K H' a xs ∧ RpA K F' xs ds) :
    ItOk K T (Itet X.K a) ⟨ds.zipIdx.map fun p => .tuple [.int p.2, p.1], lk⟩ σ ρL FL := by
  refine ⟨fun ρ' σ' F' H' e' sm hl => ?_⟩
  obtain ⟨xs, hx, rx⟩ := hq ρ' σ' F' H' e' sm hl
  have len : (ds.zipIdx.map fun p => PyData.tuple [.int p.2, p.1]).length = ds.length := by rw [List.length_map, List.length_zipIdx]
  refine ⟨fun i hi => ?_, ⟨xs, hx, by rw [len, rx.length]; exact Nat.le_refl _⟩, fun i x H'' hi y => ?_⟩
  · obtain ⟨v, hv, _⟩ := rx.get (List.getElem?_eq_getElem (by rw [← len]; exact hi))
    exact ⟨xs, v, hx, hv⟩
  · obtain ⟨Ta, u, rfl, n, rfl, y⟩ := y
    have hd := List.getElem?_eq_getElem (l := ds) (i := i) (by rw [← len]; exact hi)
    obtain ⟨v, hv, rv⟩ := rx.get hd
    have w := (y xs hx).symm.trans hv
    cases w
    obtain ⟨z1, z2⟩ := pair_ext (i := i) e'.sub n rv
    exact ⟨_, _, z1, zipIdx_get hd, z2⟩
theorem sit_enum {e0 : Expr} {elts : List Expr} {kk : Nat} {tpos p pos : Pos} {f : Sl → R Opr} (hb : blt g "enumerate" = true) (s : SO Z g h e0 f) (n : ∀ x p, e0 ≠ .Starred x p) :
    SIt Z g h (.Tuple elts kk tpos) (.Call (.Name "enumerate" p) [e0] [] pos) (fun ρ => (f ρ).bind fun o ρ' => match o, o.get ρ' with
    | .slot i, some (.list xs) => .ok ⟨xs.zipIdx.map fun p => .tuple [.int p.2, p.1], some i⟩ ρ'
    | .val _, some (.list xs) => .ok ⟨xs.zipIdx.map fun p => .tuple [.int p.2, p.1], none⟩ ρ'
    | .val _, some (.tuple xs) => .ok ⟨xs.zipIdx.map fun p => .tuple [.int p.2, p.1], none⟩ ρ'
    | _, _ => .fail) := by
  refine ⟨fun _ _ => rfl, fun X W at_ σ ρ F H R e q => ?_⟩
  have hK := at_.K
  obtain ⟨h1, h2, h3, h4⟩ := blt_some hb at_
  refine wI_of (pi_enumA h1 h2 pe_w (by rw [star_ok n]; rfl)) (s X W at_ σ ρ F H _ e (q.split.mono fun o ρ1 F1 H1 g1 q1 v r => ?_))
  split at q1
  · rename_i i xs ho
    have hp : ∃ io lk, getS ρ1 i = .hld io lk (.list xs) := by
      change (match getS ρ1 i with | .hld _ _ d => some d | _ => none) = some (.list xs) at ho
      split at ho
      · rename_i io lk d hp; cases ho; exact ⟨io, lk, hp⟩
      · cases ho
    obtain ⟨io, lk, hp⟩ := hp
    obtain ⟨a, ha, _, _, ⟨ys, hx, rx⟩, _⟩ := g1.env.at hp
    have r : stV σ i = some v := r
    rw [ha] at r
    cases r
    obtain ⟨ρL, hl⟩ : ∃ ρL, lockS ρ1 (some i) = some ρL := by
      cases lk with
      | false => exact ⟨ρ1.set i (.hld io true (.list xs)), by simp only [lockS, hp]⟩
      | true => exact ⟨ρ1, by simp only [lockS, hp]⟩
    obtain ⟨io', hp'⟩ := lock_at hl hp
    refine ⟨a, ys, rfl, .inl ⟨.inl (.inl hx), q1.here g1.env _ ρL hl (it_enum fun ρ' σ' F' H' e' sm lc => ?_)⟩⟩
    obtain ⟨l1, l2⟩ := lc i rfl
    obtain ⟨b, hb, _, _, ⟨zs, hz, rz⟩, _⟩ := e'.at (l1.trans hp')
    rw [l2, ha] at hb
    cases hb
    exact ⟨zs, .inl (.inl hz), rz⟩
  · rename_i d xs ho
    cases ho
    have r : Rp Z.K F1 v (.list xs) := r
    cases r with
    | lst ea ra => exact ⟨_, _, rfl, .inl ⟨.inl (.inl (g1.env.sub _ _ ea)), q1.here g1.env _ ρ1 rfl (it_enum fun ρ' σ' F' H' e' sm _ => ⟨_, .inl (.inl (e'.sub _ _ (sm _ _ ea))), ra.mono sm⟩)⟩⟩
  · rename_i d xs ho
    cases ho
    have r : Rp Z.K F1 v (.tuple xs) := r
    cases r with
    | @tup aa ys _ ea ra =>
      refine ⟨aa, ys, rfl, .inr ⟨?_, q1.here g1.env _ ρ1 rfl (it_enumT fun ρ' σ' F' H' e' sm _ => ⟨ys, ?_, ra.mono sm⟩)⟩⟩
      · rw [hK]; exact Same.seqT g1.env.sub ea.sq
      · rw [hK]; exact Same.seqT (sm.trans e'.sub) ea.sq
  · exact q1.elim
end Ev
end
section
set_option Elab.async false
set_option linter.all false
set_option maxRecDepth 100000
/-! x[::-1] of a list or a tuple. -/
namespace Ev
open PySem PySem.Spec PyProof.Rows L2 PySem.W
theorem fm_congr {α β : Type} {f h : α → Option β} : ∀ {l : List α}, (∀ x ∈ l, f x = h x) → l.filterMap f = l.filterMap h
  | [], _ => rfl
  | x :: l, q => by rw [List.filterMap_cons, List.filterMap_cons, q x List.mem_cons_self, fm_congr fun y hy => q y (List.mem_cons_of_mem _ hy)]
theorem rev_pick {α : Type} (l : List α) : ((List.range l.length).filterMap fun m => l[l.length - 1 - m]?) = l.reverse := by
  generalize hn : l.length = n
  induction n generalizing l with
  | zero => cases l with
    | nil => rfl
    | cons => cases hn
  | succ n ih =>
    obtain ⟨l, a, rfl⟩ : ∃ l' a, l = l' ++ [a] := ⟨l.dropLast, l.getLast (by intro z; rw [z] at hn; cases hn), (List.dropLast_concat_getLast _).symm⟩
    have hl : l.length = n := by simpa using hn
    have ih := ih l hl
    subst hl
    rw [List.range_succ_eq_map, List.filterMap_cons, List.reverse_append]
    have h0 : (l ++ [a])[l.length + 1 - 1 - 0]? = some a := by simp
    rw [h0, List.filterMap_map, ← ih]
    show a :: _ = a :: _
    congr 1
    refine fm_congr fun m hm => ?_
    have := List.mem_range.mp hm
    show (l ++ [a])[l.length + 1 - 1 - (m + 1)]? = _
    rw [List.getElem?_append_left (by omega)]
    congr 1
    omega
section
variable {prog : Program} {w : World} {A : Around} {E : Value → Shared → Prop} {s : Shared}
theorem applied_rev {sl : Addr} {vs : Value} {n : Nat} {Q : Int × Int × Nat → Shared → Prop} (hs : s.heap.IsSliceOf sl .none .none vs) (ps : IsPart vs (some (-1))) (h : Q ((n : Int) - 1, -1, n) s) :
    wpAny (model prog w) A (Builtin.Slice.sliceApplied (.ref sl) (pure (n : Int))) Q E s := by
  obtain ⟨o, ho, hc, hd⟩ := id hs
  unfold Builtin.Slice.sliceApplied Builtin.Slice.sliceFields
  refine wpAny_bind (wpAny_bind (wpAny_field ho hd (x := .none) rfl (wpAny_bind (wpAny_field ho hd (x := .none) rfl (wpAny_bind (wpAny_field ho hd (x := vs) rfl (wpAny_pure ?_)))))))
  refine wpAny_bind (HT.slicePart_ ps ?_)
  show wpAny _ _ (if ((-1 : Int) == 0) = true then _ else _) _ _ s
  rw [if_neg (by decide)]
  refine wpAny_bind (HT.slicePart_ .none (wpAny_bind (HT.slicePart_ .none (wpAny_bind (wpAny_pure ?_)))))
  show wpAny _ _ (pure ((n : Int) - 1, (-1 : Int), Builtin.Slice.slicePlaces ((n : Int) - 1) (-1) (-1))) _ _ s
  have e : Builtin.Slice.slicePlaces ((n : Int) - 1) (-1) (-1) = n := by
    unfold Builtin.Slice.slicePlaces
    have h1 : ¬ ((-1 : Int) > 0) := by omega
    have h2 : ((n : Int) - 1 - -1 - 1) / (- -1) = n - 1 := by rw [show (- -1 : Int) = 1 from rfl, Int.ediv_one]; omega
    simp only [h1, if_false, h2]
    split <;> omega
  rw [e]
  exact wpAny_pure h
theorem tuple_rev {t sl : Addr} {us : Array Value} {vs : Value} {Q : Value → Shared → Prop} (ht : IsTup s.heap t us) (hs : s.heap.IsSliceOf sl .none .none vs) (ps : IsPart vs (some (-1)))
    (h : Q (.ref s.heap.objs.size) { s with heap := s.heap.push { cls := .type "tuple", data := .seq us.toList.reverse.toArray } }) (hsz : us.size ≤ sizeLine) : wpAny (model prog w) A (getItem (.ref t) (.ref sl)) Q E s := by
  have hz : sizeOk (.seq us.toList.reverse.toArray) := by
    show us.toList.reverse.toArray.size ≤ sizeLine
    rw [List.size_toArray, List.length_reverse, Array.length_toList]; exact hsz
  obtain ⟨o, ho, hc, hd⟩ := id hs
  have hT : s.TypeIs (.ref sl) "slice" := ⟨o, ho, hc⟩
  unfold getItem
  try with_reducible refine wpAny_holding ?_
  first | refine wpAny_bind (wpAny_pure ?_) | skip
  refine wpAny_bind (wpAny_sequenceKey ht.typeIs (by decide) ?_)
  refine wpAny_bind (wpAny_callSpecial?_slot (name := Str.ofString "__getitem__") ht.typeIs PyProof.Rows.slot_tuple_getitem (wpAny_call_entry PyProof.Rows.slot_tuple_getitem ht.typeIs entry_tuple_getitem ?_ (args_tuple_getitem _ _)))
  show wpAny _ _ (Builtin.Tuple.tupleItemsOf (.ref t) >>= fun _ => _) _ _ s
  refine wpAny_bind (tupleItemsOf_ ht (wpAny_bind (wpAny_typeOf hT ?_)))
  rw [if_pos (by decide)]
  refine wpAny_bind (applied_rev hs ps ?_)
  have hno : ¬ ((((us.size : Int) - 1) == 0 && (-1 : Int) == 1 && us.size == us.size) = true) := by simp
  show wpAny _ _ (if (((us.size : Int) - 1) == 0 && (-1 : Int) == 1 && us.size == us.size) = true then _ else _) _ _ s
  have pick : ((List.range us.size).filterMap fun (m : Nat) => us[(((us.size : Int) - 1) + (m : Int) * (-1)).toNat]?).toArray = us.toList.reverse.toArray := by
    rw [← rev_pick us.toList, Array.length_toList]
    congr 1
    refine fm_congr fun m hm => ?_
    have hm := List.mem_range.mp hm
    have e : (((us.size : Int) - 1) + (m : Int) * (-1)).toNat = us.size - 1 - m := by omega
    rw [e, Array.getElem?_toList]
  rw [if_neg hno, pick]
  first
    | exact wpAny_bind (m := Builtin.Tuple.tupleExact _) (wpAny_newObj_type (wpAny_pure ⟨_, rfl, wpAny_pure h⟩) hz)
    | exact wpAny_bind (m := Builtin.Tuple.tupleExact _) (wpAny_newObj_type (wpAny_bind (wpAny_pure (wpAny_pure ⟨_, rfl, wpAny_pure h⟩))) hz)
    | exact wpAny_bind (wpAny_bind (m := Builtin.Tuple.tupleExact _) (wpAny_newObj_type (wpAny_pure (wpAny_pure ⟨_, rfl, wpAny_pure h⟩)) hz))
    | exact wpAny_bind (wpAny_bind (m := Builtin.Tuple.tupleExact _) (wpAny_newObj_type (wpAny_pure ⟨_, rfl, wpAny_pure h⟩) hz))
end
def tRevA (K : PySem.W.Frag) (te : TE) : TE := fun σ H Q => te σ H fun x H1 => ∃ a xs, x = .ref a ∧ ((SqL K H1 a xs ∧ ∀ p, H1 p = none → Q (.ref p) (upd H1 p (.lst xs.reverse))) ∨ (SqT K H1 a xs ∧ ∀ p, H1 p = none → Q (.ref p) (upd H1 p (.tup xs.reverse))))
theorem pe_revA {X : Cx} {e : Expr} {te : TE} {k : Nat} {p1 p2 p3 pos : Pos} (he : PE X e te) : PE X (.Subscript e (.Slice none none (some (.UnaryOp .USub (.Constant (.int 1) k p1) p2)) p3) pos) (tRevA X.K te) := by
  refine ⟨fun pins s σ H Q I h => ?_⟩
  refine Subscript_ (thn (he.run pins s σ H _ I h) fun v s1 ⟨x, H1, I1, r1, a, xs, ex, q1⟩ => ?_)
  subst ex
  cases r1
  have st : PO X (some (.UnaryOp .USub (.Constant (.int 1) k p1) p2)) (tPart (tUn (rU fun i => .int (-i)) (tC (.int 1)))) := po_some (pe_un un_neg pe_int)
  refine wpAny_Slice (thn (po_none.run pins s1 σ H1 (fun o H2 => o = none ∧ H2 = H1) I1 ⟨rfl, rfl⟩) fun vl s2 ⟨l, H2, I2, pl, el, e2⟩ => ?_)
  subst el e2
  refine thn (po_none.run pins s2 σ H2 (fun o H3 => o = none ∧ H3 = H2) I2 ⟨rfl, rfl⟩) fun vu s3 ⟨u, H3, I3, pu, eu, e3⟩ => ?_
  subst eu e3
  refine thn (st.run pins s3 σ H3 (fun o H4 => o = some (-1) ∧ H4 = H3) I3 ⟨1, rfl, -1, rfl, rfl, rfl⟩) fun vs s4 ⟨o, H4, I4, ps, eo, e4⟩ => ?_
  subst eo e4
  have I5 : Inv X pins σ H4 { s4 with heap := s4.heap.push { cls := .type "slice", data := .fields #[vl, vu, vs] } } := I4.kept (t' := s4.toks) fun b ob q => Heap.get?_push_of_some _ q
  cases pl
  cases pu
  show wpAny (model X.prog X.w) X.A (subscriptTail e (.Slice none none (some (.UnaryOp .USub (.Constant (.int 1) k p1) p2)) p3) (.ref a) (.ref s4.heap.objs.size)) (EP X pins σ Q) X.xe { s4 with heap := s4.heap.push { cls := .type "slice", data := .fields #[.none, .none, vs] } }
  rcases q1 with ⟨hx, q⟩ | ⟨hx, q⟩
  · obtain ⟨us, r, ht, hz⟩ := I5.list hx
    have hlen := r.length
    refine tail_any (ops := [.ref a, .ref s4.heap.objs.size]) ht.isList.typeIs (PySem.slot_list_getitem.lookup) ?_ (by with_unfolding_all rfl)
    refine wpAny_getItem_list_slice ht.isList (Heap.IsSliceOf.new _ _ _ vs) .none .none ps (by decide) ?_ (by rw [List.size_toArray]; omega)
    rw [PySem.W.krv_pick]
    refine ⟨.ref _, _, I5.laid (t' := s4.toks) (o := .lst xs.reverse) (fun b ob q => Heap.get?_push_of_some _ q) (Nat.le_refl _) ?_, rfl, q _ (I5.hok.fresh (Nat.le_refl _))⟩
    exact ⟨by rw [List.length_reverse]; exact hz, _, 0, r.reverse, Heap.get?_push_size _ rfl⟩
  · obtain ⟨us, r, ht, hz⟩ := I5.tuple hx
    have hlen := r.length
    refine tail_any (ops := [.ref a, .ref s4.heap.objs.size]) ht.typeIs PyProof.Rows.slot_tuple_getitem.lookup ?_ (by with_unfolding_all rfl)
    refine tuple_rev ht (Heap.IsSliceOf.new _ _ _ vs) ps ?_ (by rw [List.size_toArray]; omega)
    refine ⟨.ref _, _, I5.laid (t' := s4.toks) (o := .tup xs.reverse) (fun b ob q => Heap.get?_push_of_some _ q) (Nat.le_refl _) ?_, rfl, q _ (I5.hok.fresh (Nat.le_refl _))⟩
    exact ⟨by rw [List.length_reverse]; exact hz, _, r.reverse, IsTup.new _ _⟩
variable {Z : Fix} {g : Sta} {h : List Calls} {K : PySem.W.Frag} {F F' F1 F2 F3 H H' H0 H1 H2 H3 : Hp} {T : List Addr} {σ σ' σ1 σ2 : Sg} {ρ ρ' ρ1 ρ2 ρ3 : Sl} {W : WX} {X : Cx}
theorem se_slr {e : Expr} {k : Nat} {p1 p2 p3 pos : Pos} {f : Sl → R Opr} (s : SO Z g h e f) :
    SE Z g h (.Subscript e (.Slice none none (some (.UnaryOp .USub (.Constant (.int 1) k p1) p2)) p3) pos) (fun ρ => (f ρ).bind fun o ρ1 => match o.get ρ1 with
    | some (.list xs) => .ok (.own (.list xs.reverse)) ρ1
    | some (.tuple xs) => .ok (.shr (.tuple xs.reverse)) ρ1
    | _ => .fail) := by
  intro X W a σ ρ F H Q e0 q
  have hK := a.K
  refine wE_of (pe_revA pe_w) (s X W a σ ρ F H _ e0 (q.split.mono fun o ρ1 F1 H1 g1 q1 v r => ?_))
  split at q1
  · rename_i xs hg
    obtain ⟨b, ys, rfl, hl, rx⟩ := (r.get g1.env hg).lst g1.env.sub
    refine ⟨b, ys, rfl, .inl ⟨.inl (.inl hl), fun p n => ?_⟩⟩
    have n0 : H p = none := by
      cases w : H p with
      | none => rfl
      | some u => obtain ⟨_, z⟩ := g1.fw.stay _ _ w; rw [n] at z; cases z
    exact okExt g1.env q1 (Ext.own (o := .lst _) g1.env.sub n) _ ⟨p, rfl, free_of g1.env.sub n, fun z => g1.env.tabs p z n, n0, _, upd_same, rx.reverse⟩
  · rename_i xs hg
    obtain ⟨b, ys, rfl, hl, rx⟩ := (r.get g1.env hg).tup g1.env.sub
    refine ⟨b, ys, rfl, .inr ⟨by rw [hK]; exact hl, fun p n => ?_⟩⟩
    have x := Ext.shr (o := .tup ys.reverse) g1.env.sub n
    exact okExt g1.env q1 x _ (.tup (.inl upd_same) (rx.reverse.mono x.fsub))
  · exact q1.elim
end Ev
end
section
set_option Elab.async false
set_option linter.all false
set_option maxRecDepth 100000
/-! *x in displays and calls. -/
namespace Ev
open PySem PySem.Spec PyProof.Rows L2
variable {Z : Fix} {g : Sta} {h : List Calls} {K : PySem.W.Frag} {F F' F1 F2 F3 H H' H0 H1 H2 H3 : Hp} {T : List Addr} {σ σ' σ1 σ2 : Sg} {ρ ρ' ρ1 ρ2 ρ3 : Sl} {W : WX} {X : Cx}
theorem sa_star {e : Expr} {p : Pos} {es : List Expr} {f : Sl → R Opr} {fs : Sl → R (List D)} (s : SO Z g h e f) (ss : SA Z g h es fs) :
    SA Z g h (.Starred e p :: es) (fun ρ => (f ρ).bind fun o ρ1 => match o.get ρ1 with
      | some (.tuple xs) => (fs ρ1).bind fun ds ρ2 => .ok (xs ++ ds) ρ2
      | some (.list xs) => (fs ρ1).bind fun ds ρ2 => .ok (xs ++ ds) ρ2
      | _ => .fail) := by
  intro X W a σ ρ F H Q e0 q
  have hK := a.K
  refine wA_of (StX.pa_star pe_w pa_w rfl) (s X W a σ ρ F H _ e0 (q.split.mono fun o ρ1 F1 H1 g1 q1 v r => ?_))
  split at q1
  · rename_i xs hg
    obtain ⟨b, ys, rfl, hl, rx⟩ := (r.get g1.env hg).tup g1.env.sub
    exact ⟨b, ys, rfl, .inl (by rw [hK]; exact hl), ss X W a σ ρ1 F1 H1 _ g1.env (q1.split.mono fun ds ρ2 F2 H2 g2 q2 vs rs => q2.here g2.env (ys ++ vs) ((rx.mono g2.fw.fsub).append rs))⟩
  · rename_i xs hg
    obtain ⟨b, ys, rfl, hl, rx⟩ := (r.get g1.env hg).lst g1.env.sub
    exact ⟨b, ys, rfl, .inr (.inl (.inl hl)), ss X W a σ ρ1 F1 H1 _ g1.env (q1.split.mono fun ds ρ2 F2 H2 g2 q2 vs rs => q2.here g2.env (ys ++ vs) ((rx.mono g2.fw.fsub).append rs))⟩
  · exact q1.elim
theorem pe_callStar {X : Cx} {CX : CXT} {k : Nat} {f : Addr} {fd : FuncData} {ps : List Str} {sp : Sp} {dvs : List V} {ds : List Value} {E : Sg → XK} {x : Str} {e : Expr} {es : List Expr} {t : TA} {p pos : Pos}
    (F : FnOk X.prog X.w X.K X.mg X.base CX k f fd ps sp) (hr : Room k X.A) (hg : Gl X x) (hm : X.mg x = some (.ref f)) (hk : PySem.W.keepIn X.K (.ref f) = true) (hb : Binds X.K fd ps ds) (hd : Vals dvs ds) (hx : ∀ σ, PassesAt CX X σ (E σ))
    (ha : PA X (e :: es) t) (hdb : (x == ("__debug__" : Str)) = false) (he : starEach (e :: es) X.env = (false, eval e X.env) :: starEach es X.env) (hst : (backTo pos (starEach es X.env)).any (·.1) = true) :
    PE X (.Call (.Name x p) (e :: es) [] pos) (tCallSD sp dvs E t) := by
  refine ⟨fun pins s σ H Q I hq => ?_⟩
  refine wpAny_Call_Name_kw (ld_glob I hg hm ?_ hdb)
  refine PySem.W.callWith_S2 (h₀ := X.base) I.ok.mod.kin hk (thn (ha.run pos pins s σ H _ I hq) fun us s1 ⟨vs, H1, I1, r, q⟩ => ⟨I1.kIn, ?_⟩) he hst
  exact run_fnSD F hr hb hd (hx σ) I1 r q
theorem ops_vals : ∀ {vs : List V} {ds : List D}, RpA K F vs ds → OpsOk K F σ vs (ds.map .val)
  | _, _, .nil => .nil
  | _, _, .cons r rs => .cons r (ops_vals rs)
theorem se_scall {x : Str} {k : Nat} {m : List Bool} {c : Calls} {t : List Calls} {e1 : Expr} {es : List Expr} {fs : Sl → R (List D)} {p pos : Pos} (hg : glb g x = true) (hf : g.fn.lookup x = some (k, m)) (n1 : ∀ x p, e1 ≠ .Starred x p) (hst : es.any isStd = true) (ss : SA Z g (c :: t) (e1 :: es) fs) :
    SE Z g (c :: t) (.Call (.Name x p) (e1 :: es) [] pos) (fun ρ => ((fs ρ).bind fun ds ρ' => if maskOf (ds.map .val) = m then .ok (ds.map .val) ρ' else .fail).bind fun os ρ' => callV c k os ρ') := by
  refine call_core (m := m) (es := e1 :: es) (fun X W a => ?_) (fun ρ os ρ' h => ?_) ?_
  · obtain ⟨g1, g2, g3⟩ := glb_some hg
    obtain ⟨f, fd, ps, hm, hk, hb, ok⟩ := (a.fns c t (List.suffix_refl _)).fn x k m hf
    have hst' : (backTo pos (starEach es X.env)).any (·.1) = true := by
      clear ss
      induction es with
      | nil => cases hst
      | cons e es ih =>
        rw [List.any_cons, Bool.or_eq_true] at hst
        rcases hst with z | z
        · cases e <;> first | rfl | cases z
        · have w := ih z
          cases e <;> (show (_ || (backTo pos (starEach es X.env)).any (·.1)) = true; rw [w, Bool.or_true])
    refine pe_callStar (CX := L2.CX X.prog X.w) (k := 2 * (c :: t).length) (fd := fd) (ps := ps) (ds := []) ?_ (a.room.mono (by omega)) (by show X.env.scope.names.lookup x = _; rw [a.sc]; exact g1) (by rw [a.mg]; exact hm) (by rw [a.K]; exact hk) (by rw [a.K]; exact hb) .nil (fun σ => passAt a.takes σ) pa_w g2 (star_ok n1 _ _) hst'
    rw [a.prog, a.w, a.K, a.mg, a.base]; exact ok
  · cases hf : fs ρ with
    | fail => rw [hf] at h; cases h
    | exc c r => rw [hf] at h; cases h
    | ok ds r =>
      rw [hf] at h
      change (if maskOf (ds.map Opr.val) = m then R.ok (ds.map Opr.val) r else .fail) = _ at h
      split at h
      · rename_i z; cases h; exact z
      · cases h
  · intro X W a σ ρ F H Q e q
    refine ss X W a σ ρ F H _ e (q.split.mono fun ds ρ1 F1 H1 g1 q1 vs rs => ?_)
    split at q1
    · exact q1.here g1.env vs (ops_vals rs)
    · exact q1.elim
end Ev
end
section
set_option Elab.async false
set_option linter.all false
set_option maxRecDepth 100000
/-! What is compiled does what its text does. -/
namespace Ev
open PySem PySem.Spec PyProof.Rows L2
variable {Z : Fix} {g : Sta} {h : List Calls}
theorem SE.of {e : Expr} {f f' : Sl → R RV} (s : SE Z g h e f) (q : ∀ ρ, f' ρ = f ρ) : SE Z g h e f' := by rw [show f' = f from funext q]; exact s
theorem SO.of {e : Expr} {f f' : Sl → R Opr} (s : SO Z g h e f) (q : ∀ ρ, f' ρ = f ρ) : SO Z g h e f' := by rw [show f' = f from funext q]; exact s
theorem ST.of {e : Expr} {f f' : Sl → R Bool} (s : ST Z g h e f) (q : ∀ ρ, f' ρ = f ρ) : ST Z g h e f' := by rw [show f' = f from funext q]; exact s
theorem SA.of {e : List Expr} {f f' : Sl → R (List D)} (s : SA Z g h e f) (q : ∀ ρ, f' ρ = f ρ) : SA Z g h e f' := by rw [show f' = f from funext q]; exact s
theorem SIt.of {tg e : Expr} {f f' : Sl → R Its} (s : SIt Z g h tg e f) (q : ∀ ρ, f' ρ = f ρ) : SIt Z g h tg e f' := by rw [show f' = f from funext q]; exact s
theorem SS.of {e : Stmt} {f f' : Sl → Out} (s : SS Z g h e f) (q : ∀ ρ, f' ρ = f ρ) : SS Z g h e f' := by rw [show f' = f from funext q]; exact s
theorem se_fail {e : Expr} : SE Z g h e (fun _ => .fail) := fun X W a σ ρ F H Q e q => q.elim
theorem bind_map {α β : Type} {o : Option α} {f : α → Option β} {c : β} (h : o.bind f = some c) : ∃ a, o = some a ∧ f a = some c := Option.bind_eq_some_iff.mp h
theorem map_some {α β : Type} {o : Option α} {f : α → β} {c : β} (h : o.map f = some c) : ∃ a, o = some a ∧ f a = c := Option.map_eq_some_iff.mp h
/-- what is known of an expression that was compiled -/
structure EOk (Z : Fix) (g : Sta) (x : Expr) (ir : E) : Prop where
  se : ∀ h, SE Z g h x (evE h ir)
  ns : ∀ y p, x ≠ .Starred y p
  var : ∀ i, ir = .var i → ∃ y p, x = .Name y p ∧ slot g y = some i
  ref : ∀ i, ir ≠ .ref i
  str : ∀ y, ir ≠ .star y
theorem evO_eq {ir : E} (n : ∀ i, ir ≠ .var i) (ρ : Sl) : evO h ir ρ = (evE h ir ρ).bind fun v ρ' => .ok (.val v.d) ρ' := by
  cases ir <;> first | exact absurd rfl (n _) | (rw [evO]; exact n)
theorem evC_eq {ir : E} (n : ∀ i, ir ≠ .ref i) (ρ : Sl) : evC h ir ρ = (evE h ir ρ).bind fun v ρ' => .ok (.val v.d) ρ' := by
  cases ir <;> first | exact absurd rfl (n _) | (rw [evC]; exact n)
theorem EOk.so {x : Expr} {ir : E} (k : EOk Z g x ir) (h : List Calls) : SO Z g h x (evO h ir) := by
  by_cases hv : ∃ i, ir = .var i
  · obtain ⟨i, rfl⟩ := hv
    obtain ⟨y, p, rfl, hs⟩ := k.var i rfl
    exact so_var hs
  · exact (se_so (k.se h)).of (evO_eq fun i e => hv ⟨i, e⟩)
/-! ### how the evaluator goes -/
theorem op1_eq {o : Op} {x : E} (ρ : Sl) : evE h (.op o (.cons x .nil)) ρ = (evO h x ρ).bind fun a ρ1 => R.ofO ρ1 ((gets ρ1 [a]).bind (opv o)) := by
  rw [evE, evOs]
  cases evO h x ρ with
  | fail => rfl
  | exc c r => rfl
  | ok a ρ1 => simp only [R.bind]; rw [evOs]
theorem op2_eq {o : Op} {x y : E} (ρ : Sl) : evE h (.op o (.cons x (.cons y .nil))) ρ = (evO h x ρ).bind fun a ρ1 => (evO h y ρ1).bind fun b ρ2 => R.ofO ρ2 ((gets ρ2 [a, b]).bind (opv o)) := by
  rw [evE, evOs]
  cases evO h x ρ with
  | fail => rfl
  | exc c r => rfl
  | ok a ρ1 =>
    simp only [R.bind]
    rw [evOs]
    cases evO h y ρ1 with
    | fail => rfl
    | exc c r => rfl
    | ok b ρ2 => simp only [R.bind]; rw [evOs]
theorem SOs.of {e : List Expr} {f f' : Sl → R (List Opr)} (s : SOs Z g h e f) (q : ∀ ρ, f' ρ = f ρ) : SOs Z g h e f' := by rw [show f' = f from funext q]; exact s
theorem os1 {a : Expr} {x : E} (k : EOk Z g a x) (h : List Calls) : SOs Z g h [a] (evOs h (.cons x .nil)) :=
  (sos_cons k.ns (k.so h) sos_nil).of fun ρ => by
    rw [evOs]
    congr 1
    funext o ρ1
    rw [evOs]
theorem os2 {a b : Expr} {x y : E} (k : EOk Z g a x) (k2 : EOk Z g b y) (h : List Calls) : SOs Z g h [a, b] (evOs h (.cons x (.cons y .nil))) :=
  (sos_cons k.ns (k.so h) (os1 k2 h)).of fun ρ => by rw [evOs]
theorem bin_ok {o : Operator} {op : Op} (q : binOp o = some op) (K : PySem.W.Frag) (T : List Addr) : ∀ X, Xok K X → Pure K T (opv op) (w2 X (binaryOp o)) := by
  intro X a
  cases o <;> first | (cases q; done) | skip
  all_goals (cases q; first | exact pu_add a | exact pu_sub a | exact pu_mul a | exact pu_fdiv a | exact pu_mod a | exact pu_pow a | exact pu_shl a | exact pu_shr a | exact pu_xor a | exact pu_add | exact pu_sub | exact pu_mul | exact pu_fdiv | exact pu_mod | exact pu_pow | exact pu_shl | exact pu_shr | exact pu_xor)
theorem cmp_ok {o : CmpOp} {op : Op} (q : cmpOp o = some op) (K : PySem.W.Frag) (T : List Addr) : ∀ X, Xok K X → Pure K T (opv op) (w2 X (compareOp o)) := by
  intro X a
  cases o <;> first | (cases q; done) | skip
  all_goals (cases q; first | exact pu_eq a | exact pu_ne a | exact pu_lt a | exact pu_le a | exact pu_gt a | exact pu_ge a | exact pu_inn a | exact pu_nin a | exact pu_ist a | exact pu_isnt a | exact pu_eq | exact pu_ne | exact pu_lt | exact pu_le | exact pu_gt | exact pu_ge | exact pu_inn | exact pu_nin)
theorem marks_no {o : CmpOp} {b : Expr} (n : isSet b = false) : behindInMarks o b = false := by
  cases b <;> first | rfl | exact absurd n (by simp [isSet])
end Ev
end
section
set_option Elab.async false
set_option linter.all false
set_option maxRecDepth 100000
/-! Targets; built-ins by name. -/
namespace Ev
open PySem PySem.Spec PyProof.Rows L2
variable {Z : Fix} {g : Sta} {h : List Calls}
theorem kd_or {x : Str} (q : (decide (kd g x = some .local) || decide (kd g x = some .cell)) = true) : kd g x = some .local ∨ kd g x = some .cell := by
  rw [Bool.or_eq_true] at q
  exact q.imp of_decide_eq_true of_decide_eq_true
theorem tgs_ok : ∀ n, (∀ g e t, cTg g n e = some t → ∀ h, SG Z g h e t) ∧ (∀ g es ts, cTg.cTgs g n es = some ts → ∀ h, SGs Z g h es ts)
  | 0 => ⟨fun g e t q => (by rw [cTg.eq_def] at q; cases q), fun g es ts q => (by rw [cTg.cTgs.eq_def] at q; cases q)⟩
  | n + 1 => by
    obtain ⟨ih1, ih2⟩ := tgs_ok n
    refine ⟨fun g e t q h => ?_, fun g es ts q h => ?_⟩
    · rw [cTg.eq_def] at q
      dsimp only at q
      split at q
      · obtain ⟨i, h1, h2⟩ := bind_map q
        split at h2
        · rename_i hc
          rw [Bool.and_eq_true] at hc
          cases h2
          exact sg_name h1 hc.1 (kd_or hc.2)
        · cases h2
      · obtain ⟨ts, h1, rfl⟩ := map_some q
        exact sg_tup (ih2 g _ ts h1 h)
      · cases q
    · cases es with
      | nil => rw [cTg.cTgs.eq_def] at q; cases q; exact sgs_nil
      | cons e es =>
        rw [cTg.cTgs.eq_def] at q
        obtain ⟨t, h1, q⟩ := bind_map q
        obtain ⟨ts', h2, rfl⟩ := map_some q
        exact sgs_cons (ih1 g _ t h1 h) (ih2 g _ ts' h2 h)
/-- a built-in of one operand -/
theorem one1_ok {f : Str} {o : Op} {a : Expr} {x : E} {p pos : Pos} (hb : blt g f = true) (ho : one1 f = some o) (k : EOk Z g a x) (h : List Calls) : SE Z g h (.Call (.Name f p) [a] [] pos) (evE h (.op o (.cons x .nil))) := by
  have ns : ∀ e ∈ [a], ∀ x p, e ≠ .Starred x p := fun e he => by rw [List.mem_singleton.mp he]; exact k.ns
  have hos := os1 k h
  have fin : ∀ {p' : List D → Option RV}, opv o = p' → ∀ ρ, evE h (.op o (.cons x .nil)) ρ = (evOs h (.cons x .nil) ρ).bind fun os ρ' => R.ofO ρ' ((gets ρ' os).bind p') := fun e ρ => by rw [evE, e]
  unfold one1 at ho
  repeat' (split at ho)
  all_goals (try (cases ho))
  · rename_i e; rw [eq_of_beq e] at hb ⊢
    exact (se_callB hb (by decide) hos ns fun X a => pu_len a).of (fin rfl)
  · rename_i e; rw [eq_of_beq e] at hb ⊢
    exact (se_callB hb (by decide) hos ns fun X a => pu_abs a).of (fin rfl)
  · rename_i e; rw [eq_of_beq e] at hb ⊢
    exact (se_callT hb (by decide) hos ns fun X a => pu_int a).of (fin rfl)
  · rename_i e; rw [eq_of_beq e] at hb ⊢
    exact (se_callT hb (by decide) hos ns fun X a => pu_list a).of (fin rfl)
  · rename_i e; rw [eq_of_beq e] at hb ⊢
    exact (se_callT hb (by decide) hos ns fun X a => pu_tuple a).of (fin rfl)
  · rename_i e; rw [eq_of_beq e] at hb ⊢
    exact (se_callB hb (by decide) hos ns fun X a => pu_sorted a).of (fin rfl)
  · rename_i e; rw [eq_of_beq e] at hb ⊢
    exact (se_callB hb (by decide) hos ns fun X a => pu_sum a).of (fin rfl)
  · rename_i e; rw [eq_of_beq e] at hb ⊢
    exact (se_callB hb (by decide) hos ns fun X a => pu_maxl a).of (fin rfl)
  · rename_i e; rw [eq_of_beq e] at hb ⊢
    exact (se_callB hb (by decide) hos ns fun X a => pu_minl a).of (fin rfl)
theorem one2_ok {f : Str} {o : Op} {a b : Expr} {x y : E} {p pos : Pos} (hb : blt g f = true) (ho : one2 f = some o) (k : EOk Z g a x) (k2 : EOk Z g b y) (h : List Calls) : SE Z g h (.Call (.Name f p) [a, b] [] pos) (evE h (.op o (.cons x (.cons y .nil)))) := by
  have ns : ∀ e ∈ [a, b], ∀ x p, e ≠ .Starred x p := fun e he => by
    rcases List.mem_cons.mp he with rfl | he
    · exact k.ns
    · rw [List.mem_singleton.mp he]; exact k2.ns
  have hos := os2 k k2 h
  have fin : ∀ {p' : List D → Option RV}, opv o = p' → ∀ ρ, evE h (.op o (.cons x (.cons y .nil))) ρ = (evOs h (.cons x (.cons y .nil)) ρ).bind fun os ρ' => R.ofO ρ' ((gets ρ' os).bind p') := fun e ρ => by rw [evE, e]
  unfold one2 at ho
  repeat' (split at ho)
  all_goals (try (cases ho))
  · rename_i e; rw [eq_of_beq e] at hb ⊢
    exact (se_callB hb (by decide) hos ns fun X a => pu_max2 a).of (fin rfl)
  · rename_i e; rw [eq_of_beq e] at hb ⊢
    exact (se_callB hb (by decide) hos ns fun X a => pu_min2 a).of (fin rfl)
theorem isi_ok {t : Str} {ty : Ty} {a b : Expr} {x : E} {p pos : Pos} (hb : blt g "isinstance" = true) (hn : isNm b = some t) (hbt : blt g t = true) (ht : tyOf t = some ty) (k : EOk Z g a x) (h : List Calls) : SE Z g h (.Call (.Name "isinstance" p) [a, b] [] pos) (evE h (.op (.isi ty) (.cons x .nil))) := by
  cases b <;> first | (cases hn; done) | skip
  cases hn
  have hv : bootBuiltins t = some (.type (tyS ty)) := by
    unfold tyOf at ht
    repeat' (split at ht)
    all_goals first | (cases ht; done) | (rename_i e; cases ht; rw [eq_of_beq e]; decide)
  exact (se_isi hb (by decide) hbt hv (k.so h) k.ns).of op1_eq
theorem rng_ok {g : Sta} {tup : Bool} {f : Str} {a : Expr} {x : E} {p p1 p2 pos : Pos} (hr : blt g "range" = true) (hf : f = if tup then "tuple" else "list") (hb : blt g f = true) (k : EOk Z g a x) (h : List Calls) :
    SE Z g h (.Call (.Name f p) [.Call (.Name "range" p1) [a] [] p2] [] pos) (evE h (.op (if tup then .tupr1 else .listr1) (.cons x .nil))) :=
  (se_rng1 hr (k.so h) k.ns tup hf hb).of fun ρ => by rw [op1_eq]; cases tup <;> rfl
theorem rev_ok {a : Expr} {x : E} {p p1 p2 pos : Pos} (hr : blt g "reversed" = true) (hb : blt g "list" = true) (k : EOk Z g a x) (h : List Calls) :
    SE Z g h (.Call (.Name "list" p) [.Call (.Name "reversed" p1) [a] [] p2] [] pos) (evE h (.op .revl (.cons x .nil))) :=
  (se_revl hb hr (k.so h) k.ns).of fun ρ => by rw [op1_eq]; rfl
end Ev
end
section
set_option Elab.async false
set_option linter.all false
set_option maxRecDepth 100000
/-! Expressions: by the fuel of the compiling. -/
namespace Ev
open PySem PySem.Spec PyProof.Rows L2
structure Snd (Z : Fix) (n : Nat) : Prop where
  e : ∀ g x ir, cE n g x = some ir → EOk Z g x ir
  call : ∀ g f args ir p pos, cCall n g f args = some ir → EOk Z g (.Call (.Name f p) args [] pos) ir
  bool : ∀ g op a r ir pos, cBool n g op (a :: r) = some ir → (∀ h, SE Z g h (.BoolOp op (a :: r) pos) (evE h ir)) ∧ (r ≠ [] → (∀ i, ir ≠ .var i) ∧ (∀ i, ir ≠ .ref i) ∧ ∀ y, ir ≠ .star y)
  es : ∀ g xs ir, cEs n g xs = some ir → (∀ h, SA Z g h xs (evEs h ir)) ∧ (xs.any isStd = false → ∀ h, (∀ ρ ds ρ', evEs h ir ρ = .ok ds ρ' → ds.length = xs.length) ∧ SRs Z g h xs (evRs h ir) ∧ ∀ ρ vs ρ', evRs h ir ρ = .ok vs ρ' → vs.length = xs.length)
  as : ∀ g m xs ir, cAs n g m xs = some ir → ∀ h, SCs Z g h m xs (evCs h ir)
  eo : ∀ g x ir, cEo n g x = some ir → ∀ h, SI Z g h x (evEo h ir)
  t : ∀ g x ir, cT n g x = some ir → ∀ h, ST Z g h x (evT h ir)
  ts : ∀ g op a r ir pos, cTs n g op (a :: r) = some ir → ∀ h, SWt Z g h (.BoolOp op (a :: r) pos) (evT h ir)
  ifs : ∀ g xs ir, cIfs n g xs = some ir → ∀ h, STs Z g h xs (evT h ir)
  it : ∀ g tg x ir, cIt n g tg x = some ir → ∀ h, SIt Z g h tg x (evIt h ir)
variable {Z : Fix} {g : Sta} {n : Nat} {h : List Calls}
theorem EOk.mk' {x : Expr} {ir : E} (se : ∀ h, SE Z g h x (evE h ir)) (ns : ∀ y p, x ≠ .Starred y p) (v : ∀ i, ir ≠ .var i) (r : ∀ i, ir ≠ .ref i) (s : ∀ y, ir ≠ .star y) : EOk Z g x ir := ⟨se, ns, fun i e => absurd e (v i), r, s⟩
theorem plain_of {xs : List Expr} (h : xs.any isStd = false) : ∀ e ∈ xs, ∀ x p, e ≠ .Starred x p := fun e he x p z => by
  rw [List.any_eq_false] at h
  exact h e he (by rw [z]; rfl)
theorem SA.check {es : List Expr} {fs : Sl → R (List D)} (s : SA Z g h es fs) : SA Z g h es (fun ρ => (fs ρ).bind fun ds ρ' => if ds.length ≤ mAx then .ok ds ρ' else .fail) := by
  intro X W a σ ρ F H Q e q
  refine s X W a σ ρ F H _ e (q.split.mono fun ds ρ1 F1 H1 g1 q1 vs rs => ?_)
  split at q1
  · exact q1.here g1.env vs rs
  · exact q1.elim
theorem check_len {r : R (List D)} {ds : List D} {ρ' : Sl} (e : (r.bind fun ds ρ' => if ds.length ≤ mAx then .ok ds ρ' else .fail) = R.ok ds ρ') : ds.length ≤ mAx := by
  cases r with
  | fail => cases e
  | exc c r => cases e
  | ok d r =>
    change (if d.length ≤ mAx then R.ok d r else .fail) = _ at e
    split at e
    · rename_i z; cases e; exact z
    · cases e
theorem cCmp_ok {o : CmpOp} {b : Expr} {op : Op} (q : cCmp o b = some op) : (op = .isn ∧ o = .Is ∧ ∃ k p, b = .Constant .none k p) ∨ (op = .isnn ∧ o = .IsNot ∧ ∃ k p, b = .Constant .none k p) ∨ (op ≠ .isn ∧ op ≠ .isnn ∧ cmpOp o = some op ∧ isSet b = false) := by
  have non : isNone b = true → ∃ k p, b = .Constant .none k p := fun z => by
    unfold isNone at z
    split at z
    · exact ⟨_, _, rfl⟩
    · cases z
  unfold cCmp at q
  split at q
  · cases q
  · rename_i hs
    split at q
    · split at q
      · rename_i z; cases q; exact .inl ⟨rfl, rfl, non z⟩
      · cases q; exact .inr (.inr ⟨nofun, nofun, rfl, by simpa using hs⟩)
    · split at q
      · rename_i z; cases q; exact .inr (.inl ⟨rfl, rfl, non z⟩)
      · cases q; exact .inr (.inr ⟨nofun, nofun, rfl, by simpa using hs⟩)
    · refine .inr (.inr ⟨fun z => ?_, fun z => ?_, q, by simpa using hs⟩)
      · subst z; cases o <;> cases q
      · subst z; cases o <;> cases q
theorem isRev_ok {i : Expr} (q : isRev i = true) : ∃ k p1 p2 p3, i = .Slice none none (some (.UnaryOp .USub (.Constant (.int 1) k p1) p2)) p3 := by
  unfold isRev at q
  split at q
  · exact ⟨_, _, _, _, rfl⟩
  · cases q
theorem mut_ok {m : Str} {k : Nat} {o : Mt} (q : mutOf m k = some o) : m = mtName o ∧ o ≠ .remove ∧ (o = .pop ∧ k = 0 ∨ o ≠ .pop ∧ k = 1) := by
  unfold mutOf at q
  repeat' (split at q)
  all_goals first | (cases q; done) | skip
  all_goals (rename_i e; cases q; rw [Bool.and_eq_true] at e; refine ⟨eq_of_beq e.1, nofun, ?_⟩)
  · exact .inr ⟨nofun, eq_of_beq e.2⟩
  · exact .inl ⟨rfl, eq_of_beq e.2⟩
  · exact .inr ⟨nofun, eq_of_beq e.2⟩
  · exact .inr ⟨nofun, eq_of_beq e.2⟩
theorem e_step (ih : Snd Z n) {x : Expr} {ir : E} (q : cE (n + 1) g x = some ir) : EOk Z g x ir := by
  rw [cE.eq_def] at q
  dsimp only at q
  split at q
  · split at q <;> first | (cases q; done) | skip
    · cases q; exact .mk' (fun h => (se_const (fun X => pe_non) (fun _ _ => .non)).of fun ρ => by rw [evE]) nofun nofun nofun nofun
    · cases q; exact .mk' (fun h => (se_const (fun X => pe_bl) (fun _ _ => .bl _)).of fun ρ => by rw [evE]) nofun nofun nofun nofun
    · cases q; exact .mk' (fun h => (se_const (fun X => pe_int) (fun _ _ => .int _)).of fun ρ => by rw [evE]) nofun nofun nofun nofun
    · cases q; exact .mk' (fun h => (se_const (fun X => pe_str) (fun _ _ => .str _)).of fun ρ => by rw [evE]) nofun nofun nofun nofun
  · split at q
    · rename_i x p i hs
      cases q
      exact ⟨fun h => se_var hs, nofun, fun j e => by cases e; exact ⟨_, _, rfl, hs⟩, nofun, nofun⟩
    · split at q
      · rename_i x p hs hg
        obtain ⟨d, h1, rfl⟩ := map_some q
        exact .mk' (fun h => se_glob hg h1) nofun nofun nofun nofun
      · cases q
  · split at q
    · obtain ⟨y, h1, rfl⟩ := map_some q
      refine .mk' (fun h => (se_tup ((ih.es _ _ _ h1).1 h).check fun ρ ds ρ' e => check_len e).of fun ρ => ?_) nofun nofun nofun nofun
      rw [evE]
      cases evEs h y ρ with
      | fail => rfl
      | exc c r => rfl
      | ok ds r => simp only [R.bind]; split <;> rfl
    · rename_i hst
      split at q
      · rename_i hl
        obtain ⟨y, h1, rfl⟩ := map_some q
        obtain ⟨s1, s2⟩ := ih.es _ _ _ h1
        exact .mk' (fun h => (se_tup (s1 h) fun ρ ds ρ' e => by rw [(s2 (by simpa using hst) h).1 _ _ _ e]; unfold mAx; omega).of fun ρ => by rw [evE]) nofun nofun nofun nofun
      · cases q
  · split at q
    · obtain ⟨y, h1, rfl⟩ := map_some q
      refine .mk' (fun h => (se_lst ((ih.es _ _ _ h1).1 h).check fun ρ ds ρ' e => check_len e).of fun ρ => ?_) nofun nofun nofun nofun
      rw [evE]
      cases evEs h y ρ with
      | fail => rfl
      | exc c r => rfl
      | ok ds r => simp only [R.bind]; split <;> rfl
    · rename_i hst
      split at q
      · rename_i hl
        obtain ⟨y, h1, rfl⟩ := map_some q
        obtain ⟨s1, s2⟩ := ih.es _ _ _ h1
        exact .mk' (fun h => (se_lst (s1 h) fun ρ ds ρ' e => by rw [(s2 (by simpa using hst) h).1 _ _ _ e]; unfold mAx; omega).of fun ρ => by rw [evE]) nofun nofun nofun nofun
      · cases q
  · cases q
    exact .mk' (fun h => se_dic0.of fun ρ => by rw [evE]) nofun nofun nofun nofun
  · obtain ⟨o, h1, q⟩ := bind_map q
    obtain ⟨x, h2, q⟩ := bind_map q
    obtain ⟨y, h3, rfl⟩ := map_some q
    have k1 := ih.e _ _ _ h2
    have k2 := ih.e _ _ _ h3
    exact .mk' (fun h => (se_op2 (k1.so h) (k2.so h) (bin_ok h1 _ _)).of op2_eq) nofun nofun nofun nofun
  · obtain ⟨x, h1, rfl⟩ := map_some q
    have k1 := ih.e _ _ _ h1
    exact .mk' (fun h => (se_un1 (p := opNeg) (k1.so h) fun X a => by first | exact pu_neg a | exact pu_neg).of op1_eq) nofun nofun nofun nofun
  · obtain ⟨x, h1, rfl⟩ := map_some q
    have k1 := ih.e _ _ _ h1
    exact .mk' (fun h => (se_not (k1.se h)).of fun ρ => by rw [evE]; (try rfl)) nofun nofun nofun nofun
  · split at q
    · obtain ⟨s1, s2⟩ := ih.bool _ _ _ _ _ _ q
      obtain ⟨v, r, s⟩ := s2 (by simp)
      exact .mk' s1 nofun v r s
    · cases q
  · obtain ⟨t, h1, q⟩ := bind_map q
    obtain ⟨x, h2, q⟩ := bind_map q
    obtain ⟨y, h3, rfl⟩ := map_some q
    have k1 := ih.e _ _ _ h2
    have k2 := ih.e _ _ _ h3
    exact .mk' (fun h => (se_cond (ih.t _ _ _ h1 h) (k1.se h) (k2.se h)).of fun ρ => by rw [evE]) nofun nofun nofun nofun
  · rename_i aa oo bb pp
    obtain ⟨op, h1, q⟩ := bind_map q
    rcases cCmp_ok h1 with ⟨rfl, rfl, k, p, rfl⟩ | ⟨rfl, rfl, k, p, rfl⟩ | ⟨n1, n2, h2, hs⟩
    · obtain ⟨x, h2, rfl⟩ := map_some q
      exact .mk' (fun h => (se_isN (p := opIsn) ((ih.e _ _ _ h2).so h) rfl fun X ds rv v F H Q a s ra q => pu_isn a s ra q).of op1_eq) nofun nofun nofun nofun
    · obtain ⟨x, h2, rfl⟩ := map_some q
      exact .mk' (fun h => (se_isN (p := opIsnn) ((ih.e _ _ _ h2).so h) rfl fun X ds rv v F H Q a s ra q => pu_isnn a s ra q).of op1_eq) nofun nofun nofun nofun
    · have q' : ((cE n g aa).bind fun x => (cE n g bb).map fun y => E.op op (.cons x (.cons y .nil))) = some ir := by
        revert q
        cases op <;> first | exact id | exact absurd rfl n1 | exact absurd rfl n2
      obtain ⟨x, h3, q⟩ := bind_map q'
      obtain ⟨y, h4, rfl⟩ := map_some q
      exact .mk' (fun h => (se_cmp2 ((ih.e _ _ _ h3).so h) ((ih.e _ _ _ h4).so h) (marks_no hs) (cmp_ok h2 _ _)).of op2_eq) nofun nofun nofun nofun
  · obtain ⟨op, h1, q⟩ := bind_map q
    obtain ⟨op', h2, q⟩ := bind_map q
    split at q
    · cases q
    · rename_i hs
      obtain ⟨x, h3, q⟩ := bind_map q
      obtain ⟨y, h4, q⟩ := bind_map q
      obtain ⟨z, h5, rfl⟩ := map_some q
      have k1 := ih.e _ _ _ h3
      have k2 := ih.e _ _ _ h4
      have k3 := ih.e _ _ _ h5
      rw [Bool.or_eq_true, not_or, Bool.not_eq_true, Bool.not_eq_true] at hs
      exact .mk' (fun h => (se_chain (k1.so h) (k2.so h) (k3.so h) (cmp_ok h1 _ _) (cmp_ok h2 _ _) (marks_no hs.2)).of fun ρ => by rw [evE]; (try rfl)) nofun nofun nofun nofun
  · split at q
    · rename_i hr
      obtain ⟨k, p1, p2, p3, rfl⟩ := isRev_ok hr
      obtain ⟨x, h1, rfl⟩ := map_some q
      exact .mk' (fun h => (se_slr ((ih.e _ _ _ h1).so h)).of fun ρ => by rw [evE]; (try rfl)) nofun nofun nofun nofun
    · split at q
      · obtain ⟨x, h1, q⟩ := bind_map q
        obtain ⟨l, h2, q⟩ := bind_map q
        obtain ⟨u, h3, rfl⟩ := map_some q
        exact .mk' (fun h => (se_slice ((ih.e _ _ _ h1).so h) (ih.eo _ _ _ h2 h) (ih.eo _ _ _ h3 h)).of fun ρ => by rw [evE]; (try rfl)) nofun nofun nofun nofun
      · split at q
        · cases q
        · rename_i hs
          obtain ⟨x, h1, q⟩ := bind_map q
          obtain ⟨y, h2, rfl⟩ := map_some q
          exact .mk' (fun h => (se_idx ((ih.e _ _ _ h1).so h) ((ih.e _ _ _ h2).so h) (by simpa using hs)).of op2_eq) nofun nofun nofun nofun
  · exact ih.call _ _ _ _ _ _ q
  · split at q
    · rename_i hc
      simp only [Bool.and_eq_true, decide_eq_true_eq, Bool.not_eq_true'] at hc
      obtain ⟨⟨hline, hlen⟩, hst⟩ := hc
      obtain ⟨i, h1, q⟩ := bind_map q
      obtain ⟨k, h2, q⟩ := bind_map q
      obtain ⟨xs, h3, rfl⟩ := map_some q
      obtain ⟨rfl, m2, m3⟩ := mut_ok h2
      rcases m3 with ⟨rfl, m4⟩ | ⟨m4, m5⟩
      · have := List.length_eq_zero_iff.mp m4
        subst this
        have hx : xs = .nil := by
          cases n with
          | zero => rw [cEs.eq_def] at h3; cases h3
          | succ n => rw [cEs.eq_def] at h3; cases h3; rfl
        subst hx
        exact .mk' (fun h => (se_pop0 h1 hline).of fun ρ => by rw [evE, evEs]; (try rfl)) nofun nofun nofun nofun
      · exact .mk' (fun h => (se_mth h1 m2 ((ih.es _ _ _ h3).1 h) (plain_of hst) hlen (by intro z; rw [z] at m5; cases m5) m4 hline).of fun ρ => by rw [evE]; (try rfl)) nofun nofun nofun nofun
    · cases q
  · split at q
    · rename_i hc
      simp only [Bool.and_eq_true] at hc
      obtain ⟨it, h1, q⟩ := bind_map q
      obtain ⟨t, h2, q⟩ := bind_map q
      obtain ⟨ts, h3, q⟩ := bind_map q
      obtain ⟨x, h4, rfl⟩ := map_some q
      exact .mk' (fun h => (se_comp (ih.it _ _ _ _ h1 h) hc.1 ((tgs_ok _).1 _ _ _ h2 h) (ih.ifs _ _ _ h3 h) ((ih.e _ _ _ h4).se h)).of fun ρ => by rw [evE]; (try rfl)) nofun nofun nofun nofun
    · cases q
  · cases q
end Ev
end
section
set_option Elab.async false
set_option linter.all false
set_option maxRecDepth 100000
/-! Calls, tests, arguments, what is walked: by the fuel of the compiling. -/
namespace Ev
open PySem PySem.Spec PyProof.Rows L2
variable {Z : Fix} {g : Sta} {n : Nat} {h : List Calls}
theorem inner_ok {a b : Expr} {r : Str} (q : inner a = some (r, b)) : ∃ p p2, a = .Call (.Name r p) [b] [] p2 := by
  unfold inner at q
  split at q
  · cases q; exact ⟨_, _, rfl⟩
  · cases q
theorem genOf_ok {a elt tg iter : Expr} {ifs : List Expr} {scope : Scope} (q : genOf a = some (elt, tg, iter, ifs, scope)) : ∃ p, a = .GeneratorExp elt [⟨tg, iter, ifs, 0⟩] scope p := by
  unfold genOf at q
  split at q
  · cases q; exact ⟨_, rfl⟩
  · cases q
theorem fold_ok {iter : Expr} (hl : isLst iter = false) (s : ∀ env x, foldedSetIterable iter env x = pure x) : ∀ env v, genFold iter env v = pure v := fun env v => by
  cases iter <;> first | exact s env v | exact absurd hl (by simp [isLst])
theorem call_step (ih : Snd Z n) {f : Str} {args : List Expr} {ir : E} {p pos : Pos} (q : cCall (n + 1) g f args = some ir) : EOk Z g (.Call (.Name f p) args [] pos) ir := by
  rw [cCall.eq_def] at q
  dsimp only at q
  split at q
  · rename_i k m e1 es hf
    split at q
    · cases q
    · rename_i hg
      have hg : glb g f = true := by simpa using hg
      split at q
      · rename_i hst
        split at q
        · cases q
        · rename_i h1
          obtain ⟨xs, h2, rfl⟩ := map_some q
          refine .mk' (fun h => ?_) nofun nofun nofun nofun
          cases h with
          | nil => exact se_fail.of fun ρ => by rw [evE]
          | cons c t => exact (se_scall hg hf (fun x p z => by rw [z] at h1; exact h1 rfl) hst ((ih.es _ _ _ h2).1 _)).of fun ρ => by rw [evE]
      · obtain ⟨xs, h2, rfl⟩ := map_some q
        refine .mk' (fun h => ?_) nofun nofun nofun nofun
        cases h with
        | nil => exact se_fail.of fun ρ => by rw [evE]
        | cons c t => exact (se_call hg hf (ih.as _ _ _ _ h2 _)).of fun ρ => by rw [evE]
  · cases q
  · rename_i a hf
    split at q
    · cases q
    · rename_i hb
      have hb : blt g f = true := by simpa using hb
      split at q
      · rename_i elt tg iter ifs scope ho
        obtain ⟨gp, rfl⟩ := genOf_ok ho
        obtain ⟨qt, h0, q⟩ := bind_map q
        split at q
        · rename_i hc
          simp only [Bool.and_eq_true, Bool.not_eq_true'] at hc
          obtain ⟨⟨⟨⟨c1, c2⟩, c3⟩, c4⟩, c5⟩ := hc
          obtain ⟨it, h1, q⟩ := bind_map q
          obtain ⟨t, h2, q⟩ := bind_map q
          obtain ⟨ts, h3, q⟩ := bind_map q
          obtain ⟨x, h4, rfl⟩ := map_some q
          refine .mk' (fun h => ?_) nofun nofun nofun nofun
          cases h with
          | nil => exact se_fail.of fun ρ => by rw [evE]; exact fun c t b z => nomatch z
          | cons c tl =>
            have si := ih.it _ _ _ _ h1 (c :: tl)
            have fo := fold_ok c5 si.1
            have sg := (tgs_ok (Z := Z) _).1 _ _ _ h2 tl
            have st := ih.ifs _ _ _ h3 tl
            have se := (ih.e _ _ _ h4).se tl
            unfold quant at h0
            split at h0
            · rename_i e
              cases h0
              rw [eq_of_beq e] at hb ⊢
              exact (se_all hb c3 c2 fo si c1 sg st se).of fun ρ => by rw [evE]; (try rfl); (try rfl)
            · split at h0
              · rename_i e
                cases h0
                rw [eq_of_beq e] at hb ⊢
                exact (se_any hb c3 c2 fo si c1 sg st se).of fun ρ => by rw [evE]; (try rfl); (try rfl)
              · cases h0
        · cases q
      · split at q
        · rename_i r b hi
          split at q
          · rename_i hc
            simp only [Bool.and_eq_true] at hc
            obtain ⟨p1, p2, rfl⟩ := inner_ok hi
            obtain ⟨x, h1, rfl⟩ := map_some q
            have e1 := eq_of_beq hc.1.1
            have e2 := eq_of_beq hc.2
            rw [e1] at hc ⊢
            rw [e2] at hb ⊢
            exact .mk' (fun h => rng_ok (tup := true) hc.1.2 rfl hb (ih.e _ _ _ h1) h) nofun nofun nofun nofun
          · split at q
            · rename_i hc
              simp only [Bool.and_eq_true] at hc
              obtain ⟨p1, p2, rfl⟩ := inner_ok hi
              obtain ⟨x, h1, rfl⟩ := map_some q
              have e1 := eq_of_beq hc.1.1
              have e2 := eq_of_beq hc.2
              rw [e1] at hc ⊢
              rw [e2] at hb ⊢
              exact .mk' (fun h => rng_ok (tup := false) hc.1.2 rfl hb (ih.e _ _ _ h1) h) nofun nofun nofun nofun
            · split at q
              · rename_i hc
                simp only [Bool.and_eq_true] at hc
                obtain ⟨p1, p2, rfl⟩ := inner_ok hi
                obtain ⟨x, h1, rfl⟩ := map_some q
                have e1 := eq_of_beq hc.1.1
                have e2 := eq_of_beq hc.2
                rw [e1] at hc ⊢
                rw [e2] at hb ⊢
                exact .mk' (fun h => rev_ok hc.1.2 hb (ih.e _ _ _ h1) h) nofun nofun nofun nofun
              · obtain ⟨o, h1, q⟩ := bind_map q
                obtain ⟨x, h2, rfl⟩ := map_some q
                exact .mk' (fun h => one1_ok hb h1 (ih.e _ _ _ h2) h) nofun nofun nofun nofun
        · obtain ⟨o, h1, q⟩ := bind_map q
          obtain ⟨x, h2, rfl⟩ := map_some q
          exact .mk' (fun h => one1_ok hb h1 (ih.e _ _ _ h2) h) nofun nofun nofun nofun
  · rename_i a b hf
    split at q
    · cases q
    · rename_i hb
      have hb : blt g f = true := by simpa using hb
      split at q
      · rename_i e
        rw [eq_of_beq e] at hb ⊢
        split at q
        · rename_i t hn
          split at q
          · rename_i hbt
            obtain ⟨ty, h1, q⟩ := bind_map q
            obtain ⟨x, h2, rfl⟩ := map_some q
            exact .mk' (fun h => isi_ok hb hn hbt h1 (ih.e _ _ _ h2) h) nofun nofun nofun nofun
          · cases q
        · cases q
      · obtain ⟨o, h1, q⟩ := bind_map q
        obtain ⟨x, h2, q⟩ := bind_map q
        obtain ⟨y, h3, rfl⟩ := map_some q
        exact .mk' (fun h => one2_ok hb h1 (ih.e _ _ _ h2) (ih.e _ _ _ h3) h) nofun nofun nofun nofun
  · cases q
theorem bool_step (ih : Snd Z n) {op : BoolOp} {a : Expr} {r : List Expr} {ir : E} {pos : Pos} (q : cBool (n + 1) g op (a :: r) = some ir) :
    (∀ h, SE Z g h (.BoolOp op (a :: r) pos) (evE h ir)) ∧ (r ≠ [] → (∀ i, ir ≠ .var i) ∧ (∀ i, ir ≠ .ref i) ∧ ∀ y, ir ≠ .star y) := by
  rw [cBool.eq_def] at q
  cases r with
  | nil => exact ⟨fun h => se_one ((ih.e _ _ _ q).se h), fun z => absurd rfl z⟩
  | cons b r =>
    obtain ⟨x, h1, q⟩ := bind_map q
    obtain ⟨y, h2, q⟩ := map_some q
    have k1 := ih.e _ _ _ h1
    obtain ⟨k2, _⟩ := ih.bool _ _ _ _ _ pos h2
    cases op with
    | And => cases q; exact ⟨fun h => (se_and (k1.se h) (k2 h)).of fun ρ => by rw [evE]; (try rfl), fun _ => ⟨nofun, nofun, nofun⟩⟩
    | Or => cases q; exact ⟨fun h => (se_or (k1.se h) (k2 h)).of fun ρ => by rw [evE]; (try rfl), fun _ => ⟨nofun, nofun, nofun⟩⟩
theorem evEs_cons {x : E} {ys : Es} (n : ∀ y, x ≠ .star y) (ρ : Sl) : evEs h (.cons x ys) ρ = (evE h x ρ).bind fun v ρ' => (evEs h ys ρ').bind fun ds ρ2 => .ok (v.d :: ds) ρ2 := by
  cases x <;> first | exact absurd rfl (n _) | (rw [evEs]; exact n)
theorem SRs.of {e : List Expr} {f f' : Sl → R (List RV)} (s : SRs Z g h e f) (q : ∀ ρ, f' ρ = f ρ) : SRs Z g h e f' := by rw [show f' = f from funext q]; exact s
theorem es_step (ih : Snd Z n) {xs : List Expr} {ir : Es} (q : cEs (n + 1) g xs = some ir) :
    (∀ h, SA Z g h xs (evEs h ir)) ∧ (xs.any isStd = false → ∀ h, (∀ ρ ds ρ', evEs h ir ρ = .ok ds ρ' → ds.length = xs.length) ∧ SRs Z g h xs (evRs h ir) ∧ ∀ ρ vs ρ', evRs h ir ρ = .ok vs ρ' → vs.length = xs.length) := by
  cases xs with
  | nil =>
    rw [cEs.eq_def] at q
    cases q
    refine ⟨fun h => sa_nil.of fun ρ => by rw [evEs], fun _ h => ⟨fun ρ ds ρ' e => ?_, srs_nil.of fun ρ => by rw [evRs], fun ρ ds ρ' e => ?_⟩⟩
    · rw [evEs] at e; cases e; rfl
    · rw [evRs] at e; cases e; rfl
  | cons x xs =>
    by_cases hs : ∃ e p, x = .Starred e p
    · obtain ⟨e, p, rfl⟩ := hs
      rw [cEs.eq_def] at q
      obtain ⟨y, h1, q⟩ := bind_map q
      obtain ⟨ys, h2, rfl⟩ := map_some q
      exact ⟨fun h => (sa_star ((ih.e _ _ _ h1).so h) ((ih.es _ _ _ h2).1 h)).of fun ρ => by rw [evEs]; (try rfl), fun z => by cases z⟩
    · have q' : ((cE n g x).bind fun y => (cEs n g xs).map (Es.cons y)) = some ir := by
        rw [cEs.eq_def] at q
        revert q
        cases x <;> first | exact id | exact absurd ⟨_, _, rfl⟩ hs
      obtain ⟨y, h1, q⟩ := bind_map q'
      obtain ⟨ys, h2, rfl⟩ := map_some q
      have k1 := ih.e _ _ _ h1
      obtain ⟨k2, k3⟩ := ih.es _ _ _ h2
      refine ⟨fun h => (sa_cons k1.ns (k1.se h) (k2 h)).of (evEs_cons k1.str), fun z h => ?_⟩
      rw [List.any_cons, Bool.or_eq_false_iff] at z
      obtain ⟨l1, s1, l2⟩ := k3 z.2 h
      refine ⟨fun ρ ds ρ' e => ?_, (srs_cons k1.ns (k1.se h) s1).of fun ρ => by rw [evRs], fun ρ ds ρ' e => ?_⟩
      · rw [evEs_cons k1.str] at e
        cases h3 : evE h y ρ with
        | fail => rw [h3] at e; cases e
        | exc c r => rw [h3] at e; cases e
        | ok v r =>
          rw [h3] at e
          change ((evEs h ys r).bind fun ds ρ2 => R.ok (v.d :: ds) ρ2) = _ at e
          cases h4 : evEs h ys r with
          | fail => rw [h4] at e; cases e
          | exc c r => rw [h4] at e; cases e
          | ok ds2 r2 => rw [h4] at e; cases e; rw [List.length_cons, List.length_cons, l1 _ _ _ h4]
      · rw [evRs] at e
        cases h3 : evE h y ρ with
        | fail => rw [h3] at e; cases e
        | exc c r => rw [h3] at e; cases e
        | ok v r =>
          rw [h3] at e
          change ((evRs h ys r).bind fun ds ρ2 => R.ok (v :: ds) ρ2) = _ at e
          cases h4 : evRs h ys r with
          | fail => rw [h4] at e; cases e
          | exc c r => rw [h4] at e; cases e
          | ok ds2 r2 => rw [h4] at e; cases e; rw [List.length_cons, List.length_cons, l2 _ _ _ h4]
theorem SCs.of {m : List Bool} {e : List Expr} {f f' : Sl → R (List Opr)} (s : SCs Z g h m e f) (q : ∀ ρ, f' ρ = f ρ) : SCs Z g h m e f' := by rw [show f' = f from funext q]; exact s
theorem isNm_ok {e : Expr} {x : Str} (q : isNm e = some x) : ∃ p, e = .Name x p := by
  unfold isNm at q
  split at q
  · cases q; exact ⟨_, rfl⟩
  · cases q
theorem as_step (ih : Snd Z n) {m : List Bool} {xs : List Expr} {ir : Es} (q : cAs (n + 1) g m xs = some ir) : ∀ h, SCs Z g h m xs (evCs h ir) := by
  intro h
  rw [cAs.eq_def] at q
  cases m with
  | nil => cases xs with
    | nil => cases q; exact sc_nil.of fun ρ => by rw [evCs]
    | cons e es => cases q
  | cons b bs => cases xs with
    | nil => cases b <;> cases q
    | cons e es => cases b with
      | true =>
        obtain ⟨x, h1, q⟩ := bind_map q
        obtain ⟨i, h2, q⟩ := bind_map q
        obtain ⟨ys, h3, rfl⟩ := map_some q
        obtain ⟨p, rfl⟩ := isNm_ok h1
        exact (sc_ref h2 (ih.as _ _ _ _ h3 h)).of fun ρ => by rw [evCs]
      | false =>
        obtain ⟨x, h1, q⟩ := bind_map q
        obtain ⟨ys, h3, rfl⟩ := map_some q
        have k1 := ih.e _ _ _ h1
        exact (sc_val k1.ns (k1.se h) (ih.as _ _ _ _ h3 h)).of fun ρ => by rw [evCs, evC_eq k1.ref]
theorem eo_step (ih : Snd Z n) {x : Option Expr} {ir : Eo} (q : cEo (n + 1) g x = some ir) : ∀ h, SI Z g h x (evEo h ir) := by
  intro h
  rw [cEo.eq_def] at q
  cases x with
  | none => cases q; rw [show evEo h .none = fun ρ => R.ok none ρ from funext fun ρ => by rw [evEo]]; exact si_none
  | some e =>
    obtain ⟨y, h1, rfl⟩ := map_some q
    have s := si_some ((ih.e _ _ _ h1).se h)
    rw [show evEo h (.some y) = _ from funext fun ρ => by rw [evEo]]
    exact s
theorem val_ok {x : Expr} {ir : T} (ih : Snd Z n) (q : (cE n g x).map T.val = some ir) (hv : isVal x = true) : ∀ h, ST Z g h x (evT h ir) := by
  intro h
  obtain ⟨y, h1, rfl⟩ := map_some q
  exact (st_val ((ih.e _ _ _ h1).so h) hv).of fun ρ => by rw [evT]
theorem st_isN {a : Expr} {op : CmpOp} {pos p' : Pos} {k : Nat} {p : List D → Option RV} {fa : Sl → R Opr} (sa : SO Z g h a fa) (hm : behindInMarks op (.Constant .none k p') = false) (hp : ∀ ds rv, p ds = some rv → ∃ b, rv = .shr (.bool b))
    (P : ∀ X ds rv v F H Q, p ds = some rv → Same F H → RqA Z.K F H [v] ds → (∀ F' H' v, Ext F H F' H' → RvOk Z.K Z.T F' H' H v rv → Q v H') → w2 X (compareOp op) [v, .non] H Q) :
    ST Z g h (.Compare a [op] [.Constant .none k p'] pos) (fun ρ => ((fa ρ).bind fun x ρ1 => R.ofO ρ1 ((gets ρ1 [x]).bind p)).bind fun v ρ' => R.ofO ρ' (truth v.d)) := by
  intro X W at_ σ ρ F H Q e q
  refine wT_of (pt_cmpR op_w pe_w pe_non hm) (sa X W at_ σ ρ F H _ e (q.split.split.mono fun x ρ1 F1 H1 g1 q1 v r => ?_))
  show w2 X (compareOp op) [v, .non] H1 _
  cases hg : gets ρ1 [x] with
  | none => rw [hg] at q1; exact q1.elim
  | some ds =>
    rw [hg] at q1
    change After _ _ _ _ _ _ _ _ _ (R.ofO ρ1 (p ds)) at q1
    cases hq : p ds with
    | none => rw [hq] at q1; exact q1.elim
    | some rv =>
      rw [hq] at q1
      obtain ⟨b, rfl⟩ := hp ds rv hq
      refine P X ds _ v F1 H1 _ hq g1.env.sub ((OpsOk.cons r .nil).gets g1.env hg) fun F' H' v x ro => ?_
      have ro' : Rp Z.K F' v (.bool b) := ro
      cases ro'
      have gx := Go.ext g1.env x
      exact ⟨b, rfl, (q1 F' H' gx).here gx.env⟩
theorem isn_bool {ds : List D} {rv : RV} (q : opIsn ds = some rv) : ∃ b, rv = .shr (.bool b) := by
  unfold opIsn at q
  split at q
  · cases q; exact ⟨_, rfl⟩
  · cases q
theorem isnn_bool {ds : List D} {rv : RV} (q : opIsnn ds = some rv) : ∃ b, rv = .shr (.bool b) := by
  unfold opIsnn at q
  split at q
  · cases q; exact ⟨_, rfl⟩
  · cases q
theorem evT_isN {o : Op} {x : E} (ρ : Sl) : evT h (.val (.op o (.cons x .nil))) ρ = ((evO h x ρ).bind fun a ρ1 => R.ofO ρ1 ((gets ρ1 [a]).bind (opv o))).bind fun v ρ' => R.ofO ρ' (truth v.d) := by
  rw [evT, evO_eq (ir := .op o (.cons x .nil)) nofun, op1_eq]
  cases ((evO h x ρ).bind fun a ρ1 => R.ofO ρ1 ((gets ρ1 [a]).bind (opv o))) <;> rfl
theorem t_step (ih : Snd Z n) {x : Expr} {ir : T} (q : cT (n + 1) g x = some ir) : ∀ h, ST Z g h x (evT h ir) := by
  intro h
  rw [cT.eq_def] at q
  dsimp only at q
  split at q
  · obtain ⟨t, h1, rfl⟩ := map_some q
    exact (st_not (ih.t _ _ _ h1 h)).of fun ρ => by rw [evT]
  · rename_i op es pos
    cases es with
    | nil =>
      cases n with
      | zero => rw [cTs.eq_def] at q; cases q
      | succ n => rw [cTs.eq_def] at q; cases q
    | cons a r => exact (ih.ts _ _ _ _ _ pos q h).st
  · cases q
  · rename_i aa oo bb pp
    obtain ⟨op, h1, q⟩ := bind_map q
    rcases cCmp_ok h1 with ⟨rfl, rfl, k, p, rfl⟩ | ⟨rfl, rfl, k, p, rfl⟩ | ⟨n1, n2, h2, hs⟩
    · obtain ⟨x, h2, rfl⟩ := map_some q
      exact (st_isN (p := opIsn) ((ih.e _ _ _ h2).so h) rfl (fun _ _ => isn_bool) fun X ds rv v F H Q a s ra q => pu_isn a s ra q).of evT_isN
    · obtain ⟨x, h2, rfl⟩ := map_some q
      exact (st_isN (p := opIsnn) ((ih.e _ _ _ h2).so h) rfl (fun _ _ => isnn_bool) fun X ds rv v F H Q a s ra q => pu_isnn a s ra q).of evT_isN
    · have q' : ((cE n g aa).bind fun x => (cE n g bb).map fun y => T.cmp op x y) = some ir := by
        revert q
        cases op <;> first | exact id | exact absurd rfl n1 | exact absurd rfl n2
      obtain ⟨x, h3, q⟩ := bind_map q'
      obtain ⟨y, h4, rfl⟩ := map_some q
      exact (st_cmp ((ih.e _ _ _ h3).so h) ((ih.e _ _ _ h4).so h) (marks_no hs) (cmp_ok h2 _ _)).of fun ρ => by rw [evT]; (try rfl)
  · obtain ⟨op, h1, q⟩ := bind_map q
    obtain ⟨op', h2, q⟩ := bind_map q
    split at q
    · cases q
    · rename_i hs
      obtain ⟨x, h3, q⟩ := bind_map q
      obtain ⟨y, h4, q⟩ := bind_map q
      obtain ⟨z, h5, rfl⟩ := map_some q
      have k1 := ih.e _ _ _ h3
      have k2 := ih.e _ _ _ h4
      have k3 := ih.e _ _ _ h5
      rw [Bool.or_eq_true, not_or, Bool.not_eq_true, Bool.not_eq_true] at hs
      exact (st_chain (k1.so h) (k2.so h) (k3.so h) (cmp_ok h1 _ _) (cmp_ok h2 _ _) (marks_no hs.2)).of fun ρ => by rw [evT]; (try rfl)
  · cases q
  · refine val_ok ih q ?_ h
    rename_i hh1 hh2 hh3 hh4 hh5 hh6
    cases x <;> first | rfl | exact (hh2 _ _ _ rfl).elim | exact (hh3 _ _ _ _ rfl).elim | exact (hh6 _ _ _ _ rfl).elim | (rename_i op a p; cases op <;> first | rfl | exact (hh1 _ _ rfl).elim)
theorem ts_step (ih : Snd Z n) {op : BoolOp} {a : Expr} {r : List Expr} {ir : T} {pos : Pos} (q : cTs (n + 1) g op (a :: r) = some ir) : ∀ h, SWt Z g h (.BoolOp op (a :: r) pos) (evT h ir) := by
  intro h
  rw [cTs.eq_def] at q
  cases r with
  | nil => exact sw_one (ih.t _ _ _ q h)
  | cons b r =>
    obtain ⟨x, h1, q⟩ := bind_map q
    obtain ⟨y, h2, q⟩ := map_some q
    have k1 := ih.t _ _ _ h1 h
    have k2 := ih.ts _ _ _ _ _ pos h2 h
    cases op with
    | And => cases q; rw [show evT h (.and x y) = _ from funext fun ρ => by rw [evT]]; exact sw_and k1 k2
    | Or => cases q; rw [show evT h (.or x y) = _ from funext fun ρ => by rw [evT]]; exact sw_or k1 k2
theorem ifs_step (ih : Snd Z n) {xs : List Expr} {ir : T} (q : cIfs (n + 1) g xs = some ir) : ∀ h, STs Z g h xs (evT h ir) := by
  intro h
  rw [cIfs.eq_def] at q
  dsimp only at q
  split at q
  · cases q; rw [show evT h .yes = fun ρ => R.ok true ρ from funext fun ρ => by rw [evT]]; exact sts_nil
  · exact sts_one (ih.t _ _ _ q h)
  · cases q
theorem rangeOf_ok {tg e : Expr} : (∀ a, rangeOf g tg e = .r1 a → blt g "range" = true ∧ ∃ p pos, e = .Call (.Name "range" p) [a] [] pos) ∧ (∀ a b, rangeOf g tg e = .r2 a b → blt g "range" = true ∧ ∃ p pos, e = .Call (.Name "range" p) [a, b] [] pos) ∧
    (∀ a, rangeOf g tg e = .en a → blt g "enumerate" = true ∧ isTup tg = true ∧ ∃ p pos, e = .Call (.Name "enumerate" p) [a] [] pos) := by
  unfold rangeOf
  split
  · split
    · rename_i hc
      rw [Bool.and_eq_true] at hc
      have e1 := eq_of_beq hc.1
      refine ⟨fun a z => ?_, nofun, nofun⟩
      cases z
      rw [e1] at hc ⊢
      exact ⟨hc.2, _, _, rfl⟩
    · split
      · rename_i hc
        rw [Bool.and_eq_true, Bool.and_eq_true] at hc
        have e1 := eq_of_beq hc.1.1
        refine ⟨nofun, nofun, fun a z => ?_⟩
        cases z
        rw [e1] at hc ⊢
        exact ⟨hc.1.2, hc.2, _, _, rfl⟩
      · exact ⟨nofun, nofun, nofun⟩
  · split
    · rename_i hc
      rw [Bool.and_eq_true] at hc
      have e1 := eq_of_beq hc.1
      refine ⟨nofun, fun a b z => ?_, nofun⟩
      cases z
      rw [e1] at hc ⊢
      exact ⟨hc.2, _, _, rfl⟩
    · exact ⟨nofun, nofun, nofun⟩
  · exact ⟨nofun, nofun, nofun⟩
theorem it_step (ih : Snd Z n) {tg x : Expr} {ir : It} (q : cIt (n + 1) g tg x = some ir) : ∀ h, SIt Z g h tg x (evIt h ir) := by
  intro h
  rw [cIt.eq_def] at q
  dsimp only at q
  obtain ⟨r1, r2, r3⟩ := rangeOf_ok (g := g) (tg := tg) (e := x)
  cases hr : rangeOf g tg x with
  | r1 a =>
    rw [hr] at q
    obtain ⟨y, h1, rfl⟩ := map_some q
    obtain ⟨hb, p, pos, rfl⟩ := r1 a hr
    have k := ih.e _ _ _ h1
    exact (sit_rng1 hb (k.se h) k.ns).of fun ρ => by rw [evIt]; (try rfl)
  | r2 a b =>
    rw [hr] at q
    obtain ⟨y, h1, q⟩ := bind_map q
    obtain ⟨z, h2, rfl⟩ := map_some q
    obtain ⟨hb, p, pos, rfl⟩ := r2 a b hr
    have k := ih.e _ _ _ h1
    have k2 := ih.e _ _ _ h2
    exact (sit_rng2 hb (k.se h) (k2.se h) k.ns k2.ns).of fun ρ => by rw [evIt]; (try rfl)
  | en a =>
    rw [hr] at q
    obtain ⟨y, h1, rfl⟩ := map_some q
    obtain ⟨hb, ht, p, pos, rfl⟩ := r3 a hr
    have k := ih.e _ _ _ h1
    cases tg <;> first | (cases ht; done) | skip
    exact (sit_enum hb (k.so h) k.ns).of fun ρ => by rw [evIt]; (try rfl)
  | sq =>
    rw [hr] at q
    change (if isSet x then none else (cE n g x).map Ev.It.seq) = _ at q
    split at q
    · cases q
    · rename_i hs
      obtain ⟨y, h1, rfl⟩ := map_some q
      have k := ih.e _ _ _ h1
      exact (sit_seq (k.so h) (by simpa using hs)).of fun ρ => by rw [evIt]; (try rfl)
theorem snd_all (Z : Fix) : ∀ n, Snd Z n
  | 0 => ⟨fun g x ir q => (by rw [cE.eq_def] at q; cases q), fun g f args ir p pos q => (by rw [cCall.eq_def] at q; cases q), fun g op a r ir pos q => (by rw [cBool.eq_def] at q; cases q), fun g xs ir q => (by rw [cEs.eq_def] at q; cases q), fun g m xs ir q => (by rw [cAs.eq_def] at q; cases q),
      fun g x ir q => (by rw [cEo.eq_def] at q; cases q), fun g x ir q => (by rw [cT.eq_def] at q; cases q), fun g op a r ir pos q => (by rw [cTs.eq_def] at q; cases q), fun g xs ir q => (by rw [cIfs.eq_def] at q; cases q), fun g tg x ir q => (by rw [cIt.eq_def] at q; cases q)⟩
  | n + 1 =>
    have ih := snd_all Z n
    ⟨fun g x ir q => e_step ih q, fun g f args ir p pos q => call_step ih q, fun g op a r ir pos q => bool_step ih q, fun g xs ir q => es_step ih q, fun g m xs ir q => as_step ih q,
      fun g x ir q => eo_step ih q, fun g x ir q => t_step ih q, fun g op a r ir pos q => ts_step ih q, fun g xs ir q => ifs_step ih q, fun g tg x ir q => it_step ih q⟩
end Ev
end
section
set_option Elab.async false
set_option linter.all false
set_option maxRecDepth 100000
/-! Statements: by the fuel of the compiling. -/
namespace Ev
open PySem PySem.Spec PyProof.Rows L2
variable {Z : Fix} {g : Sta} {n : Nat} {h : List Calls}
theorem SSs.of {e : List Stmt} {f f' : Sl → Out} (s : SSs Z g h e f) (q : ∀ ρ, f' ρ = f ρ) : SSs Z g h e f' := by rw [show f' = f from funext q]; exact s
theorem nmSl_ok : ∀ {ts : List Expr} {is : List Nat}, nmSl g ts = some is → NmsOk g ts is
  | [], is, q => by rw [nmSl] at q; cases q; exact .nil
  | e :: es, is, q => by
    rw [nmSl] at q
    obtain ⟨x, h1, q⟩ := bind_map q
    obtain ⟨i, h2, q⟩ := bind_map q
    split at q
    · rename_i hc
      rw [Bool.and_eq_true] at hc
      obtain ⟨js, h3, rfl⟩ := map_some q
      obtain ⟨p, rfl⟩ := isNm_ok h1
      exact .cons h2 hc.1 (kd_or hc.2) (nmSl_ok h3)
    · cases q
theorem evS_ret {y : E} (n : ∀ i, y ≠ .var i) (ρ : Sl) : evS h (.ret y) ρ = Out.ofR (fun v ρ' => .rt v ρ') (evE h y ρ) := by
  have e : evS h (.ret y) ρ = match evE h y ρ with
      | .ok v ρ' => .rt v ρ'
      | .exc c ρ' => .exc c ρ'
      | .fail => .fail := by
    cases y <;> first | exact absurd rfl (n _) | (rw [evS]; (try rfl); exact n)
  rw [e]
  cases evE h y ρ <;> rfl
theorem evS_aug {j : Nat} {y : E} (ρ : Sl) : evS h (.aug j .add y) ρ = match getS ρ j with
    | .shr (.int k) => match evE h y ρ with
      | .ok (.shr (.int l)) ρ' => match setS ρ' j (.shr (.int (k + l))) with
        | some ρ2 => .nx ρ2
        | none => .fail
      | .exc c ρ' => .exc c ρ'
      | _ => .fail
    | _ => .fail := by
  rw [evS.eq_def]
  dsimp only
  cases getS ρ j with
  | non => rfl
  | hld io lk d => rfl
  | shr d => cases d <;> rfl
theorem name_tg {n : Nat} {x : Str} {p : Pos} {t : Tg} (q : cTg g n (.Name x p) = some t) : ∃ i, t = .var i ∧ slot g x = some i ∧ storable g i = true ∧ (kd g x = some .local ∨ kd g x = some .cell) := by
  cases n with
  | zero => rw [cTg.eq_def] at q; cases q
  | succ n =>
    rw [cTg.eq_def] at q
    obtain ⟨i, h1, h2⟩ := bind_map q
    split at h2
    · rename_i hc
      rw [Bool.and_eq_true] at hc
      cases h2
      exact ⟨i, rfl, h1, hc.1, kd_or hc.2⟩
    · cases h2
theorem set_ok {n : Nat} {x : Str} {p pos : Pos} {e : Expr} {t : Tg} {y : E} (h1 : cTg g n (.Name x p) = some t) (h2 : cE n g e = some y) (h : List Calls) : SS Z g h (.Assign [.Name x p] e pos) (evS h (.set t y)) := by
  obtain ⟨i, rfl, hs, hst, hl⟩ := name_tg h1
  have eq : ∀ ρ, evS h (.set (.var i) y) ρ = Out.ofR (fun v ρ' => match asg (.var i) v ρ' with | some ρ2 => Out.nx ρ2 | none => .fail) (evE h y ρ) := fun ρ => by rw [evS]; cases evE h y ρ <;> rfl
  by_cases hn : noComp e = true
  · exact (ss_set (sg_name hs hst hl) (((snd_all Z n).e _ _ _ h2).se h) (by cases e <;> rfl) fun env _ => swaps_no hn _ _ _).of eq
  · cases n with
    | zero => rw [cE.eq_def] at h2; cases h2
    | succ n =>
      have ih := snd_all Z n
      cases e <;> first | exact absurd rfl hn | skip
      · rw [cE.eq_def] at h2
        dsimp only at h2
        split at h2 <;> first | (rename_i z; cases z; done) | skip
        · rename_i e0
          cases e0
          split at h2
          · rename_i hc
            simp only [Bool.and_eq_true] at hc
            obtain ⟨it, h1, q⟩ := bind_map h2
            obtain ⟨tt, hh2, q⟩ := bind_map q
            obtain ⟨ts, h3, q⟩ := bind_map q
            obtain ⟨z, h4, rfl⟩ := map_some q
            exact (ss_setLc hs hst hl (ih.it _ _ _ _ h1 h) hc.1 ((tgs_ok (Z := Z) _).1 _ _ _ hh2 h) (ih.ifs _ _ _ h3 h) ((ih.e _ _ _ h4).se h)).of fun ρ => by rw [eq, evE]; try rfl
          · cases h2
        · cases h2
      · rw [cE.eq_def] at h2; cases h2
      · rw [cE.eq_def] at h2; cases h2
theorem noPair_of {tg e : Expr} (n : ∀ es k p, e = .Tuple es k p → False) : noPair tg e = true := by
  cases e <;> first | exact (n _ _ _ rfl).elim | (cases tg <;> rfl)
theorem s_step (hss : ∀ g x ir, cSs n g x = some ir → ∀ h, SSs Z g h x (evSs h ir)) {x : Stmt} {ir : S} (q : cS (n + 1) g x = some ir) : ∀ h, SS Z g h x (evS h ir) := by
  intro h
  have ih := snd_all Z n
  rw [cS.eq_def] at q
  dsimp only at q
  split at q
  · cases q; exact ss_pass.of fun ρ => by rw [evS]
  · cases q; exact ss_brk.of fun ρ => by rw [evS]
  · cases q; exact ss_cnt.of fun ρ => by rw [evS]
  · split at q
    · rename_i hc
      obtain ⟨y, h1, rfl⟩ := map_some q
      exact (ss_ex ((ih.e _ _ _ h1).se h) hc).of fun ρ => by rw [evS]; cases evE h y ρ <;> rfl
    · cases q
  · cases q; exact ss_retn.of fun ρ => by rw [evS]
  · obtain ⟨y, h1, rfl⟩ := map_some q
    have k := ih.e _ _ _ h1
    by_cases hv : ∃ i, y = .var i
    · obtain ⟨i, rfl⟩ := hv
      obtain ⟨z, p, rfl, hs⟩ := k.var i rfl
      exact (ss_retv hs).of fun ρ => by rw [evS]; (try rfl)
    · exact (ss_ret (k.se h)).of (evS_ret fun i e => hv ⟨i, e⟩)
  · obtain ⟨t, h1, q⟩ := bind_map q
    obtain ⟨a, h2, q⟩ := bind_map q
    obtain ⟨b, h3, rfl⟩ := map_some q
    exact (ss_if (ih.t _ _ _ h1 h) (hss _ _ _ h2 h) (hss _ _ _ h3 h)).of fun ρ => by rw [evS]; cases evT h t ρ <;> rfl
  · obtain ⟨t, h1, q⟩ := bind_map q
    obtain ⟨a, h2, rfl⟩ := map_some q
    exact (ss_while (ih.t _ _ _ h1 h) (hss _ _ _ h2 h)).of fun ρ => by rw [evS]
  · obtain ⟨i, h1, q⟩ := bind_map q
    obtain ⟨t, h2, q⟩ := bind_map q
    obtain ⟨a, h3, rfl⟩ := map_some q
    exact (ss_for (ih.it _ _ _ _ h1 h) ((tgs_ok (Z := Z) _).1 _ _ _ h2 h) (hss _ _ _ h3 h)).of fun ρ => by
      rw [evS]
      cases evIt h i ρ <;> rfl
  · split at q
    · rename_i x p
      obtain ⟨t, h1, q⟩ := bind_map q
      obtain ⟨y, h2, rfl⟩ := map_some q
      exact set_ok h1 h2 h
    · split at q
      · cases q
      · rename_i hsl
        obtain ⟨j, h1, q⟩ := bind_map q
        obtain ⟨k, h2, q⟩ := bind_map q
        obtain ⟨y, h3, rfl⟩ := map_some q
        exact (ss_sto h1 (by simpa using hsl) ((ih.e _ _ _ h2).se h) ((ih.e _ _ _ h3).se h)).of fun ρ => by rw [evS]; (try rfl)
    · split at q
      · obtain ⟨is, h1, q⟩ := bind_map q
        obtain ⟨y, h2, rfl⟩ := map_some q
        unfold parC at h1
        obtain ⟨js, h3, h1⟩ := bind_map h1
        obtain ⟨r, h4, h1⟩ := bind_map h1
        obtain ⟨hc, h1⟩ := Option.ite_none_right_eq_some.mp h1
        · cases h1
          simp only [Bool.and_eq_true, decide_eq_true_eq, Bool.not_eq_true'] at hc
          obtain ⟨⟨⟨⟨c1, c2⟩, c3⟩, c4⟩, c5⟩ := hc
          obtain ⟨_, k3⟩ := ih.es _ _ _ h2
          obtain ⟨_, k4, k5⟩ := k3 c4 h
          refine (ss_par (nmSl_ok h3) h4 ?_ c1 ?_ k4 c2 c3 k5).of fun ρ => by rw [evS]; cases evRs h y ρ <;> rfl
          · cases r with
            | none => exact .inl rfl
            | some l =>
              simp only [Bool.and_eq_true, decide_eq_true_eq] at c5
              exact .inr (by rw [c5.1])
          · intro hr z p hz
            cases r with
            | none => exact absurd rfl hr
            | some l =>
              simp only [Bool.and_eq_true, List.all_eq_true] at c5
              have := c5.2 _ hz
              exact of_decide_eq_true this
      · split at q
        · rename_i hne hc
          obtain ⟨t, h1, q⟩ := bind_map q
          obtain ⟨y, h2, rfl⟩ := map_some q
          refine (ss_set (sg_tup ((tgs_ok (Z := Z) _).2 _ _ _ h1 h)) ((ih.e _ _ _ h2).se h) ?_ fun env _ => swaps_no hc _ _ _).of fun ρ => by rw [evS]; cases evE h y ρ <;> rfl
          exact noPair_of hne
        · cases q
    · cases q
  · obtain ⟨j, h1, q⟩ := bind_map q
    split at q
    · rename_i hc
      rw [Bool.and_eq_true] at hc
      obtain ⟨y, h2, rfl⟩ := map_some q
      exact (ss_aug h1 hc.1 (kd_or hc.2) ((ih.e _ _ _ h2).se h)).of evS_aug
    · cases q
  · split at q
    · cases q
    · obtain ⟨j, h1, q⟩ := bind_map q
      obtain ⟨y, h2, rfl⟩ := map_some q
      exact (ss_del h1 ((ih.e _ _ _ h2).se h)).of fun ρ => by rw [evS]; (try rfl)
  · cases q
theorem ss_all (Z : Fix) : ∀ n, (∀ g x ir, cS n g x = some ir → ∀ h, SS Z g h x (evS h ir)) ∧ ∀ g x ir, cSs n g x = some ir → ∀ h, SSs Z g h x (evSs h ir)
  | 0 => ⟨fun g x ir q => (by rw [cS.eq_def] at q; cases q), fun g x ir q => (by rw [cSs.eq_def] at q; cases q)⟩
  | n + 1 => by
    obtain ⟨i1, i2⟩ := ss_all Z n
    refine ⟨fun g x ir q => s_step i2 q, fun g x ir q h => ?_⟩
    cases x with
    | nil => rw [cSs.eq_def] at q; cases q; exact sss_nil.of fun ρ => by rw [evSs]
    | cons s ss =>
      rw [cSs.eq_def] at q
      obtain ⟨y, h1, q⟩ := bind_map q
      obtain ⟨ys, h2, rfl⟩ := map_some q
      exact (sss_cons (i1 _ _ _ h1 h) (i2 _ _ _ h2 h)).of fun ρ => by rw [evSs]; (try rfl)
end Ev
end
section
set_option Elab.async false
set_option linter.all false
set_option maxRecDepth 100000
/-! Defs: from the body to the promise. -/
namespace Ev
open PySem PySem.Spec PyProof.Rows L2
variable {Z : Fix} {g : Sta} {n : Nat} {h : List Calls} {K : PySem.W.Frag} {F F' H H' : Hp} {T : List Addr} {σ σ' : Sg} {ρ ρ' ρm : Sl} {vs : List V}
theorem getS_app {k : Nat} (i : Nat) : getS (ρm ++ List.replicate k .non) i = getS ρm i := by
  unfold getS
  by_cases l : i < ρm.length
  · rw [List.getElem?_append_left l]
  · rw [List.getElem?_append_right (by omega), List.getElem?_eq_none (l := ρm) (by omega), List.getElem?_replicate]
    split <;> rfl
theorem stV_start {N : List Str} (i : Nat) : stV (L2.start N vs) i = stV (vs.map some) i := by
  unfold stV L2.start
  by_cases l : i < vs.length
  · rw [List.getElem?_append_left (by simpa using l)]
  · rw [List.getElem?_append_right (by simpa using l), List.getElem?_eq_none (l := vs.map some) (by simpa using l), List.getElem?_replicate]
    split <;> rfl
theorem oa_iff {N : List Str} {k i : Nat} {a : Addr} : OA (ρm ++ List.replicate k .non) (L2.start N vs) i a ↔ OA ρm (vs.map some) i a := by
  unfold OA
  rw [getS_app, stV_start]
theorem own_iff {N : List Str} {k : Nat} {a : Addr} : Own (ρm ++ List.replicate k .non) (L2.start N vs) a ↔ Own ρm (vs.map some) a :=
  ⟨fun ⟨i, hi⟩ => ⟨i, oa_iff.mp hi⟩, fun ⟨i, hi⟩ => ⟨i, oa_iff.mpr hi⟩⟩
theorem env_start {N : List Str} {k : Nat} (e : SEnv K T F H ρm (vs.map some)) (hl : ρm.length + k = (L2.start N vs).length) : SEnv K T F H (ρm ++ List.replicate k .non) (L2.start N vs) :=
  ⟨by rw [List.length_append, List.length_replicate]; exact hl, e.sub, e.tabF, e.tabH, fun i => by rw [getS_app, stV_start]; exact e.slot i, fun i j a hi hj => e.apart i j a (oa_iff.mp hi) (oa_iff.mp hj)⟩
/-- parameters, and what they are behind the def -/
theorem par_out : ∀ {m : List Bool} {ds : List D} {ρm ρ' : Sl} {o : List D}, parS m ds = some ρm → outsOf m ρ' = some o →
    ∃ ρ2, outS ρm o = some ρ2 ∧ ρ2.length = ρm.length ∧ ∀ i, (getS ρm i = .non ∧ getS ρ2 i = .non) ∨ (∃ x, getS ρm i = .shr x ∧ getS ρ2 i = .shr x) ∨ ∃ d d', getS ρm i = .hld true false d ∧ getS ρ' i = .hld true false d' ∧ getS ρ2 i = .hld true false d'
  | [], [], ρm, ρ', o, h1, h2 => by
    cases h1
    cases ρ' with
    | nil => cases h2; exact ⟨[], rfl, rfl, fun i => .inl ⟨rfl, rfl⟩⟩
    | cons p r => cases h2; exact ⟨[], rfl, rfl, fun i => .inl ⟨rfl, rfl⟩⟩
  | [], _ :: _, _, _, _, h1, _ => by cases h1
  | _ :: _, [], _, _, _, h1, _ => by cases h1
  | b :: bs, d :: ds, ρm, ρ', o, h1, h2 => by
    rw [parS, Option.map_eq_some_iff] at h1
    obtain ⟨r, h3, rfl⟩ := h1
    cases ρ' with
    | nil => cases b <;> cases h2
    | cons p ρ' =>
      cases b with
      | false =>
        have h2 : outsOf bs ρ' = some o := by cases p <;> first | exact h2 | (rename_i io lk x; cases io <;> cases lk <;> exact h2)
        obtain ⟨ρ2, h4, h5, h6⟩ := par_out h3 h2
        refine ⟨.shr d :: ρ2, by show (outS r o).map _ = _; rw [h4]; rfl, by rw [List.length_cons, h5]; rfl, fun i => ?_⟩
        cases i with
        | zero => exact .inr (.inl ⟨d, rfl, rfl⟩)
        | succ i => exact h6 i
      | true =>
        cases p with
        | non => cases h2
        | shr x => cases h2
        | hld io lk x =>
          cases io with
          | false => cases lk <;> cases h2
          | true => cases lk with
            | true => cases h2
            | false =>
              obtain ⟨os, h7, rfl⟩ := Option.map_eq_some_iff.mp (show (outsOf bs ρ').map (x :: ·) = some o from h2)
              obtain ⟨ρ2, h4, h5, h6⟩ := par_out h3 h7
              refine ⟨.hld true false x :: ρ2, by show (outS r os).map _ = _; rw [h4]; rfl, by rw [List.length_cons, h5]; rfl, fun i => ?_⟩
              cases i with
              | zero => exact .inr (.inr ⟨d, x, rfl, rfl, rfl⟩)
              | succ i => exact h6 i
/-- the def's run, told of its parameters -/
theorem Go.params {N : List Str} {k : Nat} {m : List Bool} {ds o : List D} (e : SEnv K T F H ρm (vs.map some)) (hp : parS m ds = some ρm) (ho : outsOf m ρ' = some o) (go : GoS K T (L2.start N vs) (ρm ++ List.replicate k .non) F H σ' ρ' F' H') :
    ∃ ρ2, outS ρm o = some ρ2 ∧ Go K T (vs.map some) ρm F H ρ2 F' H' ∧ ∀ a, Own ρm (vs.map some) a → Own ρ' σ' a := by
  obtain ⟨ρ2, h1, h2, h3⟩ := par_out hp ho
  have pin : ∀ i d, getS ρm i = .hld true false d → stV σ' i = stV (vs.map some) i := fun i d hd => by
    obtain ⟨d', _, w, _⟩ := go.pin i true false d (by rw [getS_app]; exact hd) (.inl rfl)
    rw [w, stV_start]
  have back : ∀ i a, OA ρ2 (vs.map some) i a → OA ρm (vs.map some) i a := fun i a ⟨⟨x, y, z, w⟩, q⟩ => by
    rcases h3 i with ⟨_, u⟩ | ⟨_, _, u⟩ | ⟨d, d', u, _, _⟩
    · rw [u] at w; cases w
    · rw [u] at w; cases w
    · exact ⟨⟨_, _, _, u⟩, q⟩
  refine ⟨ρ2, h1, ⟨⟨go.fw.fsub, fun a u h no t => go.fw.keep a u h (fun z => no (own_iff.mp z)) t, go.fw.stay, fun a u h => (go.fw.new a u h).imp id (Or.imp id own_iff.mp)⟩,
    ⟨h2.trans e.len, go.env.sub, go.env.tabF, go.env.tabH, fun i => ?_, fun i j a hi hj => e.apart i j a (back i a hi) (back j a hj)⟩, fun a ⟨i, hi⟩ => ⟨i, back i a hi⟩, fun i io lk d hi hq => ?_⟩, fun a ⟨i, ⟨x, y, z, w⟩, q⟩ => ?_⟩
  · rcases h3 i with ⟨_, u⟩ | ⟨x, u1, u⟩ | ⟨d, d', u, u1, u2⟩
    · rw [u]; trivial
    · have s := e.slot i
      rw [u1] at s
      obtain ⟨v, s1, s2⟩ := s
      rw [u]; exact ⟨v, s1, s2.mono go.fw.fsub⟩
    · have s := go.env.slot i
      rw [u1, pin i d u] at s
      rw [u2]; exact s
  · rcases h3 i with ⟨u, _⟩ | ⟨x, u, _⟩ | ⟨d0, d', u, u1, u2⟩
    · rw [u] at hi; cases hi
    · rw [u] at hi; cases hi
    · rw [u] at hi; cases hi
      exact ⟨d', u2, fun z => by cases z⟩
  · rcases h3 i with ⟨u, _⟩ | ⟨_, u, _⟩ | ⟨d0, d', u, u1, u2⟩
    · rw [u] at w; cases w
    · rw [u] at w; cases w
    · exact ⟨i, ⟨_, _, _, u1⟩, by rw [pin i d0 u]; exact q⟩
/-- from what is wanted of a call to what is wanted of its body -/
theorem body_after {C : ExW} {N : List Str} {k : Nat} {m : List Bool} {ds : List D} {E : XK} {Q : VK} {out : Out} {rc : RC} (e : SEnv Z.K Z.T F H ρm (vs.map some)) (hp : parS m ds = some ρm)
    (hrc : rc = match out with
      | .rt v ρ' => match outsOf m ρ' with
        | some o => .ok v o
        | none => .fail
      | .nx ρ' => match outsOf m ρ' with
        | some o => .ok (.shr .none) o
        | none => .fail
      | .exc c ρ' => match outsOf m ρ' with
        | some o => .exc c o
        | none => .fail
      | _ => .fail)
    (q : After Z.K Z.T C (fun cls dd _ H' => E cls dd H') (vs.map some) ρm F H (okV Z H Q) (rc.toR ρm)) :
    AfterS Z.K Z.T C (fun cls dd _ H' => E cls dd H') (L2.start N vs) (ρm ++ List.replicate k .non) F H { nx := fun _ H' => Q .non H', rt := Q } out := by
  subst hrc
  cases out with
  | fail => exact q
  | bk ρ' => exact q.elim
  | ct ρ' => exact q.elim
  | nx ρ' =>
    intro σ' F' H' go
    cases ho : outsOf m ρ' with
    | none => simp only [ho] at q; exact q.elim
    | some o =>
      simp only [ho] at q
      obtain ⟨ρ2, h1, g2, _⟩ := Go.params e hp ho go
      unfold RC.toR at q
      simp only [h1] at q
      exact q F' H' g2 .non .non
  | rt rv ρ' =>
    intro σ' F' H' v go r
    cases ho : outsOf m ρ' with
    | none => simp only [ho] at q; exact q.elim
    | some o =>
      simp only [ho] at q
      obtain ⟨ρ2, h1, g2, ow⟩ := Go.params e hp ho go
      unfold RC.toR at q
      simp only [h1] at q
      refine q F' H' g2 v ?_
      cases rv with
      | shr d => exact r
      | own d =>
        obtain ⟨a, e1, f, t, n0, no, hq⟩ := r
        refine ⟨a, e1, f, t, ?_, hq⟩
        rcases n0 with n0 | n0
        · exact n0
        · exact absurd (ow a (own_iff.mp n0)) no
  | exc c ρ' =>
    intro σ' F' H' cls dd go hc
    cases ho : outsOf m ρ' with
    | none => simp only [ho] at q; exact q.elim
    | some o =>
      simp only [ho] at q
      obtain ⟨ρ2, h1, g2, _⟩ := Go.params e hp ho go
      unfold RC.toR at q
      simp only [h1] at q
      exact q F' H' cls dd g2 hc
end Ev
end
section
set_option Elab.async false
set_option linter.all false
set_option maxRecDepth 100000
/-! The text's defs keep their promises. -/
namespace Ev
open PySem PySem.Spec PyProof.Rows L2
/-- where a def's body stands -/
abbrev staD (B : Sta) (N : List Str) (scope : Scope) (hg : Bool) : Sta := { B with nm := N, sc := scope, st := none, gb := false, hg := hg }
def cAt (defs : List Def) (n : Nat) : Calls := fun f ds => match defs[f]? with
  | some d => runDef (hist defs n) d ds
  | none => .fail
theorem hist_succ (defs : List Def) (n : Nat) : hist defs (n + 1) = cAt defs n :: hist defs n := rfl
theorem hist_len (defs : List Def) : ∀ n, (hist defs n).length = n
  | 0 => rfl
  | n + 1 => by rw [hist_succ, List.length_cons, hist_len defs n]
theorem hist_suf {defs : List Def} {c : Calls} {t : List Calls} : ∀ {n : Nat}, (c :: t) <:+ hist defs n → ∃ j, j < n ∧ c = cAt defs j ∧ t = hist defs j
  | 0, q => by have := q.length_le; rw [hist_len] at this; simp at this
  | n + 1, q => by
    rw [hist_succ, List.suffix_cons_iff] at q
    rcases q with q | q
    · cases q; exact ⟨n, Nat.lt_succ_self n, rfl, rfl⟩
    · obtain ⟨j, h1, h2⟩ := hist_suf q
      exact ⟨j, Nat.lt_succ_of_lt h1, h2⟩
/-- a def of the text, compiled -/
structure DefOk (Z : Fix) (B : Sta) (d : Def) (x : Str) (f : Addr) (fd : FuncData) (ps : List Str) : Prop where
  ok : ∃ (name qual : Str) (params : Arguments) (body : List Stmt) (scope : Scope) (dV kV doc pm cdv ct oc : Value) (an od : Option Addr) (osl : Array (Option Value)) (N : List Str) (fuel : Nat) (hg : Bool),
    fd = PySem.W.fnOf name qual params body scope dV kV doc pm an cdv ct ∧ Z.mg x = some (.ref f) ∧ PySem.W.keepIn Z.K (.ref f) = true ∧ Z.K.lookup f = some ⟨oc, od, .func fd, osl⟩ ∧ PySem.W.codeIn Z.K cdv qual = true ∧ FnScope N ps scope ∧
    Binds Z.K fd ps [] ∧ d.slots = N.length ∧ d.ps.length = ps.length ∧ cSs fuel (staD B N scope hg) body = some d.body ∧ (hg = true → ∃ c P, cdv = .ref c ∧ GxR.TabB Z.base Z.mg c P ∧ P ∈ Z.T)
theorem def_fn {Z : Fix} {B : Sta} {defs : List Def} {n : Nat} (hn : Named Z B) (ih : ∀ j, j < n → FnGood Z B (cAt defs j) (2 * (j + 1))) {d : Def} {x : Str} {f : Addr} {fd : FuncData} {ps : List Str} (ok : DefOk Z B d x f fd ps) :
    Z.mg x = some (.ref f) ∧ PySem.W.keepIn Z.K (.ref f) = true ∧ Binds Z.K fd ps [] ∧ FnOk Z.P Z.w Z.K Z.mg Z.base (CX Z.P Z.w) (2 * (n + 1)) f fd ps (SpOf Z d.ps (runDef (hist defs n) d)) := by
  obtain ⟨name, qual, params, body, scope, dV, kV, doc, pm, cdv, ct, oc, an, od, osl, N, fuel, hg, rfl, h1, h2, h3, h4, h5, h6, h7, h8, h9, h10⟩ := ok.ok
  have hlen : ∀ vs H Q E, SpOf Z d.ps (runDef (hist defs n) d) vs H Q E → vs.length = ps.length := fun vs H Q E ⟨F, ds, ρ, p1, p2, _⟩ => by
    have := p2.len
    rw [(parS_len p1).1, List.length_map] at this
    omega
  refine ⟨h1, h2, h6, fn_of (k := 2 * n + 1) h3 h4 h5 hlen fun A outer s H vs Q E hr hsp => ⟨_, pss_w, ?_⟩⟩
  have hl := hlen vs H Q E hsp
  obtain ⟨F, ds, ρm, p1, p2, p3⟩ := hsp
  have at_ : At Z (staD B N scope hg) (hist defs n) (fun cls dd _ H' => E cls dd H') (cxOf (CX Z.P Z.w) Z.P Z.w Z.K Z.mg Z.base N qual scope f cdv A outer s H E) := {
    prog := rfl
    w := rfl
    K := rfl
    mg := rfl
    base := rfl
    nm := rfl
    sc := rfl
    nd := h5.nd
    room := by rw [hist_len]; exact hr
    calm := rfl
    takes := takes_of rfl rfl rfl rfl
    owns := passes_of (K := fun e s'' => CX Z.P Z.w outer H s E e s'') rfl
    st := fun i y _ _ => .inl rfl
    fns := fun c t e => by
      obtain ⟨j, j1, rfl, rfl⟩ := hist_suf e
      rw [hist_len]
      exact ⟨(ih j j1).fn⟩
    named := ⟨hn.cs, hn.bl⟩
    code := fun q _ => h10 q }
  have hN : N.length = ps.length + (N.length - ps.length) := by
    have := congrArg List.length h5.pre
    rw [List.length_take] at this
    omega
  have hk : d.slots - d.ps.length = N.length - ps.length := by rw [h7, h8]
  have hst : ρm.length + (d.slots - d.ps.length) = (L2.start N vs).length := by
    unfold L2.start
    rw [List.length_append, List.length_map, List.length_replicate, (parS_len p1).1, hk]
    omega
  refine (ss_all Z fuel).2 _ _ _ h9 _ _ _ at_ (L2.start N vs) (ρm ++ List.replicate (d.slots - d.ps.length) .non) F H _ (env_start p2 hst) ?_
  refine body_after (rc := runDef (hist defs n) d ds) p2 p1 ?_ p3
  unfold runDef
  simp only [p1]
  all_goals cases evSs (hist defs n) d.body (ρm ++ List.replicate (d.slots - d.ps.length) .non) <;> rfl
/-- all of them -/
theorem fns_good {Z : Fix} {B : Sta} {defs : List Def} (hn : Named Z B) (hd : ∀ x k m, B.fn.lookup x = some (k, m) → ∃ d f fd ps, defs[k]? = some d ∧ d.ps = m ∧ DefOk Z B d x f fd ps) : ∀ n, FnGood Z B (cAt defs n) (2 * (n + 1)) := by
  intro n
  induction n using Nat.strongRecOn with
  | ind n ih =>
    refine ⟨fun x k m hx => ?_⟩
    obtain ⟨d, f, fd, ps, d1, d2, d3⟩ := hd x k m hx
    obtain ⟨q1, q2, q3, q4⟩ := def_fn hn ih d3
    refine ⟨f, fd, ps, q1, q2, q3, ?_⟩
    have e : cAt defs n k = runDef (hist defs n) d := by funext ds; unfold cAt; rw [d1]
    rw [e, ← d2]
    exact q4
end Ev
end
section
set_option Elab.async false
set_option linter.all false
set_option maxRecDepth 100000
/-! The law: from the evaluator's word to what the head asks. -/
namespace Ev
open PySem PySem.Spec PyProof.Rows L2
/-- the law's own list, told to the evaluator -/
def scrOf (ns : List Int) : D := scrD (ns.map .int)
theorem rpa_ints {K : PySem.W.Frag} {F : Hp} : ∀ ns : List Int, RpA K F (ns.map V.int) (ns.map PyData.int)
  | [] => .nil
  | n :: ns => .cons (.int n) (rpa_ints ns)
/-- the law's def, asked at a list of ints -/
theorem law_sp {Z : Fix} {call : List D → RC} {H : Hp} {a : Addr} {ns : List Int} (hT : ∀ P ∈ Z.T, H P = some (.tbl #[])) (hS : SqL Z.K H a (ns.map V.int)) (hc : call [scrOf ns] = .ok (.shr (.bool true)) []) :
    SpOf Z [false] call [.ref a] H (fun v _ => v = .bl true) fun _ _ _ => False := by
  have fin : ∀ F : Hp, SEnv Z.K Z.T F H [.shr (scrOf ns)] ([V.ref a].map some) → SpOf Z [false] call [.ref a] H (fun v _ => v = .bl true) fun _ _ _ => False := fun F e => by
    refine ⟨F, [scrOf ns], [.shr (scrOf ns)], rfl, e, ?_⟩
    rw [hc]
    intro F' H' go v r
    have r' : Rp Z.K F' v (.bool true) := r
    cases r'
    rfl
  have env : ∀ F : Hp, Same F H → (∀ P ∈ Z.T, F P = none) → SqL Z.K F a (ns.map V.int) → SEnv Z.K Z.T F H [.shr (scrOf ns)] ([V.ref a].map some) := fun F s t q =>
    ⟨rfl, s, t, fun P hP => ⟨#[], hT P hP, trivial⟩, fun i => by
      cases i with
      | zero => exact ⟨.ref a, rfl, .scr q (rpa_ints ns)⟩
      | succ i => trivial, fun i j b ⟨⟨x, y, z, w⟩, _⟩ _ => by
      cases i with
      | zero => cases w
      | succ i => cases w⟩
  rcases hS with hS | hS
  · have ne : ∀ P ∈ Z.T, P ≠ a := fun P hP z => by
      have := hT P hP
      rw [z] at this
      rcases hS with hS | ⟨o, hS⟩ <;> (rw [hS] at this; cases this)
    refine fin (fun b => if b = a then H a else none) (env _ (fun b u z => ?_) (fun P hP => if_neg (ne P hP)) (.inl ?_))
    · by_cases hb : b = a
      · rw [if_pos hb] at z; rw [hb]; exact z
      · rw [if_neg hb] at z; cases z
    · rcases hS with hS | ⟨o, hS⟩
      · exact .inl ((if_pos rfl).trans hS)
      · exact .inr ⟨o, (if_pos rfl).trans hS⟩
  · exact fin (fun _ => none) (env _ (fun b u z => by cases z) (fun _ _ => rfl) (.inr hS))
/-- one def: its row, its slots' names, its parameters, which of them are handed in to be changed, whether it has generator expressions -/
structure Src where
  x : Str
  st : Stmt
  N : List Str
  ps : List Str
  m : List Bool
  tab : Bool := false
def Src.dd (s : Src) : He.DefD := ⟨(s.x, none), s.x, s.x, defArgs s.st, defBody s.st, defScope s.st, [], []⟩
def fuelC : Nat := 64
def Src.d (B : Sta) (s : Src) : Def := ⟨s.N.length, s.m, (cSs fuelC (staD B s.N (defScope s.st) s.tab) (defBody s.st)).getD .nil⟩
/-- the table of defs -/
def fnT (l : List Src) : List (Str × Nat × List Bool) := l.zipIdx.map fun p => (p.1.x, p.2, p.1.m)
/-- what the text's names mean -/
def staB (l : List Src) (cs : List (Str × D)) (bl : List Str) : Sta := { nm := [], sc := defScope (.Pass ⟨0, 0, 0, 0⟩), st := none, gb := false, hg := false, fn := fnT l, cs := cs, bl := bl }
theorem lookup_zip {α β : Type} {f : Nat → α → Str × β} {x : Str} {v : β} : ∀ {l : List α} {n : Nat}, ((l.zipIdx n).map fun p => f p.2 p.1).lookup x = some v → ∃ i a, l[i]? = some a ∧ f (n + i) a = (x, v)
  | [], n, h => by cases h
  | a :: l, n, h => by
    rw [List.zipIdx_cons, List.map_cons] at h
    rw [show (f n a :: (l.zipIdx (n + 1)).map fun p => f p.2 p.1) = ((f n a).1, (f n a).2) :: (l.zipIdx (n + 1)).map fun p => f p.2 p.1 from rfl, List.lookup_cons] at h
    cases q : (x == (f n a).1) with
    | true =>
      rw [q] at h
      cases h
      exact ⟨0, a, rfl, by rw [eq_of_beq q]; rfl⟩
    | false =>
      rw [q] at h
      obtain ⟨i, b, h1, h2⟩ := lookup_zip h
      exact ⟨i + 1, b, h1, by rw [show n + (i + 1) = n + 1 + i by omega]; exact h2⟩
theorem fnT_some {l : List Src} {x : Str} {k : Nat} {m : List Bool} (h : (fnT l).lookup x = some (k, m)) : ∃ s, l[k]? = some s ∧ s.x = x ∧ s.m = m := by
  obtain ⟨i, a, h1, h2⟩ := lookup_zip (f := fun k (s : Src) => (s.x, k, s.m)) (n := 0) h
  cases h2
  exact ⟨a, by rw [Nat.zero_add]; exact h1, rfl, rfl⟩
structure SrcOk (B : Sta) (s : Src) : Prop where
  sc : FnScope s.N s.ps (defScope s.st)
  len : s.m.length = s.ps.length
  bind : ∀ (kV doc pm : Value) (an : Option Addr) (cdv ct : Value) (us : List Value), us.length = s.ps.length → bindArgs (PySem.W.fnOf s.x s.x (defArgs s.st) (defBody s.st) (defScope s.st) .none kV doc pm an cdv ct) ⟨us, []⟩ = pure (s.ps.zip us)
  comp : (cSs fuelC (staD B s.N (defScope s.st) s.tab) (defBody s.st)).isSome = true
/-- the facts that the head is asked for -/
def factsOf (l : List Src) (ci : List (Str × Int)) (bl : List Str) : List He.Fa := l.map (fun s => .glo s.x) ++ (bl.map .free ++ ci.map fun p => .int p.1 p.2)
def tabsOf (l : List Src) : List He.Defn := (l.filter (·.tab)).map fun s => (s.x, none)
def constOf (ci : List (Str × Int)) : List (Str × D) := ci.map fun p => (p.1, .int p.2)
theorem const_some {ci : List (Str × Int)} {x : Str} {d : D} (h : (constOf ci).lookup x = some d) : ∃ i, (x, i) ∈ ci ∧ d = .int i := by
  induction ci with
  | nil => cases h
  | cons p ci ih =>
    rw [constOf, List.map_cons, List.lookup_cons] at h
    cases q : (x == p.1) with
    | true => rw [q] at h; cases h; exact ⟨p.2, by rw [eq_of_beq q]; exact List.mem_cons_self, rfl⟩
    | false =>
      rw [q] at h
      obtain ⟨i, h1, h2⟩ := ih h
      exact ⟨i, List.mem_cons_of_mem _ h1, h2⟩
theorem src_fun {l : List Src} {ci : List (Str × Int)} {bl : List Str} {w : World} {h : Heap} {K : PySem.W.Frag} (c : He.SaysX (factsOf l ci bl) (l.map Src.dd) [] (tabsOf l) (fun _ => true) w h K) {s : Src} (hs : s ∈ l) :
    ∃ fd, FunD K s.x s.x (defArgs s.st) (defBody s.st) (defScope s.st) [] [] (He.ga K s.x) fd := c.t.d.defs (d := s.dd) (List.mem_map.mpr ⟨s, hs, rfl⟩)
theorem src_ok {l : List Src} {ci : List (Str × Int)} {bl : List Str} {w : World} {h base : Heap} {K : PySem.W.Frag} {P : Program} {mg : Str → Option Value} {B : Sta} (X : K.In h) (G : h.Ns mainGlobals mg) (c : He.SaysX (factsOf l ci bl) (l.map Src.dd) [] (tabsOf l) (fun _ => true) w h K)
    (TB : ∀ p ∈ (tabsOf l).map (He.cT K), LamX.TabB base mg p.1 p.2) {s : Src} (hs : s ∈ l) (ok : SrcOk B s) {fd : FuncData} (F : FunD K s.x s.x (defArgs s.st) (defBody s.st) (defScope s.st) [] [] (He.ga K s.x) fd) :
    DefOk ⟨P, w, K, mg, base, ((tabsOf l).map (He.cT K)).map (·.2)⟩ B (s.d B) s.x (He.ga K s.x) fd s.ps := by
  have hb := F.bindsN (ps := s.ps) ok.bind
  obtain ⟨oc, od, dV, kV, doc, pm, an, cdv, ct, osl, rfl, lk, hcd, hD, hK⟩ := F.ex
  have hglo : mg s.x = some (.ref (He.ga K s.x)) := He.glo_ok X G (c.t.d.facts (f := .glo s.x) (List.mem_append_left _ (List.mem_map.mpr ⟨s, hs, rfl⟩)))
  have hcomp : cSs fuelC (staD B s.N (defScope s.st) s.tab) (defBody s.st) = some (s.d B).body := by
    have := ok.comp
    show _ = some (Option.getD _ _)
    cases q : cSs fuelC (staD B s.N (defScope s.st) s.tab) (defBody s.st) with
    | none => rw [q] at this; cases this
    | some y => rfl
  refine ⟨s.x, s.x, defArgs s.st, defBody s.st, defScope s.st, dV, kV, doc, pm, cdv, ct, oc, an, od, osl, s.N, fuelC, s.tab, rfl, hglo, F.kp, lk, hcd, ok.sc, hb, rfl, ok.len, hcomp, fun ht => ?_⟩
  have hm : ((s.x, none) : He.Defn) ∈ tabsOf l := List.mem_map.mpr ⟨s, List.mem_filter.mpr ⟨hs, ht⟩, rfl⟩
  have hm2 : He.cT K (s.x, none) ∈ (tabsOf l).map (He.cT K) := List.mem_map.mpr ⟨_, hm, rfl⟩
  obtain ⟨cc, rfl⟩ := He.codeIn_ref hcd
  have e : He.codeOf K (s.x, none) = cc := He.codeOf_eq (p := (s.x, none)) lk rfl
  obtain ⟨t1, t2, t3⟩ := TB _ hm2
  refine ⟨cc, (He.cT K (s.x, none)).2, rfl, ⟨?_, t2, t3⟩, List.mem_map.mpr ⟨_, hm2, rfl⟩⟩
  have t1 : PySem.W.CodeHd base (He.codeOf K (s.x, none)) (He.cT K (s.x, none)).2 := t1
  rw [e] at t1
  exact t1
theorem src_named {l : List Src} {ci : List (Str × Int)} {bl : List Str} {w : World} {h base : Heap} {K : PySem.W.Frag} {P : Program} {mg : Str → Option Value} {T : List Addr} (X : K.In h) (G : h.Ns mainGlobals mg) (c : He.SaysX (factsOf l ci bl) (l.map Src.dd) [] (tabsOf l) (fun _ => true) w h K) :
    Named ⟨P, w, K, mg, base, T⟩ (staB l (constOf ci) bl) := by
  refine ⟨fun x d hx => ?_, fun x hx => ?_⟩
  · obtain ⟨i, h1, rfl⟩ := const_some hx
    obtain ⟨t, ht⟩ := He.int_ok X G (c.t.d.facts (f := .int x i) (List.mem_append_right _ (List.mem_append_right _ (List.mem_map.mpr ⟨_, h1, rfl⟩))))
    exact ⟨_, .int i, ht, ⟨t, rfl⟩, fun F => .int i⟩
  · exact He.free_ok X G (c.t.d.facts (f := .free x) (List.mem_append_right _ (List.mem_append_left _ (List.mem_map.mpr ⟨x, hx, rfl⟩))))
/-- THE LAW: what the head asks, from the evaluator's word -/
theorem law_at {lw : PySem.W.OpenLaw} {w : World} {K : PySem.W.Frag} {mg : Str → Option Value} {fa : Addr} {h : Heap} {l : List Src} {ci : List (Str × Int)} {bl : List Str} {n j : Nat} {sl : Src} (X : K.In h) (G : h.Ns mainGlobals mg) (hmg : mg ("law" : Str) = some (.ref fa))
    (c : He.SaysX (factsOf l ci bl) (l.map Src.dd) [] (tabsOf l) (fun _ => true) w h K) (ok : ∀ s ∈ l, SrcOk (staB l (constOf ci) bl) s) (hj : l[j]? = some sl) (hx : sl.x = "law") (hps : sl.ps = [("script" : Str)]) (hm : sl.m = [false])
    (run : ∀ ns : List Int, ns.length ≤ 63 → (∀ z ∈ ns, Builtin.Int.intBits z ≤ 1048576) → callN (l.map (Src.d (staB l (constOf ci) bl))) (n + 1) j [scrOf ns] = .ok (.shr (.bool true)) []) :
    LamX.LawAtS lw w K (CX lw.prog w) (2 * (n + 1)) 63 "script" mg fa h := by
  have hs : sl ∈ l := List.mem_of_getElem? hj
  obtain ⟨fd, F⟩ := src_fun c hs
  have hfa : fa = He.ga K sl.x := by
    have e := He.glo_ok X G (c.t.d.facts (f := .glo sl.x) (List.mem_append_left _ (List.mem_map.mpr ⟨sl, hs, rfl⟩)))
    rw [hx] at e ⊢
    rw [hmg] at e
    cases e; rfl
  subst hfa
  have tabs : ∀ p ∈ (tabsOf l).map (He.cT K), ∃ q ∈ tabsOf l, p = He.cT K q := fun p hp => by
    obtain ⟨q, h1, rfl⟩ := List.mem_map.mp hp
    exact ⟨q, h1, rfl⟩
  refine ⟨fd, (tabsOf l).map (He.cT K), SpOf ⟨lw.prog, w, K, mg, h, ((tabsOf l).map (He.cT K)).map (·.2)⟩ [false] (runDef (hist (l.map (Src.d (staB l (constOf ci) bl))) n) (sl.d (staB l (constOf ci) bl))), fun p hp => ?_, fun p hp => ?_, fun p hp => ?_, fun s u => ?_, fun H a ns h1 h2 hT hS => ?_, fun base KB GB TB => ?_⟩
  · obtain ⟨q, hq, rfl⟩ := tabs p hp; exact c.empty q hq
  · obtain ⟨q, hq, rfl⟩ := tabs p hp; exact c.out q hq
  · obtain ⟨q, hq, rfl⟩ := tabs p hp; exact PySem.W.codeHd_of_K X (c.hd q hq)
  · have b := FunD.bindsA (ps := sl.ps) F (ok sl hs).bind s [u] (by rw [hps]; rfl)
    rw [hps] at b
    exact b
  · refine law_sp (fun P hP => ?_) hS ?_
    · obtain ⟨p, hp, rfl⟩ := List.mem_map.mp hP
      exact hT p hp
    · have := run ns h1 h2
      unfold callN at this
      rw [hist_succ] at this
      have e : cAt (l.map (Src.d (staB l (constOf ci) bl))) n j [scrOf ns] = runDef (hist (l.map (Src.d (staB l (constOf ci) bl))) n) (sl.d (staB l (constOf ci) bl)) [scrOf ns] := by
        unfold cAt
        rw [List.getElem?_map, hj]
        rfl
      rw [← e]
      exact this
  · have hn := src_named (P := lw.prog) (base := base) (T := ((tabsOf l).map (He.cT K)).map (·.2)) X G c
    have hd : ∀ x k m, (staB l (constOf ci) bl).fn.lookup x = some (k, m) → ∃ d f fd ps, (l.map (Src.d (staB l (constOf ci) bl)))[k]? = some d ∧ d.ps = m ∧ DefOk ⟨lw.prog, w, K, mg, base, ((tabsOf l).map (He.cT K)).map (·.2)⟩ (staB l (constOf ci) bl) d x f fd ps := fun x k m hxk => by
      obtain ⟨s, s1, rfl, s3⟩ := fnT_some hxk
      have hs' : s ∈ l := List.mem_of_getElem? s1
      obtain ⟨fd', F'⟩ := src_fun c hs'
      exact ⟨s.d _, _, fd', s.ps, by rw [List.getElem?_map, s1]; rfl, s3, src_ok X G c TB hs' (ok s hs') F'⟩
    have q := (def_fn hn (fun j _ => fns_good hn hd j) (src_ok (P := lw.prog) X G c TB hs (ok sl hs) F) (n := n)).2.2.2
    have e : (sl.d (staB l (constOf ci) bl)).ps = [false] := hm
    rw [e, hps] at q
    exact q
end Ev
end
section
set_option linter.all false
/-! Plain mathematics: holding together, by labels and by going on from a node. -/
namespace M
abbrev Edges := List (Nat × Nat)
def Adj (es : Edges) (a b : Nat) : Prop := (a, b) ∈ es ∨ (b, a) ∈ es
inductive Con (es : Edges) (a : Nat) : Nat → Prop
  | refl : Con es a a
  | tail {b c : Nat} : Con es a b → Adj es b c → Con es a c
theorem Adj.symm {es : Edges} {a b : Nat} (h : Adj es a b) : Adj es b a := h.elim .inr .inl
theorem Con.trans {es : Edges} {a b c : Nat} (h : Con es a b) (k : Con es b c) : Con es a c := by
  induction k with
  | refl => exact h
  | tail _ e ih => exact ih.tail e
theorem Con.one {es : Edges} {a b : Nat} (h : Adj es a b) : Con es a b := Con.refl.tail h
theorem Con.symm {es : Edges} {a b : Nat} (h : Con es a b) : Con es b a := by
  induction h with
  | refl => exact .refl
  | tail _ e ih => exact (Con.one e.symm).trans ih
theorem Con.mono {es fs : Edges} (hs : ∀ p ∈ es, p ∈ fs) {a b : Nat} (h : Con es a b) : Con fs a b := by
  induction h with
  | refl => exact .refl
  | tail _ e ih => exact ih.tail (e.elim (fun q => .inl (hs _ q)) fun q => .inr (hs _ q))
theorem con_nil {a b : Nat} : Con [] a b ↔ a = b := by
  constructor
  · intro h; cases h with
    | refl => rfl
    | tail _ e => rcases e with e | e <;> simp at e
  · rintro rfl; exact .refl
/-- one more line -/
theorem con_snoc {es : Edges} {p : Nat × Nat} {a b : Nat} : Con (es ++ [p]) a b ↔ Con es a b ∨ (Con es a p.1 ∧ Con es p.2 b) ∨ (Con es a p.2 ∧ Con es p.1 b) := by
  have hm : ∀ q ∈ es, q ∈ es ++ [p] := fun q hq => by simp [hq]
  have ep : Con (es ++ [p]) p.1 p.2 := .one (.inl (by simp))
  constructor
  · intro h
    induction h with
    | refl => exact .inl .refl
    | @tail c d _ e ih =>
      have ed : Adj es c d ∨ (c = p.1 ∧ d = p.2) ∨ (c = p.2 ∧ d = p.1) := by
        rcases e with e | e
        · rcases List.mem_append.1 e with e | e
          · exact .inl (.inl e)
          · have := List.mem_singleton.1 e; subst this; exact .inr (.inl ⟨rfl, rfl⟩)
        · rcases List.mem_append.1 e with e | e
          · exact .inl (.inr e)
          · have := List.mem_singleton.1 e; subst this; exact .inr (.inr ⟨rfl, rfl⟩)
      rcases ed with ed | ⟨rfl, rfl⟩ | ⟨rfl, rfl⟩
      · rcases ih with ih | ⟨i, j⟩ | ⟨i, j⟩
        · exact .inl (ih.tail ed)
        · exact .inr (.inl ⟨i, j.tail ed⟩)
        · exact .inr (.inr ⟨i, j.tail ed⟩)
      · rcases ih with ih | ⟨i, j⟩ | ⟨i, j⟩
        · exact .inr (.inl ⟨ih, .refl⟩)
        · exact .inr (.inl ⟨i, .refl⟩)
        · exact .inl i
      · rcases ih with ih | ⟨i, j⟩ | ⟨i, j⟩
        · exact .inr (.inr ⟨ih, .refl⟩)
        · exact .inl i
        · exact .inr (.inr ⟨i, .refl⟩)
  · rintro (h | ⟨h, k⟩ | ⟨h, k⟩)
    · exact h.mono hm
    · exact (h.mono hm).trans (ep.trans (k.mono hm))
    · exact (h.mono hm).trans (ep.symm.trans (k.mono hm))
/-! ### labels -/
def labF1 (lab : Nat → Nat) (p : Nat × Nat) (a : Nat) : Nat := if lab a = lab p.1 ∨ lab a = lab p.2 then min (lab p.1) (lab p.2) else lab a
def labF (es : Edges) : Nat → Nat := es.foldl labF1 id
theorem labF_snoc (es : Edges) (p : Nat × Nat) : labF (es ++ [p]) = labF1 (labF es) p := by simp [labF]
theorem snoc_ind {α : Type} {P : List α → Prop} (h0 : P []) (h1 : ∀ xs x, P xs → P (xs ++ [x])) (xs : List α) : P xs := by
  have : ∀ ys : List α, P ys.reverse := by
    intro ys
    induction ys with
    | nil => exact h0
    | cons y ys ih => rw [List.reverse_cons]; exact h1 _ _ ih
  simpa using this xs.reverse
theorem lab_ok (es : Edges) : (∀ a b, labF es a = labF es b ↔ Con es a b) ∧ (∀ a, labF es a ≤ a) ∧ ∀ a, labF es (labF es a) = labF es a := by
  induction es using snoc_ind with
  | h0 => exact ⟨fun a b => by rw [con_nil]; rfl, fun a => Nat.le_refl _, fun a => rfl⟩
  | h1 es p ih =>
    obtain ⟨h1, h2, h3⟩ := ih
    rw [labF_snoc]
    generalize hl : labF es = lab at *
    refine ⟨?_, ?_, ?_⟩
    · intro a b
      rw [con_snoc, ← h1, ← h1, ← h1, ← h1, ← h1]
      simp only [labF1]
      have hmin : min (lab p.1) (lab p.2) = lab p.1 ∨ min (lab p.1) (lab p.2) = lab p.2 := by omega
      generalize min (lab p.1) (lab p.2) = m at *
      generalize lab p.1 = x at *
      generalize lab p.2 = y at *
      generalize lab a = s at *
      generalize lab b = t at *
      split <;> split <;> omega
    · intro a
      have := h2 a
      simp only [labF1]; simp only [Nat.min_def]; split <;> (try split) <;> omega
    · intro a
      have e1 := h3 p.1
      have e2 := h3 p.2
      have e3 := h3 a
      simp only [labF1, Nat.min_def]
      split
      · split
        · rw [if_pos (.inl e1)]
        · rw [if_pos (.inr e2)]
      · rename_i q
        rw [e3, if_neg q]
/-! ### going on from a node -/
def addN (av : List Nat) (f : List Nat) (h t : Nat) : List Nat := if h ∈ f ∧ t ∉ f ∧ t ∉ av then f ++ [t] else f
def goOn (av : List Nat) (f : List Nat) (p : Nat × Nat) : List Nat := addN av (addN av f p.1 p.2) p.2 p.1
def round (es : Edges) (av : List Nat) (f : List Nat) : List Nat := es.foldl (goOn av) f
def rounds (es : Edges) (av : List Nat) (v : Nat) : Nat → List Nat
  | 0 => [v]
  | n + 1 => round es av (rounds es av v n)
/-- reached without coming to some nodes -/
inductive Rch (es : Edges) (av : List Nat) (a : Nat) : Nat → Prop
  | refl : Rch es av a a
  | tail {b c : Nat} : Rch es av a b → Adj es b c → c ∉ av → Rch es av a c
theorem addN_pre (av f : List Nat) (h t : Nat) : f <+: addN av f h t := by
  rw [addN]; split
  · exact List.prefix_append _ _
  · exact List.prefix_refl _
theorem goOn_pre (av f : List Nat) (p : Nat × Nat) : f <+: goOn av f p := (addN_pre av f p.1 p.2).trans (addN_pre _ _ _ _)
theorem round_pre (es : Edges) (av f : List Nat) : f <+: round es av f := by
  rw [round]
  induction es generalizing f with
  | nil => exact List.prefix_refl _
  | cons p es ih => exact (goOn_pre av f p).trans (ih _)
theorem addN_nodup {av f : List Nat} {h t : Nat} (hf : f.Nodup) : (addN av f h t).Nodup := by
  rw [addN]; split
  · rename_i q; exact List.nodup_append.2 ⟨hf, by simp, by intro a ha b hb; simp at hb; subst hb; rintro rfl; exact q.2.1 ha⟩
  · exact hf
theorem round_nodup {es : Edges} {av f : List Nat} (hf : f.Nodup) : (round es av f).Nodup := by
  rw [round]
  induction es generalizing f with
  | nil => exact hf
  | cons p es ih => exact ih (addN_nodup (addN_nodup hf))
theorem round_sound {es : Edges} {av : List Nat} {v : Nat} (es' : Edges) (hs : ∀ p ∈ es', p ∈ es) {f : List Nat} (hf : ∀ w ∈ f, Rch es av v w) : ∀ w ∈ round es' av f, Rch es av v w := by
  rw [round]
  induction es' generalizing f with
  | nil => exact hf
  | cons p es' ih =>
    have hp := hs p (by simp)
    have one : ∀ {f : List Nat} {h t : Nat}, (∀ w ∈ f, Rch es av v w) → Adj es h t → ∀ w ∈ addN av f h t, Rch es av v w := by
      intro f h t hf ha w hw
      rw [addN] at hw
      split at hw
      · rename_i q
        rcases List.mem_append.1 hw with hw | hw
        · exact hf w hw
        · rw [List.mem_singleton.1 hw]; exact (hf h q.1).tail ha q.2.2
      · exact hf w hw
    exact ih (fun q hq => hs q (by simp [hq])) (one (one hf (.inl hp)) (.inr hp))
/-- a round that adds nothing: closed -/
theorem round_closed {es : Edges} {av f : List Nat} (h : round es av f = f) : ∀ b c, b ∈ f → Adj es b c → c ∉ av → c ∈ f := by
  have key : ∀ (es : Edges) (f : List Nat), round es av f = f → ∀ p ∈ es, (p.1 ∈ f → p.2 ∉ av → p.2 ∈ f) ∧ (p.2 ∈ f → p.1 ∉ av → p.1 ∈ f) := by
    intro es
    induction es with
    | nil => simp
    | cons q es ih =>
      intro f h p hp
      have h0 : round es av (goOn av f q) = f := h
      have h1 : goOn av f q = f := by
        have a := goOn_pre av f q
        have b := round_pre es av (goOn av f q)
        rw [h0] at b
        exact (b.eq_of_length_le a.length_le)
      have h2 : addN av f q.1 q.2 = f := by
        have a := addN_pre av f q.1 q.2
        have b := addN_pre av (addN av f q.1 q.2) q.2 q.1
        rw [show addN av (addN av f q.1 q.2) q.2 q.1 = f from h1] at b
        exact b.eq_of_length_le a.length_le
      rcases List.mem_cons.1 hp with rfl | hp
      · constructor
        · intro a b
          by_cases c : p.2 ∈ f
          · exact c
          · rw [addN, if_pos ⟨a, c, b⟩] at h2
            simpa using congrArg List.length h2
        · intro a b
          by_cases c : p.1 ∈ f
          · exact c
          · have h3 : addN av f p.2 p.1 = f := by
              have := h1; rw [goOn, h2] at this; exact this
            rw [addN, if_pos ⟨a, c, b⟩] at h3
            simpa using congrArg List.length h3
      · rw [h1] at h0; exact ih f h0 p hp
  intro b c hb ha hc
  rcases ha with ha | ha
  · exact (key es f h _ ha).1 hb hc
  · exact (key es f h _ ha).2 hb hc
theorem nodup_bound {f : List Nat} {n : Nat} (hd : f.Nodup) (hb : ∀ w ∈ f, w < n) : f.length ≤ n := by
  induction n generalizing f with
  | zero =>
    cases f with
    | nil => simp
    | cons x xs => exact absurd (hb x (by simp)) (by omega)
  | succ n ih =>
    have h1 := ih (hd.erase n) (fun w hw => by
      have a := hb w (List.mem_of_mem_erase hw)
      have b : w ≠ n := by rintro rfl; exact hd.not_mem_erase hw
      omega)
    have h2 : f.length ≤ (f.erase n).length + 1 := by rw [List.length_erase]; split <;> omega
    omega
theorem rounds_all {es : Edges} {av : List Nat} {n v : Nat} (hv : v < n) (hn : ∀ p ∈ es, p.1 < n ∧ p.2 < n) :
    (rounds es av v n).Nodup ∧ (∀ w ∈ rounds es av v n, w < n) ∧ ∀ w, w ∈ rounds es av v n ↔ Rch es av v w := by
  have hlt : ∀ w, Rch es av v w → w < n := by
    intro w h
    induction h with
    | refl => exact hv
    | tail _ e _ _ => rcases e with e | e
                      · exact (hn _ e).2
                      · exact (hn _ e).1
  have hs : ∀ k, ∀ w ∈ rounds es av v k, Rch es av v w := by
    intro k
    induction k with
    | zero => intro w hw; rw [List.mem_singleton.1 hw]; exact .refl
    | succ k ih => exact round_sound es (fun _ h => h) ih
  have hnd : ∀ k, (rounds es av v k).Nodup := by
    intro k
    induction k with
    | zero => simp [rounds]
    | succ k ih => exact round_nodup ih
  have hgrow : ∀ k, (∃ j, j < k ∧ rounds es av v (j + 1) = rounds es av v j) ∨ k + 1 ≤ (rounds es av v k).length := by
    intro k
    induction k with
    | zero => exact .inr (by simp [rounds])
    | succ k ih =>
      rcases ih with ⟨j, hj, e⟩ | ih
      · exact .inl ⟨j, by omega, e⟩
      · by_cases q : rounds es av v (k + 1) = rounds es av v k
        · exact .inl ⟨k, by omega, q⟩
        · right
          have a := round_pre es av (rounds es av v k)
          have b : (rounds es av v k).length ≠ (rounds es av v (k + 1)).length := fun e => q (a.eq_of_length e).symm
          have c := a.length_le
          have d : (round es av (rounds es av v k)).length = (rounds es av v (k + 1)).length := rfl
          omega
  have hst : ∃ j, j < n ∧ rounds es av v (j + 1) = rounds es av v j := by
    rcases hgrow n with h | h
    · exact h
    · have := nodup_bound (hnd n) fun w hw => hlt w (hs n w hw)
      omega
  obtain ⟨j, hj, e⟩ := hst
  have hcl : ∀ i, rounds es av v (j + i) = rounds es av v j := by
    intro i
    induction i with
    | zero => rfl
    | succ i ih =>
      show round es av (rounds es av v (j + i)) = _
      rw [ih]; exact e
  have hn2 : rounds es av v n = rounds es av v j := by
    have := hcl (n - j); rwa [show j + (n - j) = n by omega] at this
  have hpre : ∀ k, v ∈ rounds es av v k := by
    intro k
    induction k with
    | zero => simp [rounds]
    | succ k ih => exact (round_pre es av (rounds es av v k)).subset ih
  refine ⟨hnd n, fun w hw => hlt w (hs n w hw), fun w => ⟨hs n w, ?_⟩⟩
  intro h
  induction h with
  | refl => exact hpre n
  | tail _ e1 e2 ih =>
    rw [hn2] at *
    exact round_closed e _ _ ih e1 e2
theorem rch_con {es : Edges} {a b : Nat} : Rch es [] a b ↔ Con es a b := by
  constructor
  · intro h; induction h with
    | refl => exact .refl
    | tail _ e _ ih => exact ih.tail e
  · intro h; induction h with
    | refl => exact .refl
    | tail _ e ih => exact ih.tail e (by simp)
/-- the lines that are not at a node -/
def off (es : Edges) (u : Nat) : Edges := es.filter fun p => !(decide (p.1 = u) || decide (p.2 = u))
theorem mem_off {es : Edges} {u : Nat} {p : Nat × Nat} : p ∈ off es u ↔ p ∈ es ∧ p.1 ≠ u ∧ p.2 ≠ u := by simp [off]
theorem adj_off {es : Edges} {u a b : Nat} : Adj (off es u) a b ↔ Adj es a b ∧ a ≠ u ∧ b ≠ u := by
  simp only [Adj, mem_off]
  constructor
  · rintro (⟨a, b, c⟩ | ⟨a, b, c⟩)
    · exact ⟨.inl a, b, c⟩
    · exact ⟨.inr a, c, b⟩
  · rintro ⟨a | a, b, c⟩
    · exact .inl ⟨a, b, c⟩
    · exact .inr ⟨a, c, b⟩
theorem rch_off {es : Edges} {u a b : Nat} (ha : a ≠ u) : Rch es [u] a b ↔ Con (off es u) a b := by
  constructor
  · intro h
    have : Con (off es u) a b ∧ b ≠ u := by
      induction h with
      | refl => exact ⟨.refl, ha⟩
      | tail _ e f ih =>
        have f' := by simpa using f
        exact ⟨ih.1.tail (adj_off.2 ⟨e, ih.2, f'⟩), f'⟩
    exact this.1
  · intro h; induction h with
    | refl => exact .refl
    | tail _ e ih => have := adj_off.1 e; exact ih.tail this.1 (by simpa using this.2.2)
/-- who holds together with a node, and is another one, does so without it with one of its neighbours -/
theorem con_near {es : Edges} {u w : Nat} (h : Con es u w) (hw : w ≠ u) : ∃ a, Adj es u a ∧ a ≠ u ∧ Con (off es u) a w := by
  induction h with
  | refl => exact absurd rfl hw
  | @tail b c _ e ih =>
    by_cases q : b = u
    · subst q; exact ⟨c, e, hw, .refl⟩
    · obtain ⟨a, x, y, z⟩ := ih q
      exact ⟨a, x, y, z.tail (adj_off.2 ⟨e, q, hw⟩)⟩
end M
end
section
set_option Elab.async false
set_option linter.all false
set_option maxRecDepth 100000
set_option maxHeartbeats 0
namespace Law
open PySem PySem.Spec PyProof.Rows L2
def top (i : Nat) : Stmt := PySem.Challenge.pw_packetsheld_k82_whole_rings_and_blocks.main.body.getD i (.Pass ⟨0, 0, 0, 0⟩)
def s_is_number : Ev.Src := ⟨"is_number", top 1, ["value", "least", "most"], ["value", "least", "most"], [false, false, false], false⟩
def s_joined : Ev.Src := ⟨"joined", top 3, ["labels", "line", "low", "one", "other", "label"], ["labels", "line"], [false, false], false⟩
def s_labels_of : Ev.Src := ⟨"labels_of", top 4, ["mesh", "fallen", "found", "number", "line"], ["mesh", "fallen"], [false, false], false⟩
def s_hold_together : Ev.Src := ⟨"hold_together", top 5, ["mesh", "fallen", "one", "other", "labels"], ["mesh", "fallen", "one", "other"], [false, false, false, false], false⟩
def s_bridges : Ev.Src := ⟨"bridges", top 6, ["mesh", "number", "line"], ["mesh"], [false], false⟩
def s_lines_at : Ev.Src := ⟨"lines_at", top 7, ["mesh", "node", "number", "line"], ["mesh", "node"], [false, false], false⟩
def s_other_end : Ev.Src := ⟨"other_end", top 8, ["mesh", "line", "node", "one", "other"], ["mesh", "line", "node"], [false, false, false], false⟩
def s_cut_nodes : Ev.Src := ⟨"cut_nodes", top 9, ["mesh", "found", "node", "labels", "near", "line", "label"], ["mesh"], [false], true⟩
def s_blocks : Ev.Src := ⟨"blocks", top 10, ["mesh", "marks", "node", "heads", "labels", "at_node", "one", "other", "number", "head", "old", "new", "mark"], ["mesh"], [false], false⟩
def s_nodes_along : Ev.Src := ⟨"nodes_along", top 11, ["mesh", "row", "node", "found", "number"], ["mesh", "row", "node"], [false, false, false], false⟩
def s_is_ring : Ev.Src := ⟨"is_ring", top 12, ["mesh", "value", "node", "found", "at", "one"], ["mesh", "value"], [false, false], true⟩
def s_law_draws : Ev.Src := ⟨"_law_draws", top 14, ["script", "draws", "cell", "seed", "k", "number", "first"], ["script"], [false], false⟩
def s_law_take : Ev.Src := ⟨"_law_take", top 15, ["draws", "bound"], ["draws", "bound"], [true, false], false⟩
def s_law_alike : Ev.Src := ⟨"_law_alike", top 16, ["found", "due", "k"], ["found", "due"], [false, false], false⟩
def s_law_mesh : Ev.Src := ⟨"_law_mesh", top 17, ["draws", "nodes", "lines", "k", "turn", "many", "found", "one", "other"], ["draws", "nodes", "lines"], [true, false, false], false⟩
def s_law_ways : Ev.Src := ⟨"_law_ways", top 18, ["mesh", "row", "other", "lines", "found", "k", "later"], ["mesh", "row", "other", "lines"], [false, false, false, false], false⟩
def s_law_is_ring : Ev.Src := ⟨"_law_is_ring", top 19, ["mesh", "value", "first", "row", "k"], ["mesh", "value"], [false, false], false⟩
def s_law_rings : Ev.Src := ⟨"_law_rings", top 20, ["mesh", "found", "k", "way", "one", "other"], ["mesh"], [false], false⟩
def s_law : Ev.Src := ⟨"law", top 21, ["script", "draws", "mesh", "lines", "rings", "marks", "turn", "due", "several", "some", "ring", "k", "value", "least", "node", "head", "block"], ["script"], [false], false⟩
def srcs : List Ev.Src := [s_is_number, s_joined, s_labels_of, s_hold_together, s_bridges, s_lines_at, s_other_end, s_cut_nodes, s_blocks, s_nodes_along, s_is_ring, s_law_draws, s_law_take, s_law_alike, s_law_mesh, s_law_ways, s_law_is_ring, s_law_rings, s_law]
def ci : List (Str × Int) := []
def bl : List Str := ["abs", "all", "any", "bool", "enumerate", "int", "isinstance", "len", "list", "max", "min", "range", "reversed", "str", "sum", "tuple"]
def B : Ev.Sta := Ev.staB srcs (Ev.constOf ci) bl
abbrev R : PySem.W.OpenRow := PySem.W.OpenLaw.row PySem.Challenge.rw_packetsheld_k82_whole_rings_and_blocks
def fas : List He.Fa := Ev.factsOf srcs ci bl
def fns : List He.DefD := srcs.map Ev.Src.dd
def tfs : List He.Defn := Ev.tabsOf srcs
abbrev hk : PySem.W.Hook := He.hookX 5 fas fns [] tfs (fun _ => true)
def ob (s : PySem.W.SharedT) : He.AlX := He.obsX 5 fas fns [] tfs (fun _ => true) (HandSHeadRun.getT s)
theorem ob_eq (s : PySem.W.SharedT) : ob s = hk.obs s.abs := He.obsX_eq (HandSHeadRun.getT_eq s)
def loose0 : List Str := ["is_number", "joined", "labels_of", "hold_together", "bridges", "lines_at", "other_end", "cut_nodes", "blocks", "nodes_along", "is_ring", "_law_draws", "_law_take", "_law_alike", "_law_mesh", "_law_ways", "_law_is_ring", "_law_rings"]
def loose : List Str := loose0
theorem run (w : World) : HandSHeadRun.RunEq R (PySem.W.view R.prog [21]) hk ob 6000 loose w := by
  intro os
  kernel_rfl
theorem ok_s_is_number : Ev.SrcOk B s_is_number := ⟨⟨rfl, rfl, rfl, by decide +kernel, rfl, by decide +kernel, by decide +kernel⟩, rfl, fun _ _ _ _ _ _ us hl => match us, hl with | [_, _, _], _ => rfl, by kernel_rfl⟩
theorem ok_s_joined : Ev.SrcOk B s_joined := ⟨⟨rfl, rfl, rfl, by decide +kernel, rfl, by decide +kernel, by decide +kernel⟩, rfl, fun _ _ _ _ _ _ us hl => match us, hl with | [_, _], _ => rfl, by kernel_rfl⟩
theorem ok_s_labels_of : Ev.SrcOk B s_labels_of := ⟨⟨rfl, rfl, rfl, by decide +kernel, rfl, by decide +kernel, by decide +kernel⟩, rfl, fun _ _ _ _ _ _ us hl => match us, hl with | [_, _], _ => rfl, by kernel_rfl⟩
theorem ok_s_hold_together : Ev.SrcOk B s_hold_together := ⟨⟨rfl, rfl, rfl, by decide +kernel, rfl, by decide +kernel, by decide +kernel⟩, rfl, fun _ _ _ _ _ _ us hl => match us, hl with | [_, _, _, _], _ => rfl, by kernel_rfl⟩
theorem ok_s_bridges : Ev.SrcOk B s_bridges := ⟨⟨rfl, rfl, rfl, by decide +kernel, rfl, by decide +kernel, by decide +kernel⟩, rfl, fun _ _ _ _ _ _ us hl => match us, hl with | [_], _ => rfl, by kernel_rfl⟩
theorem ok_s_lines_at : Ev.SrcOk B s_lines_at := ⟨⟨rfl, rfl, rfl, by decide +kernel, rfl, by decide +kernel, by decide +kernel⟩, rfl, fun _ _ _ _ _ _ us hl => match us, hl with | [_, _], _ => rfl, by kernel_rfl⟩
theorem ok_s_other_end : Ev.SrcOk B s_other_end := ⟨⟨rfl, rfl, rfl, by decide +kernel, rfl, by decide +kernel, by decide +kernel⟩, rfl, fun _ _ _ _ _ _ us hl => match us, hl with | [_, _, _], _ => rfl, by kernel_rfl⟩
theorem ok_s_cut_nodes : Ev.SrcOk B s_cut_nodes := ⟨⟨rfl, rfl, rfl, by decide +kernel, rfl, by decide +kernel, by decide +kernel⟩, rfl, fun _ _ _ _ _ _ us hl => match us, hl with | [_], _ => rfl, by kernel_rfl⟩
theorem ok_s_blocks : Ev.SrcOk B s_blocks := ⟨⟨rfl, rfl, rfl, by decide +kernel, rfl, by decide +kernel, by decide +kernel⟩, rfl, fun _ _ _ _ _ _ us hl => match us, hl with | [_], _ => rfl, by kernel_rfl⟩
theorem ok_s_nodes_along : Ev.SrcOk B s_nodes_along := ⟨⟨rfl, rfl, rfl, by decide +kernel, rfl, by decide +kernel, by decide +kernel⟩, rfl, fun _ _ _ _ _ _ us hl => match us, hl with | [_, _, _], _ => rfl, by kernel_rfl⟩
theorem ok_s_is_ring : Ev.SrcOk B s_is_ring := ⟨⟨rfl, rfl, rfl, by decide +kernel, rfl, by decide +kernel, by decide +kernel⟩, rfl, fun _ _ _ _ _ _ us hl => match us, hl with | [_, _], _ => rfl, by kernel_rfl⟩
theorem ok_s_law_draws : Ev.SrcOk B s_law_draws := ⟨⟨rfl, rfl, rfl, by decide +kernel, rfl, by decide +kernel, by decide +kernel⟩, rfl, fun _ _ _ _ _ _ us hl => match us, hl with | [_], _ => rfl, by kernel_rfl⟩
theorem ok_s_law_take : Ev.SrcOk B s_law_take := ⟨⟨rfl, rfl, rfl, by decide +kernel, rfl, by decide +kernel, by decide +kernel⟩, rfl, fun _ _ _ _ _ _ us hl => match us, hl with | [_, _], _ => rfl, by kernel_rfl⟩
theorem ok_s_law_alike : Ev.SrcOk B s_law_alike := ⟨⟨rfl, rfl, rfl, by decide +kernel, rfl, by decide +kernel, by decide +kernel⟩, rfl, fun _ _ _ _ _ _ us hl => match us, hl with | [_, _], _ => rfl, by kernel_rfl⟩
theorem ok_s_law_mesh : Ev.SrcOk B s_law_mesh := ⟨⟨rfl, rfl, rfl, by decide +kernel, rfl, by decide +kernel, by decide +kernel⟩, rfl, fun _ _ _ _ _ _ us hl => match us, hl with | [_, _, _], _ => rfl, by kernel_rfl⟩
theorem ok_s_law_ways : Ev.SrcOk B s_law_ways := ⟨⟨rfl, rfl, rfl, by decide +kernel, rfl, by decide +kernel, by decide +kernel⟩, rfl, fun _ _ _ _ _ _ us hl => match us, hl with | [_, _, _, _], _ => rfl, by kernel_rfl⟩
theorem ok_s_law_is_ring : Ev.SrcOk B s_law_is_ring := ⟨⟨rfl, rfl, rfl, by decide +kernel, rfl, by decide +kernel, by decide +kernel⟩, rfl, fun _ _ _ _ _ _ us hl => match us, hl with | [_, _], _ => rfl, by kernel_rfl⟩
theorem ok_s_law_rings : Ev.SrcOk B s_law_rings := ⟨⟨rfl, rfl, rfl, by decide +kernel, rfl, by decide +kernel, by decide +kernel⟩, rfl, fun _ _ _ _ _ _ us hl => match us, hl with | [_], _ => rfl, by kernel_rfl⟩
theorem ok_s_law : Ev.SrcOk B s_law := ⟨⟨rfl, rfl, rfl, by decide +kernel, rfl, by decide +kernel, by decide +kernel⟩, rfl, fun _ _ _ _ _ _ us hl => match us, hl with | [_], _ => rfl, by kernel_rfl⟩
theorem oks : ∀ s ∈ srcs, Ev.SrcOk B s := by
  intro s hs
  simp only [srcs, List.mem_cons, List.not_mem_nil, or_false] at hs
  rcases hs with rfl | rfl | rfl | rfl | rfl | rfl | rfl | rfl | rfl | rfl | rfl | rfl | rfl | rfl | rfl | rfl | rfl | rfl | rfl
  · exact ok_s_is_number
  · exact ok_s_joined
  · exact ok_s_labels_of
  · exact ok_s_hold_together
  · exact ok_s_bridges
  · exact ok_s_lines_at
  · exact ok_s_other_end
  · exact ok_s_cut_nodes
  · exact ok_s_blocks
  · exact ok_s_nodes_along
  · exact ok_s_is_ring
  · exact ok_s_law_draws
  · exact ok_s_law_take
  · exact ok_s_law_alike
  · exact ok_s_law_mesh
  · exact ok_s_law_ways
  · exact ok_s_law_is_ring
  · exact ok_s_law_rings
  · exact ok_s_law
/-- what the evaluator says of the law -/
def Word : Prop := ∀ ns : List Int, ns.length ≤ 63 → (∀ z ∈ ns, Builtin.Int.intBits z ≤ 1048576) → Ev.callN (srcs.map (Ev.Src.d B)) (14 + 1) 18 [Ev.scrOf ns] = .ok (.shr (.bool true)) []
open PySem.W PySem.Calls in
theorem holds (word : Word) : PySem.Challenge.rw_packetsheld_k82_whole_rings_and_blocks.Holds := by
  w_on; o_law
  refine HandSHeadRun.head_any (r := OpenLaw.row PySem.Challenge.rw_packetsheld_k82_whole_rings_and_blocks) (q := view (OpenLaw.row PySem.Challenge.rw_packetsheld_k82_whole_rings_and_blocks).prog [21]) (H := Law.hk) (ob := Law.ob) (M := 6000) (loose := Law.loose) (d := HandSHeadRun.topDef (OpenLaw.row PySem.Challenge.rw_packetsheld_k82_whole_rings_and_blocks).prog 21) (kwd := []) Law.ob_eq
    (by kernel_rfl) (fun s => by kernel_rfl) Law.run (by kernel_rfl) (by kernel_rfl) (by kernel_rfl) (by rfl) (by first | assumption | decide +kernel) (by decide +kernel) ⟨rfl, rfl, rfl, rfl, rfl, by decide +kernel⟩ ?hw ?hc
  case hw => w_witness2
  case hc =>
    refine LamX.walk_ofTsE (l := PySem.Challenge.rw_packetsheld_k82_whole_rings_and_blocks) (n := 63) (k := 2 * (14 + 1)) (x := "script") (CX := fun w => L2.CX PySem.Challenge.rw_packetsheld_k82_whole_rings_and_blocks.prog w) rfl (by decide) (by kernel_rfl) ⟨rfl, by decide, by decide⟩ ?F (fun w H s e s' ⟨_, _, _, _, _, _, _, _, _, _, _, _, z⟩ => z)
    intro w mg fa h Y G hmg0
    obtain ⟨K, KX, c⟩ := Y
    have hmg : mg ("law" : PySem.Str) = some (.ref fa) := by
      have e : (HandSHeadRun.topDef (OpenLaw.row PySem.Challenge.rw_packetsheld_k82_whole_rings_and_blocks).prog 21).name = ("law" : PySem.Str) := by kernel_rfl
      rw [← e]
      exact hmg0
    exact ⟨K, KX, Ev.law_at (l := Law.srcs) (ci := Law.ci) (bl := Law.bl) (n := 14) (j := 18) (sl := Law.s_law) KX G hmg c Law.oks rfl rfl rfl rfl word⟩
end Law
end
section
set_option linter.all false
set_option maxRecDepth 100000
/-! How a small text is walked: one simp rule for each form; loops and comprehensions stay, and wait for their own rules. -/
namespace Ev
open PySem
def absI (i : Int) : Int := if i < 0 then -i else i
def Out.seq : Out → (Sl → Out) → Out
  | .nx ρ, k => k ρ
  | .fail, _ => .fail
  | .bk ρ, _ => .bk ρ
  | .ct ρ, _ => .ct ρ
  | .rt v ρ, _ => .rt v ρ
  | .exc c ρ, _ => .exc c ρ
@[simp] theorem seq_nx (ρ : Sl) (k : Sl → Out) : Out.seq (.nx ρ) k = k ρ := (Eq.refl _).trans rfl
@[simp] theorem seq_bk (ρ : Sl) (k : Sl → Out) : Out.seq (.bk ρ) k = .bk ρ := (Eq.refl _).trans rfl
@[simp] theorem seq_ct (ρ : Sl) (k : Sl → Out) : Out.seq (.ct ρ) k = .ct ρ := (Eq.refl _).trans rfl
@[simp] theorem seq_rt (v : RV) (ρ : Sl) (k : Sl → Out) : Out.seq (.rt v ρ) k = .rt v ρ := (Eq.refl _).trans rfl
@[simp] theorem seq_exc (c : Str) (ρ : Sl) (k : Sl → Out) : Out.seq (.exc c ρ) k = .exc c ρ := (Eq.refl _).trans rfl
def R.brn {α : Type} : R α → (α → Sl → Out) → Out
  | .fail, _ => .fail
  | .exc c ρ, _ => .exc c ρ
  | .ok a ρ, k => k a ρ
@[simp] theorem brn_ok {α : Type} (a : α) (ρ : Sl) (k : α → Sl → Out) : R.brn (.ok a ρ) k = k a ρ := (Eq.refl _).trans rfl
@[simp] theorem brn_exc {α : Type} (c : Str) (ρ : Sl) (k : α → Sl → Out) : R.brn (.exc c ρ) k = .exc c ρ := (Eq.refl _).trans rfl
def R.bnd {α β : Type} : R α → (α → Sl → R β) → R β := R.bind
@[simp] theorem bnd_ok {α β : Type} (a : α) (ρ : Sl) (k : α → Sl → R β) : R.bnd (.ok a ρ) k = k a ρ := (Eq.refl _).trans rfl
@[simp] theorem bnd_exc {α β : Type} (c : Str) (ρ : Sl) (k : α → Sl → R β) : R.bnd (.exc c ρ) k = .exc c ρ := (Eq.refl _).trans rfl
def RV.dd : RV → D := RV.d
@[simp] theorem dd_shr (d : D) : RV.dd (.shr d) = d := rfl
@[simp] theorem dd_own (d : D) : RV.dd (.own d) = d := rfl
def Out.ofO : Option Sl → Out
  | some ρ => .nx ρ
  | none => .fail
@[simp] theorem ofO_some (ρ : Sl) : Out.ofO (some ρ) = .nx ρ := rfl
@[simp] theorem rofO_some {α : Type} (ρ : Sl) (a : α) : R.ofO ρ (some a) = .ok a ρ := rfl
@[simp] theorem dat_eq (r : R RV) : R.dat r = r.bnd fun v ρ => .ok v.dd ρ := rfl
section
variable (p q : PV) (r : Sl) (n : Nat)
@[simp] theorem get_0 : getS (p :: r) 0 = p := rfl
@[simp] theorem get_s : getS (p :: r) (n + 1) = getS r n := by simp [getS]
@[simp] theorem set_0 : setS (p :: r) 0 q = if freeS p = true then some (q :: r) else none := by simp [setS, getS]
@[simp] theorem set_s : setS (p :: r) (n + 1) q = (setS r n q).map (p :: ·) := by
  simp only [setS, get_s, List.length_cons, List.set_cons_succ, Nat.add_lt_add_iff_right]
  split <;> rfl
@[simp] theorem free_non : freeS .non = true := rfl
@[simp] theorem free_shr (d : D) : freeS (.shr d) = true := rfl
@[simp] theorem free_hld (io lk : Bool) (d : D) : freeS (.hld io lk d) = (!io && !lk) := rfl
@[simp] theorem pv_shr (d : D) : RV.pv (.shr d) = .shr d := rfl
@[simp] theorem pv_own (d : D) : RV.pv (.own d) = .hld false false d := rfl
@[simp] theorem asg_var (i : Nat) (v : RV) : asg (.var i) v r = setS r i v.pv := by rw [asg]
@[simp] theorem asg_tup (ts : Tgs) (v : RV) : asg (.tup ts) v r = match v.dd with
    | .tuple ds => if ds.length = ts.len then asgs ts ds r else none
    | .list ds => if ds.length = ts.len then asgs ts ds r else none
    | _ => none := by rw [asg]; rfl
@[simp] theorem tl_0 : Tgs.len .nil = 0 := rfl
@[simp] theorem tl_s (t : Tg) (ts : Tgs) : Tgs.len (.cons t ts) = ts.len + 1 := rfl
@[simp] theorem asgs_0 : asgs .nil [] r = some r := by rw [asgs]
@[simp] theorem asgs_s (t : Tg) (ts : Tgs) (d : D) (ds : List D) : asgs (.cons t ts) (d :: ds) r = (asg t (.shr d) r).bind fun r' => asgs ts ds r' := by rw [asgs]
@[simp] theorem og_val (d : D) : Opr.get r (.val d) = some d := rfl
@[simp] theorem og_slot (i : Nat) : Opr.get r (.slot i) = match getS r i with | .hld _ _ d => some d | _ => none := rfl
@[simp] theorem gets_0 : gets r [] = some [] := rfl
@[simp] theorem gets_s (o : Opr) (os : List Opr) : gets r (o :: os) = (o.get r).bind fun d => (gets r os).map (d :: ·) := rfl
@[simp] theorem so_0 : slotsOf [] = [] := rfl
@[simp] theorem so_s (i : Nat) (os : List Opr) : slotsOf (.slot i :: os) = i :: slotsOf os := rfl
@[simp] theorem so_v (d : D) (os : List Opr) : slotsOf (.val d :: os) = slotsOf os := rfl
@[simp] theorem mk_0 : maskOf [] = [] := rfl
@[simp] theorem mk_s (i : Nat) (os : List Opr) : maskOf (.slot i :: os) = true :: maskOf os := rfl
@[simp] theorem mk_v (d : D) (os : List Opr) : maskOf (.val d :: os) = false :: maskOf os := rfl
@[simp] theorem po_0 : putOuts r [] [] = some r := rfl
@[simp] theorem po_s (i : Nat) (is : List Nat) (d : D) (ds : List D) : putOuts r (i :: is) (d :: ds) = match getS r i with
    | .hld io false _ => putOuts (r.set i (.hld io false d)) is ds
    | _ => none := rfl
def rcp (r : Sl) (is : List Nat) : RC → R RV
  | .fail => .fail
  | .exc x outs => match putOuts r is outs with
    | some r2 => .exc x r2
    | none => .fail
  | .ok v outs => match putOuts r is outs with
    | some r2 => .ok v r2
    | none => .fail
@[simp] theorem rcp_ok (is : List Nat) (v : RV) (outs : List D) : rcp r is (.ok v outs) = match putOuts r is outs with | some r2 => .ok v r2 | none => .fail := rfl
@[simp] theorem rcp_exc (is : List Nat) (x : Str) (outs : List D) : rcp r is (.exc x outs) = match putOuts r is outs with | some r2 => .exc x r2 | none => .fail := rfl
@[simp] theorem callV_eq (c : Calls) (f : Nat) (os : List Opr) : callV c f os r = match gets r os with | some ds => if (slotsOf os).Nodup then rcp r (slotsOf os) (c f ds) else .fail | none => .fail := by
  rw [callV]
  cases gets r os with
  | none => rfl
  | some ds =>
    simp only
    split
    · cases c f ds <;> rfl
    · rfl
@[simp] theorem pa_0 : putAll [] [] r = some r := rfl
@[simp] theorem pa_s (i : Nat) (is : List Nat) (v : RV) (vs : List RV) : putAll (i :: is) (v :: vs) r = (setS r i v.pv).bind fun r' => putAll is vs r' := rfl
@[simp] theorem oo_0 : outsOf [] r = some [] := by cases r <;> rfl
@[simp] theorem oo_t (bs : List Bool) (d : D) : outsOf (true :: bs) (.hld true false d :: r) = (outsOf bs r).map (d :: ·) := rfl
@[simp] theorem oo_f (bs : List Bool) : outsOf (false :: bs) (p :: r) = outsOf bs r := rfl
@[simp] theorem rst_0 (r : Sl) : rst [] r = r := by cases r <;> rfl
@[simp] theorem rst_n (b : Sl) : rst (.non :: b) (p :: r) = (match p with | .hld true _ _ => p | _ => .non) :: rst b r := rfl
@[simp] theorem rst_s (d : D) (b : Sl) : rst (.shr d :: b) (p :: r) = p :: rst b r := rfl
@[simp] theorem rst_h (io lk : Bool) (d : D) (b : Sl) : rst (.hld io lk d :: b) (p :: r) = p :: rst b r := rfl
@[simp] theorem rst_pp (b : Sl) : rst (p :: b) (p :: r) = p :: rst b r := by cases p <;> rfl
@[simp] theorem wi_0 : wipeS r [] = r := rfl
@[simp] theorem wi_s (v : Nat) (vs : List Nat) : wipeS r (v :: vs) = (wipeS r vs).set v .non := rfl
@[simp] theorem bk_0 (r0 : Sl) : backS r0 r [] = r := rfl
@[simp] theorem bk_s (r0 : Sl) (v : Nat) (vs : List Nat) : backS r0 r (v :: vs) = (backS r0 r vs).set v (getS r0 v) := rfl
@[simp] theorem turn_eq {α : Type} (vs : List Nat) (tg : Tg) (t : Sl → R Bool) (e : Sl → R α) (x : D) : turn vs tg t e x r = match asg tg (.shr x) r with
  | none => .fail
  | some ρ1 => (t ρ1).bnd fun b ρ2 => if b then (e ρ2).bnd fun d ρ3 => .ok (some d) (wipeS ρ3 vs) else .ok none (wipeS ρ2 vs) := rfl
end
section
@[simp] theorem opv_add : opv .add = opAdd := rfl
@[simp] theorem opv_sub : opv .sub = opSub := rfl
@[simp] theorem opv_mul : opv .mul = opMul := rfl
@[simp] theorem opv_fdiv : opv .fdiv = opFdiv := rfl
@[simp] theorem opv_mod : opv .mod = opMod := rfl
@[simp] theorem opv_pow : opv .pow = opPow := rfl
@[simp] theorem opv_shl : opv .shl = opShl := rfl
@[simp] theorem opv_shr : opv .shr = opShr := rfl
@[simp] theorem opv_xor : opv .xor = opXor := rfl
@[simp] theorem opv_neg : opv .neg = opNeg := rfl
@[simp] theorem opv_eq : opv .eq = opEq := rfl
@[simp] theorem opv_ne : opv .ne = opNe := rfl
@[simp] theorem opv_lt : opv .lt = opLt := rfl
@[simp] theorem opv_le : opv .le = opLe := rfl
@[simp] theorem opv_gt : opv .gt = opGt := rfl
@[simp] theorem opv_ge : opv .ge = opGe := rfl
@[simp] theorem opv_isn : opv .isn = opIsn := rfl
@[simp] theorem opv_isnn : opv .isnn = opIsnn := rfl
@[simp] theorem opv_ist : opv .ist = opIst := rfl
@[simp] theorem opv_isnt : opv .isnt = opIsnt := rfl
@[simp] theorem opv_inn : opv .inn = opInn := rfl
@[simp] theorem opv_nin : opv .nin = opNin := rfl
@[simp] theorem opv_len : opv .len = opLen := rfl
@[simp] theorem opv_abs : opv .abs = opAbs := rfl
@[simp] theorem opv_min2 : opv .min2 = opMin2 := rfl
@[simp] theorem opv_max2 : opv .max2 = opMax2 := rfl
@[simp] theorem opv_int : opv .int = opInt := rfl
@[simp] theorem opv_list : opv .list = opList := rfl
@[simp] theorem opv_tuple : opv .tuple = opTuple := rfl
@[simp] theorem opv_sorted : opv .sorted = opSorted := rfl
@[simp] theorem opv_sum : opv .sum = opSum := rfl
@[simp] theorem opv_maxl : opv .maxl = opMaxl := rfl
@[simp] theorem opv_minl : opv .minl = opMinl := rfl
@[simp] theorem opv_idx : opv .idx = opIdx := rfl
@[simp] theorem opv_revl : opv .revl = opRevl := rfl
@[simp] theorem opv_get1 : opv .get1 = opGet1 := rfl
@[simp] theorem opv_get2 : opv .get2 = opGet2 := rfl
@[simp] theorem opv_tupr1 : opv .tupr1 = opTupr1 := rfl
@[simp] theorem opv_listr1 : opv .listr1 = opListr1 := rfl
@[simp] theorem rbool_eq (b : Bool) : rbool b = some (.shr (.bool b)) := rfl
@[simp] theorem rint_eq (i : Int) : rint i = some (.shr (.int i)) := rfl
@[simp] theorem opv_isi (t : Ty) : opv (.isi t) = opIsi t := rfl
variable (i j : Int)
@[simp] theorem add_i : opAdd [.int i, .int j] = some (.shr (.int (i + j))) := rfl
@[simp] theorem sub_i : opSub [.int i, .int j] = some (.shr (.int (i - j))) := rfl
@[simp] theorem mul_i (h1 : -(2 ^ 64) < j) (h2 : j < 2 ^ 64) : opMul [.int i, .int j] = some (.shr (.int (i * j))) := by
  have e : (decide (-(2 ^ 64) < j) && decide (j < 2 ^ 64)) = true := by rw [decide_eq_true h1, decide_eq_true h2]; rfl
  simp only [opMul, e, Bool.or_true, Bool.true_or, b2o, rint, if_true]
theorem mul_i2 (h1 : -(2 ^ 64) < i) (h2 : i < 2 ^ 64) : opMul [.int i, .int j] = some (.shr (.int (i * j))) := by
  have e : (decide (-(2 ^ 64) < i) && decide (i < 2 ^ 64)) = true := by rw [decide_eq_true h1, decide_eq_true h2]; rfl
  simp only [opMul, e, Bool.or_true, Bool.true_or, b2o, rint, if_true]
theorem log_small (h0 : 0 < j) (h1 : j < 2 ^ 64) : j.natAbs.log2 < 9000 := by
  have : j.natAbs < 2 ^ 64 := by omega
  by_cases q : j.natAbs = 0
  · omega
  · have := (Nat.log2_lt q).2 this; omega
@[simp] theorem fdiv_i (h0 : 0 < j) (h1 : j < 2 ^ 64) : opFdiv [.int i, .int j] = some (.shr (.int (i / j))) := by
  simp [opFdiv, h0, log_small j h0 h1, b2o, rint]
@[simp] theorem mod_i (h0 : 0 < j) : opMod [.int i, .int j] = some (.shr (.int (i % j))) := by simp [opMod, h0, b2o, rint]
@[simp] theorem pow_i (h0 : 0 ≤ j) (h1 : j ≤ 1000000) (h2 : i.natAbs < 2 ^ 64) : opPow [.int i, .int j] = some (.shr (.int (i ^ j.toNat))) := by
  have h2' : decide (i.natAbs < 2 ^ 64) = true := decide_eq_true h2
  simp only [opPow, decide_eq_true h0, decide_eq_true h1, h2', Bool.and_true, b2o, rint, if_true]
@[simp] theorem neg_i : opNeg [.int i] = some (.shr (.int (-i))) := rfl
@[simp] theorem eq_i : opEq [.int i, .int j] = some (.shr (.bool (decide (i = j)))) := rfl
@[simp] theorem ne_i : opNe [.int i, .int j] = some (.shr (.bool (!decide (i = j)))) := rfl
@[simp] theorem eq_b (a b : Bool) : opEq [.bool a, .bool b] = some (.shr (.bool (decide (a = b)))) := by cases a <;> cases b <;> rfl
@[simp] theorem ne_b (a b : Bool) : opNe [.bool a, .bool b] = some (.shr (.bool (!decide (a = b)))) := by cases a <;> cases b <;> rfl
@[simp] theorem lt_i : opLt [.int i, .int j] = some (.shr (.bool (decide (i < j)))) := rfl
@[simp] theorem le_i : opLe [.int i, .int j] = some (.shr (.bool (decide (i ≤ j)))) := rfl
@[simp] theorem gt_i : opGt [.int i, .int j] = some (.shr (.bool (decide (j < i)))) := rfl
@[simp] theorem ge_i : opGe [.int i, .int j] = some (.shr (.bool (decide (j ≤ i)))) := rfl
@[simp] theorem abs_i : opAbs [.int i] = some (.shr (.int (absI i))) := rfl
@[simp] theorem int_i : opInt [.int i] = some (.shr (.int i)) := rfl
@[simp] theorem int_b (b : Bool) : opInt [.bool b] = some (.shr (.int (if b then 1 else 0))) := rfl
@[simp] theorem min_i : opMin2 [.int i, .int j] = some (.shr (.int (if j < i then j else i))) := rfl
@[simp] theorem max_i : opMax2 [.int i, .int j] = some (.shr (.int (if j > i then j else i))) := rfl
variable (xs ys : List D)
@[simp] theorem len_l : opLen [.list xs] = some (.shr (.int xs.length)) := rfl
@[simp] theorem len_t : opLen [.tuple xs] = some (.shr (.int xs.length)) := rfl
@[simp] theorem len_scr : opLen [.dict [(.none, .list xs)]] = some (.shr (.int xs.length)) := rfl
@[simp] theorem idx_l : opIdx [.list xs, .int i] = (item xs i).map .shr := rfl
@[simp] theorem idx_t : opIdx [.tuple xs, .int i] = (item xs i).map .shr := rfl
@[simp] theorem idx_scr : opIdx [.dict [(.none, .list xs)], .int i] = (item xs i).map .shr := rfl
@[simp] theorem rev_l : opRevl [.list xs] = some (.own (.list xs.reverse)) := rfl
@[simp] theorem tup_l : opTuple [.list xs] = some (.shr (.tuple xs)) := rfl
@[simp] theorem tup_t : opTuple [.tuple xs] = some (.shr (.tuple xs)) := rfl
@[simp] theorem lst_l : opList [.list xs] = some (.own (.list xs)) := rfl
@[simp] theorem lst_t : opList [.tuple xs] = some (.own (.list xs)) := rfl
@[simp] theorem isi_d (t : Ty) (d : D) (hd : ∀ kvs, d ≠ .dict kvs) : opIsi t [d] = some (.shr (.bool (isTy t d))) := by cases d <;> first | rfl | exact absurd rfl (hd _)
@[simp] theorem fm_none {α β : Type} (l : List α) : List.filterMap (fun _ => (none : Option β)) l = [] := by induction l <;> simp_all
@[simp] theorem isn_d (d : D) : opIsn [d] = some (.shr (.bool (isNon d))) := rfl
@[simp] theorem isnn_d (d : D) : opIsnn [d] = some (.shr (.bool (!isNon d))) := rfl
@[simp] theorem ist_d (d : D) (b : Bool) : opIst [d, .bool b] = some (.shr (.bool (isBl b d))) := rfl
@[simp] theorem isnt_d (d : D) (b : Bool) : opIsnt [d, .bool b] = some (.shr (.bool (!isBl b d))) := rfl
@[simp] theorem isBl_b (b c : Bool) : isBl b (.bool c) = (c == b) := rfl
@[simp] theorem isBl_i (b : Bool) : isBl b (.int i) = false := rfl
@[simp] theorem isBl_n (b : Bool) : isBl b .none = false := rfl
@[simp] theorem non_n : isNon .none = true := rfl
@[simp] theorem non_i : isNon (.int i) = false := rfl
@[simp] theorem non_b (b : Bool) : isNon (.bool b) = false := rfl
@[simp] theorem non_s (x : Str) : isNon (.str x) = false := rfl
@[simp] theorem non_l : isNon (.list xs) = false := rfl
@[simp] theorem non_t : isNon (.tuple xs) = false := rfl
theorem eq_f (x y : D) : opEq [x, y] = b2o (flat x && flat y) (some (.shr (.bool (PyData.eqv x y)))) := rfl
theorem ne_f (x y : D) : opNe [x, y] = b2o (flat x && flat y) (some (.shr (.bool (!PyData.eqv x y)))) := rfl
@[simp] theorem b2o_t (v : Option RV) : b2o true v = v := rfl
@[simp] theorem flat_i : flat (.int i) = true := rfl
@[simp] theorem flat_b (b : Bool) : flat (.bool b) = true := rfl
@[simp] theorem flat_n : flat .none = true := rfl
@[simp] theorem flat_l0 : flat (.list []) = true := rfl
@[simp] theorem tr_b (b : Bool) : truth (.bool b) = some b := rfl
@[simp] theorem mth_app : mth .append = mAppend := rfl
@[simp] theorem mth_ext : mth .extend = mExtend := rfl
@[simp] theorem mth_pop : mth .pop = mPop := rfl
@[simp] theorem mth_popi : mth .popi = mPopi := rfl
/-- the item at a natural place -/
theorem item_n (k : Nat) (h : k < xs.length) : item xs (k : Int) = some xs[k] := by
  have : (k : Int) < (xs.length : Int) := by omega
  simp [item, place, this, h]
@[simp] theorem item_0 (x : D) : item (x :: xs) 0 = some x := by simp [item, place]
@[simp] theorem item_1 (x y : D) : item (x :: y :: xs) 1 = some y := by
  have : (1 : Int) < (xs.length : Int) + 1 + 1 := by omega
  simp [item, place, this]
@[simp] theorem item_2 (x y z : D) : item (x :: y :: z :: xs) 2 = some z := by
  have : (2 : Int) < (xs.length : Int) + 1 + 1 + 1 := by omega
  simp [item, place, this]
@[simp] theorem item_3 (x y z w : D) : item (x :: y :: z :: w :: xs) 3 = some w := by
  have : (3 : Int) < (xs.length : Int) + 1 + 1 + 1 + 1 := by omega
  simp [item, place, this]
end
/-- a def's end -/
def fin (ps : List Bool) : Out → RC
  | .rt v ρ' => match outsOf ps ρ' with
    | some o => .ok v o
    | none => .fail
  | .nx ρ' => match outsOf ps ρ' with
    | some o => .ok (.shr .none) o
    | none => .fail
  | .exc c ρ' => match outsOf ps ρ' with
    | some o => .exc c o
    | none => .fail
  | _ => .fail
@[simp] theorem fin_rt (ps : List Bool) (v : RV) (ρ : Sl) : fin ps (.rt v ρ) = match outsOf ps ρ with | some o => .ok v o | none => .fail := rfl
@[simp] theorem fin_nx (ps : List Bool) (ρ : Sl) : fin ps (.nx ρ) = match outsOf ps ρ with | some o => .ok (.shr .none) o | none => .fail := rfl
@[simp] theorem fin_exc (ps : List Bool) (c : Str) (ρ : Sl) : fin ps (.exc c ρ) = match outsOf ps ρ with | some o => .exc c o | none => .fail := rfl
/-- a def is run -/
theorem run_fin (h : List Calls) (d : Def) (ds : List D) (ρ : Sl) (hp : parS d.ps ds = some ρ) : runDef h d ds = fin d.ps (evSs h d.body (ρ ++ List.replicate (d.slots - d.ps.length) .non)) := by
  simp only [runDef, hp]
  cases evSs h d.body (ρ ++ List.replicate (d.slots - d.ps.length) .non) <;> rfl
/-! continuations by name, so that simp does not go into them -/
def kSeq (k k' : Sl → Out) (ρ : Sl) : Out := (k ρ).seq k'
@[simp] theorem kSeq_ap (k k' : Sl → Out) (ρ : Sl) : kSeq k k' ρ = (k ρ).seq k' := (Eq.refl _).trans rfl
@[simp] theorem seq_seq (o : Out) (k k' : Sl → Out) : (o.seq k).seq k' = o.seq (kSeq k k') := by cases o <;> rfl
def kIte (h : List Calls) (a b : Ss) (c : Bool) (ρ : Sl) : Out := if c then evSs h a ρ else evSs h b ρ
@[simp] theorem kIte_t (h : List Calls) (a b : Ss) (ρ : Sl) : kIte h a b true ρ = evSs h a ρ := (Eq.refl _).trans rfl
@[simp] theorem kIte_f (h : List Calls) (a b : Ss) (ρ : Sl) : kIte h a b false ρ = evSs h b ρ := (Eq.refl _).trans rfl
@[simp] theorem kIte_b (h : List Calls) (a b : Ss) (c : Bool) (ρ : Sl) : kIte h a b c ρ = if c = true then evSs h a ρ else evSs h b ρ := (Eq.refl _).trans rfl
def kCond (h : List Calls) (a b : E) (c : Bool) (ρ : Sl) : R RV := if c then evE h a ρ else evE h b ρ
@[simp] theorem kCond_t (h : List Calls) (a b : E) (ρ : Sl) : kCond h a b true ρ = evE h a ρ := (Eq.refl _).trans rfl
@[simp] theorem kCond_f (h : List Calls) (a b : E) (ρ : Sl) : kCond h a b false ρ = evE h b ρ := (Eq.refl _).trans rfl
@[simp] theorem kCond_b (h : List Calls) (a b : E) (c : Bool) (ρ : Sl) : kCond h a b c ρ = if c = true then evE h a ρ else evE h b ρ := (Eq.refl _).trans rfl
def kAnd (h : List Calls) (b : E) (v : RV) (ρ : Sl) : R RV := match v with
    | .shr (.bool true) => evE h b ρ
    | .shr (.bool false) => .ok (.shr (.bool false)) ρ
    | _ => .fail
@[simp] theorem kAnd_b (h : List Calls) (b : E) (c : Bool) (ρ : Sl) : kAnd h b (.shr (.bool c)) ρ = if c then evE h b ρ else .ok (.shr (.bool false)) ρ := by cases c <;> rfl
def kOr (h : List Calls) (b : E) (v : RV) (ρ : Sl) : R RV := match v with
    | .shr (.bool true) => .ok (.shr (.bool true)) ρ
    | .shr (.bool false) => evE h b ρ
    | _ => .fail
@[simp] theorem kOr_b (h : List Calls) (b : E) (c : Bool) (ρ : Sl) : kOr h b (.shr (.bool c)) ρ = if c then .ok (.shr (.bool true)) ρ else evE h b ρ := by cases c <;> rfl
def kTAnd (h : List Calls) (b : T) (c : Bool) (ρ : Sl) : R Bool := if c then evT h b ρ else .ok false ρ
@[simp] theorem kTAnd_b (h : List Calls) (b : T) (c : Bool) (ρ : Sl) : kTAnd h b c ρ = if c then evT h b ρ else .ok false ρ := (Eq.refl _).trans rfl
def kTOr (h : List Calls) (b : T) (c : Bool) (ρ : Sl) : R Bool := if c then .ok true ρ else evT h b ρ
@[simp] theorem kTOr_b (h : List Calls) (b : T) (c : Bool) (ρ : Sl) : kTOr h b c ρ = if c then .ok true ρ else evT h b ρ := (Eq.refl _).trans rfl
def kSet (tg : Tg) (v : RV) (ρ : Sl) : Out := .ofO (asg tg v ρ)
@[simp] theorem kSet_s (tg : Tg) (d : D) (ρ : Sl) : kSet tg (.shr d) ρ = .ofO (asg tg (.shr d) ρ) := (Eq.refl _).trans rfl
@[simp] theorem kSet_o (tg : Tg) (d : D) (ρ : Sl) : kSet tg (.own d) ρ = .ofO (asg tg (.own d) ρ) := (Eq.refl _).trans rfl
def kPar (is : List Nat) (vs : List RV) (ρ : Sl) : Out := .ofO (putAll is vs ρ)
@[simp] theorem kPar_a (is : List Nat) (v : RV) (vs : List RV) (ρ : Sl) : kPar is (v :: vs) ρ = .ofO (putAll is (v :: vs) ρ) := (Eq.refl _).trans rfl
def kCall (c : Calls) (f : Nat) (os : List Opr) (ρ : Sl) : R RV := callV c f os ρ
@[simp] theorem kCall_a (c : Calls) (f : Nat) (o : Opr) (os : List Opr) (ρ : Sl) : kCall c f (o :: os) ρ = callV c f (o :: os) ρ := (Eq.refl _).trans rfl
@[simp] theorem kCall_n (c : Calls) (f : Nat) (ρ : Sl) : kCall c f [] ρ = callV c f [] ρ := (Eq.refl _).trans rfl
def kEs2 (v : RV) (ds : List D) (ρ : Sl) : R (List D) := .ok (v.dd :: ds) ρ
@[simp] theorem kEs2_a (v : RV) (ds : List D) (ρ : Sl) : kEs2 v ds ρ = .ok (v.dd :: ds) ρ := (Eq.refl _).trans rfl
def kEs (h : List Calls) (es : Es) (v : RV) (ρ : Sl) : R (List D) := (evEs h es ρ).bnd (kEs2 v)
@[simp] theorem kEs_s (h : List Calls) (es : Es) (d : D) (ρ : Sl) : kEs h es (.shr d) ρ = (evEs h es ρ).bnd (kEs2 (.shr d)) := (Eq.refl _).trans rfl
@[simp] theorem kEs_o (h : List Calls) (es : Es) (d : D) (ρ : Sl) : kEs h es (.own d) ρ = (evEs h es ρ).bnd (kEs2 (.own d)) := (Eq.refl _).trans rfl
def kRs2 (v : RV) (ds : List RV) (ρ : Sl) : R (List RV) := .ok (v :: ds) ρ
@[simp] theorem kRs2_a (v : RV) (ds : List RV) (ρ : Sl) : kRs2 v ds ρ = .ok (v :: ds) ρ := (Eq.refl _).trans rfl
def kRs (h : List Calls) (es : Es) (v : RV) (ρ : Sl) : R (List RV) := (evRs h es ρ).bnd (kRs2 v)
@[simp] theorem kRs_s (h : List Calls) (es : Es) (d : D) (ρ : Sl) : kRs h es (.shr d) ρ = (evRs h es ρ).bnd (kRs2 (.shr d)) := (Eq.refl _).trans rfl
@[simp] theorem kRs_o (h : List Calls) (es : Es) (d : D) (ρ : Sl) : kRs h es (.own d) ρ = (evRs h es ρ).bnd (kRs2 (.own d)) := (Eq.refl _).trans rfl
def kOs2 (o : Opr) (os : List Opr) (ρ : Sl) : R (List Opr) := .ok (o :: os) ρ
@[simp] theorem kOs2_a (o : Opr) (os : List Opr) (ρ : Sl) : kOs2 o os ρ = .ok (o :: os) ρ := (Eq.refl _).trans rfl
def kOs (h : List Calls) (es : Es) (o : Opr) (ρ : Sl) : R (List Opr) := (evOs h es ρ).bnd (kOs2 o)
@[simp] theorem kOs_v (h : List Calls) (es : Es) (d : D) (ρ : Sl) : kOs h es (.val d) ρ = (evOs h es ρ).bnd (kOs2 (.val d)) := (Eq.refl _).trans rfl
@[simp] theorem kOs_s (h : List Calls) (es : Es) (i : Nat) (ρ : Sl) : kOs h es (.slot i) ρ = (evOs h es ρ).bnd (kOs2 (.slot i)) := (Eq.refl _).trans rfl
def kCs (h : List Calls) (es : Es) (o : Opr) (ρ : Sl) : R (List Opr) := (evCs h es ρ).bnd (kOs2 o)
@[simp] theorem kCs_v (h : List Calls) (es : Es) (d : D) (ρ : Sl) : kCs h es (.val d) ρ = (evCs h es ρ).bnd (kOs2 (.val d)) := (Eq.refl _).trans rfl
@[simp] theorem kCs_s (h : List Calls) (es : Es) (i : Nat) (ρ : Sl) : kCs h es (.slot i) ρ = (evCs h es ρ).bnd (kOs2 (.slot i)) := (Eq.refl _).trans rfl
def kOp (o : Op) (os : List Opr) (ρ : Sl) : R RV := R.ofO ρ ((gets ρ os).bind (opv o))
@[simp] theorem kOp_a (o : Op) (x : Opr) (os : List Opr) (ρ : Sl) : kOp o (x :: os) ρ = R.ofO ρ ((gets ρ (x :: os)).bind (opv o)) := (Eq.refl _).trans rfl
def kCmp2 (o : Op) (x y : Opr) (ρ : Sl) : R Bool := match (gets ρ [x, y]).bind (opv o) with
    | some (.shr (.bool c)) => .ok c ρ
    | _ => .fail
theorem kCmp2_eq (o : Op) (x y : Opr) (ρ : Sl) : kCmp2 o x y ρ = (match (gets ρ [x, y]).bind (opv o) with
    | some (.shr (.bool c)) => .ok c ρ
    | _ => .fail) := (Eq.refl _).trans rfl
@[simp] theorem kCmp2_vv (o : Op) (x y : D) (ρ : Sl) : kCmp2 o (.val x) (.val y) ρ = (match (gets ρ [.val x, .val y]).bind (opv o) with
    | some (.shr (.bool c)) => .ok c ρ
    | _ => .fail) := kCmp2_eq ..
@[simp] theorem kCmp2_vs (o : Op) (x : D) (y : Nat) (ρ : Sl) : kCmp2 o (.val x) (.slot y) ρ = (match (gets ρ [.val x, .slot y]).bind (opv o) with
    | some (.shr (.bool c)) => .ok c ρ
    | _ => .fail) := kCmp2_eq ..
@[simp] theorem kCmp2_sv (o : Op) (x : Nat) (y : D) (ρ : Sl) : kCmp2 o (.slot x) (.val y) ρ = (match (gets ρ [.slot x, .val y]).bind (opv o) with
    | some (.shr (.bool c)) => .ok c ρ
    | _ => .fail) := kCmp2_eq ..
@[simp] theorem kCmp2_ss (o : Op) (x y : Nat) (ρ : Sl) : kCmp2 o (.slot x) (.slot y) ρ = (match (gets ρ [.slot x, .slot y]).bind (opv o) with
    | some (.shr (.bool c)) => .ok c ρ
    | _ => .fail) := kCmp2_eq ..
def kCmp (h : List Calls) (o : Op) (b : E) (x : Opr) (ρ : Sl) : R Bool := (evO h b ρ).bnd (kCmp2 o x)
@[simp] theorem kCmp_v (h : List Calls) (o : Op) (b : E) (x : D) (ρ : Sl) : kCmp h o b (.val x) ρ = (evO h b ρ).bnd (kCmp2 o (.val x)) := (Eq.refl _).trans rfl
@[simp] theorem kCmp_s (h : List Calls) (o : Op) (b : E) (x : Nat) (ρ : Sl) : kCmp h o b (.slot x) ρ = (evO h b ρ).bnd (kCmp2 o (.slot x)) := (Eq.refl _).trans rfl
def kChE (h : List Calls) (o' : Op) (c : E) (y : Opr) (r : Option RV) (ρ : Sl) : R RV := match r with
    | some (.shr (.bool true)) => (evO h c ρ).bnd fun z ρ3 => R.ofO ρ3 ((gets ρ3 [y, z]).bind (opv o'))
    | some (.shr (.bool false)) => .ok (.shr (.bool false)) ρ
    | _ => .fail
@[simp] theorem kChE_b (h : List Calls) (o' : Op) (c : E) (y : Opr) (b : Bool) (ρ : Sl) : kChE h o' c y (some (.shr (.bool b))) ρ = if b then (evO h c ρ).bnd fun z ρ3 => R.ofO ρ3 ((gets ρ3 [y, z]).bind (opv o')) else .ok (.shr (.bool false)) ρ := by cases b <;> rfl
def kChT (h : List Calls) (o' : Op) (c : E) (y : Opr) (r : Option RV) (ρ : Sl) : R Bool := match r with
    | some (.shr (.bool true)) => (evO h c ρ).bnd (kCmp2 o' y)
    | some (.shr (.bool false)) => .ok false ρ
    | _ => .fail
@[simp] theorem kChT_b (h : List Calls) (o' : Op) (c : E) (y : Opr) (b : Bool) (ρ : Sl) : kChT h o' c y (some (.shr (.bool b))) ρ = if b then (evO h c ρ).bnd (kCmp2 o' y) else .ok false ρ := by cases b <;> rfl
def kVal (v : RV) (ρ : Sl) : R Opr := .ok (.val v.dd) ρ
@[simp] theorem kVal_a (v : RV) (ρ : Sl) : kVal v ρ = .ok (.val v.dd) ρ := (Eq.refl _).trans rfl
def kTru (o : Opr) (ρ : Sl) : R Bool := R.ofO ρ ((o.get ρ).bind truth)
@[simp] theorem kTru_v (d : D) (ρ : Sl) : kTru (.val d) ρ = R.ofO ρ (truth d) := (Eq.refl _).trans rfl
@[simp] theorem kTru_s (i : Nat) (ρ : Sl) : kTru (.slot i) ρ = R.ofO ρ ((Opr.get ρ (.slot i)).bind truth) := (Eq.refl _).trans rfl
def kRng1 (v : RV) (ρ : Sl) : R Its := match v with
    | .shr (.int j) => if lim62 j then .ok ⟨rangeL 0 j.toNat, none⟩ ρ else .fail
    | _ => .fail
def kRng2 (v u : RV) (ρ : Sl) : R Its := match v, u with
    | .shr (.int i), .shr (.int j) => if lim62 i && lim62 j then .ok ⟨rangeL i (j - i).toNat, none⟩ ρ else .fail
    | _, _ => .fail
theorem range_n (n : Nat) : rangeL 0 n = (List.range n).map fun k => .int (k : Nat) := by
  rw [rangeL_map]; simp
theorem lim_z (j : Int) (h : -1000000 ≤ j) (h2 : j ≤ 1000000) : lim62 j = true := by
  have a : decide (-(2 ^ 62) ≤ j) = true := decide_eq_true (by omega)
  have b : decide (j < 2 ^ 62) = true := decide_eq_true (by omega)
  rw [lim62, a, b]; rfl
theorem kRng1_i (j : Int) (ρ : Sl) (hl : lim62 j = true) : kRng1 (.shr (.int j)) ρ = .ok ⟨(List.range j.toNat).map (fun k : Nat => .int (k : Nat)), none⟩ ρ := by
  rw [kRng1]; simp only [hl, if_true, range_n]
@[simp] theorem kRng1_n (n : Nat) (ρ : Sl) (h : n ≤ 1000000) : kRng1 (.shr (.int (n : Nat))) ρ = .ok ⟨(List.range n).map (fun k : Nat => .int (k : Nat)), none⟩ ρ := by
  rw [kRng1_i _ _ (lim_z _ (by omega) (by omega)), Int.toNat_natCast]
@[simp] theorem kRng1_z (j : Int) (ρ : Sl) (h : -1000000 ≤ j) (h2 : j ≤ 1000000) : kRng1 (.shr (.int j)) ρ = .ok ⟨(List.range j.toNat).map (fun k : Nat => .int (k : Nat)), none⟩ ρ := kRng1_i _ _ (lim_z _ h h2)
@[simp] theorem kRng2_n (i n : Nat) (ρ : Sl) (hi : i ≤ 1000000) (h : n ≤ 1000000) : kRng2 (.shr (.int (i : Nat))) (.shr (.int (n : Nat))) ρ = .ok ⟨(List.range (n - i)).map (fun k : Nat => .int ((i + k : Nat) : Int)), none⟩ ρ := by
  have e : ((n : Int) - (i : Int)).toNat = n - i := by omega
  have l1 := lim_z (i : Int) (by omega) (by omega)
  have l2 := lim_z (n : Int) (by omega) (by omega)
  rw [kRng2]
  simp only [l1, l2, Bool.and_self, if_true, rangeL_map, e]
  congr
@[simp] theorem kRng2_1 (n : Nat) (ρ : Sl) (h : n ≤ 1000000) : kRng2 (.shr (.int 1)) (.shr (.int (n : Nat))) ρ = .ok ⟨(List.range (n - 1)).map (fun k : Nat => .int ((1 + k : Nat) : Int)), none⟩ ρ := kRng2_n 1 n ρ (by omega) h
theorem run_eq (h : List Calls) (sl : Nat) (ps : List Bool) (b : Ss) (ds : List D) : runDef h ⟨sl, ps, b⟩ ds = match parS ps ds with
    | some ρ => fin ps (evSs h b (ρ ++ List.replicate (sl - ps.length) .non))
    | none => .fail := by
  simp only [runDef]
  cases parS ps ds with
  | none => rfl
  | some ρ => simp only; cases evSs h b (ρ ++ List.replicate (sl - ps.length) .non) <;> rfl
section
variable (h : List Calls) (ρ : Sl)
@[simp] theorem w_nil : evSs h .nil ρ = .nx ρ := by rw [evSs]; try rfl
@[simp] theorem w_cons (s : S) (ss : Ss) : evSs h (.cons s ss) ρ = (evS h s ρ).seq (evSs h ss) := by
  rw [evSs]; cases evS h s ρ <;> rfl
@[simp] theorem w_pass : evS h .pass ρ = .nx ρ := by rw [evS]; try rfl
@[simp] theorem w_brk : evS h .brk ρ = .bk ρ := by rw [evS]; try rfl
@[simp] theorem w_cnt : evS h .cnt ρ = .ct ρ := by rw [evS]; try rfl
@[simp] theorem w_ex (e : E) : evS h (.ex e) ρ = (evE h e ρ).brn fun _ ρ' => .nx ρ' := by
  rw [evS]; cases evE h e ρ <;> rfl
@[simp] theorem w_set (tg : Tg) (e : E) : evS h (.set tg e) ρ = (evE h e ρ).brn (kSet tg) := by
  rw [evS]; cases evE h e ρ with
  | ok v ρ' => simp only [R.brn, kSet]; cases asg tg v ρ' <;> rfl
  | _ => rfl
@[simp] theorem w_par (is : List Nat) (es : Es) : evS h (.par is es) ρ = (evRs h es ρ).brn (kPar is) := by
  rw [evS]; cases evRs h es ρ with
  | ok v ρ' => simp only [R.brn, kPar]; cases putAll is v ρ' <;> rfl
  | _ => rfl
@[simp] theorem w_ret (e : E) (he : ∀ i, e ≠ .var i) : evS h (.ret e) ρ = (evE h e ρ).brn fun v ρ' => .rt v ρ' := by
  rw [evS]
  · cases evE h e ρ <;> rfl
  · exact he
@[simp] theorem w_retv (i : Nat) : evS h (.ret (.var i)) ρ = match getS ρ i with
      | .shr d => .rt (.shr d) ρ
      | .hld false false d => .rt (.own d) (ρ.set i .non)
      | _ => .fail := by rw [evS]; try rfl
@[simp] theorem w_retn : evS h .retn ρ = .rt (.shr .none) ρ := by rw [evS]; try rfl
@[simp] theorem w_rais (c : Str) : evS h (.rais c) ρ = .exc c ρ := by rw [evS]; try rfl
@[simp] theorem w_ite (t : T) (a b : Ss) : evS h (.ite t a b) ρ = (evT h t ρ).brn (kIte h a b) := by
  rw [evS]; cases evT h t ρ <;> rfl
@[simp] theorem w_aug (i : Nat) (e : E) : evS h (.aug i .add e) ρ = match getS ρ i with
      | .shr (.int j) => (evE h e ρ).brn fun v ρ' => match v with
        | .shr (.int k) => .ofO (setS ρ' i (.shr (.int (j + k))))
        | _ => .fail
      | _ => .fail := by
  rw [evS.eq_def]
  simp only
  cases getS ρ i with
  | shr d => cases d with
    | int j =>
      simp only
      cases evE h e ρ with
      | ok v ρ' => 
        cases v with
        | shr d => cases d with
          | int k => simp only [R.brn]; cases setS ρ' i (.shr (.int (j + k))) <;> rfl
          | _ => rfl
        | own d => rfl
      | _ => rfl
    | _ => rfl
  | _ => rfl
@[simp] theorem w_sto (i : Nat) (k v : E) : evS h (.sto i k v) ρ = (evE h v ρ).brn fun y ρ1 => match getS ρ1 i with
      | .hld _ _ _ => (evE h k ρ1).brn fun x ρ2 => stoV ρ2 i x y.dd
      | _ => .fail := by
  rw [evS]
  cases evE h v ρ with
  | ok y ρ1 =>
    simp only [R.brn]
    cases getS ρ1 i with
    | hld a b d => simp only; cases evE h k ρ1 <;> rfl
    | _ => rfl
  | _ => rfl
@[simp] theorem w_del (i : Nat) (k : E) : evS h (.del i k) ρ = match getS ρ i with
      | .hld _ _ _ => (evE h k ρ).brn fun x ρ2 => delV ρ2 i x
      | _ => .fail := by
  rw [evS]
  cases getS ρ i with
  | hld a b d => simp only; cases evE h k ρ <;> rfl
  | _ => rfl
@[simp] theorem x_cst (d : D) : evE h (.cst d) ρ = .ok (.shr d) ρ := by rw [evE]; try rfl
@[simp] theorem x_var (i : Nat) : evE h (.var i) ρ = match getS ρ i with
    | .shr d => .ok (.shr d) ρ
    | .hld false false d => .ok (.shr d) (ρ.set i (.shr d))
    | _ => .fail := by rw [evE]; try rfl
@[simp] theorem x_tup (es : Es) : evE h (.tup es) ρ = (evEs h es ρ).bnd fun ds ρ' => .ok (.shr (.tuple ds)) ρ' := by rw [evE]; try rfl
@[simp] theorem x_lst (es : Es) : evE h (.lst es) ρ = (evEs h es ρ).bnd fun ds ρ' => .ok (.own (.list ds)) ρ' := by rw [evE]; try rfl
@[simp] theorem x_dic : evE h (.dic .nil .nil) ρ = .ok (.own (.dict [])) ρ := by rw [evE.eq_def]; try rfl
@[simp] theorem x_op (o : Op) (es : Es) : evE h (.op o es) ρ = (evOs h es ρ).bnd (kOp o) := by rw [evE]; try rfl
@[simp] theorem x_sl (e : E) (lo hi : Eo) : evE h (.sl e lo hi) ρ = (evO h e ρ).bnd fun o ρ1 => (evEo h lo ρ1).bnd fun l ρ2 => (evEo h hi ρ2).bnd fun u ρ3 => match o.get ρ3 with
    | some (.list xs) => .ok (.own (.list (cut xs l u))) ρ3
    | some (.tuple xs) => .ok (.shr (.tuple (cut xs l u))) ρ3
    | _ => .fail := by rw [evE]; try rfl
@[simp] theorem x_slr (e : E) : evE h (.slr e) ρ = (evO h e ρ).bnd fun o ρ1 => match o.get ρ1 with
    | some (.list xs) => .ok (.own (.list xs.reverse)) ρ1
    | some (.tuple xs) => .ok (.shr (.tuple xs.reverse)) ρ1
    | _ => .fail := by rw [evE]; try rfl
@[simp] theorem x_not (e : E) : evE h (.not e) ρ = (evE h e ρ).bnd fun v ρ' => match v with
    | .shr (.bool b) => .ok (.shr (.bool (!b))) ρ'
    | _ => .fail := by rw [evE]; try rfl
@[simp] theorem x_and (a b : E) : evE h (.and a b) ρ = (evE h a ρ).bnd (kAnd h b) := by rw [evE]; try rfl
@[simp] theorem x_or (a b : E) : evE h (.or a b) ρ = (evE h a ρ).bnd (kOr h b) := by rw [evE]; try rfl
@[simp] theorem x_cond (t : T) (a b : E) : evE h (.cond t a b) ρ = (evT h t ρ).bnd (kCond h a b) := by rw [evE]; try rfl
@[simp] theorem x_chain (o o' : Op) (a b c : E) : evE h (.chain o o' a b c) ρ = (evO h a ρ).bnd fun x ρ1 => (evO h b ρ1).bnd fun y ρ2 => kChE h o' c y ((gets ρ2 [x, y]).bind (opv o)) ρ2 := by rw [evE]; try rfl
@[simp] theorem x_call (c : Calls) (t : List Calls) (f : Nat) (es : Es) : evE (c :: t) (.call f es) ρ = (evCs (c :: t) es ρ).bnd (kCall c f) := by rw [evE.eq_def]; try rfl
@[simp] theorem x_scall (c : Calls) (t : List Calls) (f : Nat) (m : List Bool) (es : Es) : evE (c :: t) (.scall f m es) ρ = ((evEs (c :: t) es ρ).bnd fun ds ρ' => if maskOf (ds.map .val) = m then .ok (ds.map .val) ρ' else .fail).bnd (kCall c f) := by rw [evE.eq_def]; try rfl
@[simp] theorem x_tups (es : Es) : evE h (.tups es) ρ = (evEs h es ρ).bnd fun ds ρ' => if ds.length ≤ mAx then .ok (.shr (.tuple ds)) ρ' else .fail := by rw [evE]; try rfl
@[simp] theorem x_lsts (es : Es) : evE h (.lsts es) ρ = (evEs h es ρ).bnd fun ds ρ' => if ds.length ≤ mAx then .ok (.own (.list ds)) ρ' else .fail := by rw [evE]; try rfl
@[simp] theorem x_mth (m : Mt) (i : Nat) (es : Es) : evE h (.mth m i es) ρ = match getS ρ i with
    | .hld _ _ (.list _) => (evEs h es ρ).bnd fun ds ρ' => match getS ρ' i with
      | .hld io false (.list xs) => match mth m xs ds with
        | some (v, ys) => .ok (.shr v) (ρ'.set i (.hld io false (.list ys)))
        | none => .fail
      | _ => .fail
    | _ => .fail := by rw [evE]; try rfl
@[simp] theorem eo_none : evEo h .none ρ = .ok none ρ := by rw [evEo]; try rfl
@[simp] theorem eo_some (e : E) : evEo h (.some e) ρ = (evE h e ρ).bnd fun v ρ' => match v with
    | .shr (.int i) => .ok (some i) ρ'
    | _ => .fail := by rw [evEo]; try rfl
@[simp] theorem es_nil : evEs h .nil ρ = .ok [] ρ := by rw [evEs]; try rfl
@[simp] theorem es_cons (e : E) (es : Es) (he : ∀ e', e ≠ .star e') : evEs h (.cons e es) ρ = (evE h e ρ).bnd (kEs h es) := by
  rw [evEs]
  · rfl
  · exact he
@[simp] theorem es_star (e' : E) (es : Es) : evEs h (.cons (.star e') es) ρ = (evO h e' ρ).bnd fun o ρ1 => match o.get ρ1 with
      | some (.tuple xs) => (evEs h es ρ1).bnd fun ds ρ2 => .ok (xs ++ ds) ρ2
      | some (.list xs) => (evEs h es ρ1).bnd fun ds ρ2 => .ok (xs ++ ds) ρ2
      | _ => .fail := by rw [evEs]; try rfl
@[simp] theorem rs_nil : evRs h .nil ρ = .ok [] ρ := by rw [evRs]; try rfl
@[simp] theorem rs_cons (e : E) (es : Es) : evRs h (.cons e es) ρ = (evE h e ρ).bnd (kRs h es) := by rw [evRs]; try rfl
@[simp] theorem o_var (i : Nat) : evO h (.var i) ρ = match getS ρ i with
      | .shr d => .ok (.val d) ρ
      | .hld _ _ _ => .ok (.slot i) ρ
      | .non => .fail := by rw [evO]; try rfl
@[simp] theorem o_else (e : E) (he : ∀ i, e ≠ .var i) : evO h e ρ = (evE h e ρ).bnd kVal := by
  rw [evO]
  · rfl
  · exact he
@[simp] theorem c_ref (i : Nat) : evC h (.ref i) ρ = match getS ρ i with
      | .hld _ false _ => .ok (.slot i) ρ
      | _ => .fail := by rw [evC]; try rfl
@[simp] theorem c_else (e : E) (he : ∀ i, e ≠ .ref i) : evC h e ρ = (evE h e ρ).bnd kVal := by
  rw [evC]
  · rfl
  · exact he
@[simp] theorem cs_nil : evCs h .nil ρ = .ok [] ρ := by rw [evCs]; try rfl
@[simp] theorem cs_cons (e : E) (es : Es) : evCs h (.cons e es) ρ = (evC h e ρ).bnd (kCs h es) := by rw [evCs]; try rfl
@[simp] theorem os_nil : evOs h .nil ρ = .ok [] ρ := by rw [evOs]; try rfl
@[simp] theorem os_cons (e : E) (es : Es) : evOs h (.cons e es) ρ = (evO h e ρ).bnd (kOs h es) := by rw [evOs]; try rfl
@[simp] theorem t_yes : evT h .yes ρ = .ok true ρ := by rw [evT]; try rfl
@[simp] theorem t_val (e : E) : evT h (.val e) ρ = (evO h e ρ).bnd kTru := by rw [evT]; try rfl
@[simp] theorem t_not (t : T) : evT h (.not t) ρ = (evT h t ρ).bnd fun b ρ' => .ok (!b) ρ' := by rw [evT]; try rfl
@[simp] theorem t_and (a b : T) : evT h (.and a b) ρ = (evT h a ρ).bnd (kTAnd h b) := by rw [evT]; try rfl
@[simp] theorem t_or (a b : T) : evT h (.or a b) ρ = (evT h a ρ).bnd (kTOr h b) := by rw [evT]; try rfl
@[simp] theorem t_cmp (o : Op) (a b : E) : evT h (.cmp o a b) ρ = (evO h a ρ).bnd (kCmp h o b) := by rw [evT]; try rfl
@[simp] theorem t_chain (o o' : Op) (a b c : E) : evT h (.chain o o' a b c) ρ = (evO h a ρ).bnd fun x ρ1 => (evO h b ρ1).bnd fun y ρ2 => kChT h o' c y ((gets ρ2 [x, y]).bind (opv o)) ρ2 := by rw [evT]; try rfl
@[simp] theorem i_rng1 (a : E) : evIt h (.rng1 a) ρ = (evE h a ρ).bnd kRng1 := by rw [evIt]; rfl
@[simp] theorem i_rng2 (a b : E) : evIt h (.rng2 a b) ρ = (evE h a ρ).bnd fun v ρ1 => (evE h b ρ1).bnd (kRng2 v) := by rw [evIt]; rfl
@[simp] theorem i_seq (e : E) : evIt h (.seq e) ρ = (evO h e ρ).bnd fun o ρ' => match o, o.get ρ' with
    | .slot i, some (.list xs) => .ok ⟨xs, some i⟩ ρ'
    | .val _, some (.list xs) => .ok ⟨xs, none⟩ ρ'
    | .val _, some (.tuple xs) => .ok ⟨xs, none⟩ ρ'
    | .val _, some (.dict [(.none, .list xs)]) => .ok ⟨xs, none⟩ ρ'
    | _, _ => .fail := by rw [evIt]; try rfl
@[simp] theorem i_enum (e : E) : evIt h (.enum e) ρ = (evO h e ρ).bnd fun o ρ' => match o, o.get ρ' with
    | .slot i, some (.list xs) => .ok ⟨xs.zipIdx.map fun p => .tuple [.int p.2, p.1], some i⟩ ρ'
    | .val _, some (.list xs) => .ok ⟨xs.zipIdx.map fun p => .tuple [.int p.2, p.1], none⟩ ρ'
    | .val _, some (.tuple xs) => .ok ⟨xs.zipIdx.map fun p => .tuple [.int p.2, p.1], none⟩ ρ'
    | _, _ => .fail := by rw [evIt]; try rfl
end
/-! ### loops and comprehensions, told once -/
section
variable {τ σ : Type} {h : List Calls} {tg : Tg} {it : It} {b : Ss} {ρ : Sl}
/-- a loop over a value; the slots told by a state -/
theorem for_st (mk : σ → Sl) (step : σ → τ → σ) (g : τ → D) (I : σ → Prop) (zs : List τ) (s0 : σ)
    (hit : evIt h it ρ = .ok ⟨zs.map g, none⟩ ρ) (h0 : ρ = mk s0) (hI : I s0)
    (hx : ∀ s, I s → ∀ z ∈ zs, I (step s z) ∧ ∃ r ρ', asg tg (.shr (g z)) (mk s) = some r ∧ (evSs h b r = .nx ρ' ∨ evSs h b r = .ct ρ') ∧ rst ρ ρ' = mk (step s z)) :
    evS h (.for_ tg it b) ρ = .nx (mk (zs.foldl step s0)) ∧ I (zs.foldl step s0) :=
  for_run (ρ := ρ) (ρ1 := ρ) (ρ2 := ρ) (lk := none) mk step g I zs s0 hit rfl h0 hI hx
/-- what a turn may come to: K behind it, B behind a break, Q of another end -/
def Trn (K B : Sl → Prop) (Q : Out → Prop) : Out → Prop
  | .fail => False
  | .nx ρ => K ρ
  | .ct ρ => K ρ
  | .bk ρ => B ρ
  | .rt v ρ => Q (.rt v ρ)
  | .exc c ρ => Q (.exc c ρ)
section
variable (K B : Sl → Prop) (Q : Out → Prop) (r : Sl)
@[simp] theorem trn_nx : Trn K B Q (.nx r) = K r := (Eq.refl _).trans rfl
@[simp] theorem trn_ct : Trn K B Q (.ct r) = K r := (Eq.refl _).trans rfl
@[simp] theorem trn_bk : Trn K B Q (.bk r) = B r := (Eq.refl _).trans rfl
@[simp] theorem trn_rt (v : RV) : Trn K B Q (.rt v r) = Q (.rt v r) := (Eq.refl _).trans rfl
@[simp] theorem trn_exc (c : Str) : Trn K B Q (.exc c r) = Q (.exc c r) := (Eq.refl _).trans rfl
end
/-- ends as planned -/
def Nx (P : Sl → Prop) : Out → Prop
  | .nx r => P r
  | _ => False
@[simp] theorem nx_nx (P : Sl → Prop) (r : Sl) : Nx P (.nx r) = P r := (Eq.refl _).trans rfl
/-- ways come together -/
theorem join {o : Out} {k : Sl → Out} {Q : Out → Prop} (P : Sl → Prop) (ho : Nx P o) (hk : ∀ r, P r → Q (k r)) : Q (o.seq k) := by
  cases o <;> first | exact hk _ ho | exact ho.elim
theorem forL_trn {ρ0 : Sl} {f : D → Sl → Out} {k : Sl → Out} {Q : Out → Prop} (g : τ → D) (P : Nat → Sl → Prop) : (done zs : List τ) → (r : Sl) → P done.length r →
    (hx : ∀ j z r, (done ++ zs)[j]? = some z → P j r → Trn (fun ρ' => P (j + 1) (rst ρ0 ρ')) (fun ρ' => Q (k (rst ρ0 ρ'))) Q (f (g z) r)) →
    (hk : ∀ r, P (done ++ zs).length r → Q (k r)) → Q ((forL ρ0 f (zs.map g) r).seq k)
  | done, [], r, hp, hx, hk => by
    simp only [List.map_nil, forL, seq_nx]
    exact hk r (by simpa using hp)
  | done, z :: zs, r, hp, hx, hk => by
    have h1 := hx done.length z r (by simp) hp
    have h2 := fun r' (hp' : P (done ++ [z]).length r') => forL_trn (ρ0 := ρ0) (f := f) (k := k) (Q := Q) g P (done ++ [z]) zs r' hp' (by simpa using hx) (by simpa using hk)
    simp only [List.length_append, List.length_cons, List.length_nil, Nat.zero_add] at h2
    simp only [List.map_cons, forL]
    cases hf : f (g z) r with
    | fail => rw [hf] at h1; exact h1.elim
    | nx ρ' => rw [hf] at h1; exact h2 _ h1
    | ct ρ' => rw [hf] at h1; exact h2 _ h1
    | bk ρ' => rw [hf] at h1; exact h1
    | rt v ρ' => rw [hf] at h1; exact h1
    | exc c ρ' => rw [hf] at h1; exact h1
theorem map_id' (o : Out) : Out.map (fun ρ => ρ) o = o := by cases o <;> rfl
/-- a loop over a value, by what holds behind each turn; ρ1: the slots behind the walked value -/
theorem for_fullx (ρ1 : Sl) {k : Sl → Out} {Q : Out → Prop} (P : Nat → Sl → Prop) (g : τ → D) (zs : List τ)
    (hit : evIt h it ρ = .ok ⟨zs.map g, none⟩ ρ1) (h0 : P 0 ρ1)
    (hx : ∀ j z r, zs[j]? = some z → P j r → Trn (fun ρ' => P (j + 1) (rst ρ1 ρ')) (fun ρ' => Q (k (rst ρ1 ρ'))) Q ((Out.ofO (asg tg (.shr (g z)) r)).seq (evSs h b)))
    (hk : ∀ r, P zs.length r → Q (k r)) : Q ((evS h (.for_ tg it b) ρ).seq k) := by
  have e : evS h (.for_ tg it b) ρ = forL ρ1 (fun x r => (Out.ofO (asg tg (.shr x) r)).seq (evSs h b)) (zs.map g) ρ1 := by
    rw [evS.eq_def]
    simp only [hit, lockS]
    rw [show (fun ρ2 => unlockS ρ1 ρ2 none) = fun ρ => ρ from rfl, map_id']
    congr 1
    funext x r
    cases asg tg (.shr x) r <;> rfl
  rw [e]
  exact forL_trn g P [] zs ρ1 h0 (by simpa using hx) (by simpa using hk)
/-- .. whose turns go all through -/
theorem for_invx (ρ1 : Sl) {k : Sl → Out} {Q : Out → Prop} (P : Nat → Sl → Prop) (g : τ → D) (zs : List τ)
    (hit : evIt h it ρ = .ok ⟨zs.map g, none⟩ ρ1) (h0 : P 0 ρ1)
    (hx : ∀ j z r, zs[j]? = some z → P j r → Trn (fun ρ' => P (j + 1) (rst ρ1 ρ')) (fun _ => False) (fun _ => False) ((Out.ofO (asg tg (.shr (g z)) r)).seq (evSs h b)))
    (hk : ∀ r, P zs.length r → Q (k r)) : Q ((evS h (.for_ tg it b) ρ).seq k) := by
  refine for_fullx ρ1 P g zs hit h0 (fun j z r hz hp => ?_) hk
  have := hx j z r hz hp
  revert this
  cases (Out.ofO (asg tg (.shr (g z)) r)).seq (evSs h b) <;> simp [Trn]
/-- .. whose turns may end the def -/
theorem for_retx (ρ1 : Sl) {k : Sl → Out} {Q : Out → Prop} (P : Nat → Sl → Prop) (g : τ → D) (zs : List τ)
    (hit : evIt h it ρ = .ok ⟨zs.map g, none⟩ ρ1) (h0 : P 0 ρ1)
    (hx : ∀ j z r, zs[j]? = some z → P j r → Trn (fun ρ' => P (j + 1) (rst ρ1 ρ')) (fun _ => False) Q ((Out.ofO (asg tg (.shr (g z)) r)).seq (evSs h b)))
    (hk : ∀ r, P zs.length r → Q (k r)) : Q ((evS h (.for_ tg it b) ρ).seq k) := by
  refine for_fullx ρ1 P g zs hit h0 (fun j z r hz hp => ?_) hk
  have := hx j z r hz hp
  revert this
  cases (Out.ofO (asg tg (.shr (g z)) r)).seq (evSs h b) <;> simp [Trn]
theorem for_full {k : Sl → Out} {Q : Out → Prop} (P : Nat → Sl → Prop) (g : τ → D) (zs : List τ)
    (hit : evIt h it ρ = .ok ⟨zs.map g, none⟩ ρ) (h0 : P 0 ρ)
    (hx : ∀ j z r, zs[j]? = some z → P j r → Trn (fun ρ' => P (j + 1) (rst ρ ρ')) (fun ρ' => Q (k (rst ρ ρ'))) Q ((Out.ofO (asg tg (.shr (g z)) r)).seq (evSs h b)))
    (hk : ∀ r, P zs.length r → Q (k r)) : Q ((evS h (.for_ tg it b) ρ).seq k) := for_fullx ρ P g zs hit h0 hx hk
theorem for_inv {k : Sl → Out} {Q : Out → Prop} (P : Nat → Sl → Prop) (g : τ → D) (zs : List τ)
    (hit : evIt h it ρ = .ok ⟨zs.map g, none⟩ ρ) (h0 : P 0 ρ)
    (hx : ∀ j z r, zs[j]? = some z → P j r → Trn (fun ρ' => P (j + 1) (rst ρ ρ')) (fun _ => False) (fun _ => False) ((Out.ofO (asg tg (.shr (g z)) r)).seq (evSs h b)))
    (hk : ∀ r, P zs.length r → Q (k r)) : Q ((evS h (.for_ tg it b) ρ).seq k) := for_invx ρ P g zs hit h0 hx hk
theorem for_ret {k : Sl → Out} {Q : Out → Prop} (P : Nat → Sl → Prop) (g : τ → D) (zs : List τ)
    (hit : evIt h it ρ = .ok ⟨zs.map g, none⟩ ρ) (h0 : P 0 ρ)
    (hx : ∀ j z r, zs[j]? = some z → P j r → Trn (fun ρ' => P (j + 1) (rst ρ ρ')) (fun _ => False) Q ((Out.ofO (asg tg (.shr (g z)) r)).seq (evSs h b)))
    (hk : ∀ r, P zs.length r → Q (k r)) : Q ((evS h (.for_ tg it b) ρ).seq k) := for_retx ρ P g zs hit h0 hx hk
/-- a loop over a slot's list, by what holds behind each turn; its end alone -/
theorem for_lk (i : Nat) (io : Bool) {k : Sl → Out} {Q : Out → Prop} (P : Nat → Sl → Prop) (g : τ → D) (zs : List τ) (ρ2 : Sl)
    (hit : evIt h it ρ = .ok ⟨zs.map g, some i⟩ ρ) (hlk : lockS ρ (some i) = some ρ2) (h0 : P 0 ρ2)
    (hx : ∀ j z r, zs[j]? = some z → P j r → Trn (fun ρ' => P (j + 1) (rst ρ2 ρ')) (fun ρ' => Q (k (unlockS ρ (rst ρ2 ρ') (some i)))) (fun o => Q (o.map fun ρ2 => unlockS ρ ρ2 (some i))) ((Out.ofO (asg tg (.shr (g z)) r)).seq (evSs h b)))
    (hk : ∀ r, P zs.length r → Q (k (unlockS ρ r (some i)))) : Q ((evS h (.for_ tg it b) ρ).seq k) := by
  have e : evS h (.for_ tg it b) ρ = (forL ρ2 (fun x r => (Out.ofO (asg tg (.shr x) r)).seq (evSs h b)) (zs.map g) ρ2).map fun ρ2 => unlockS ρ ρ2 (some i) := by
    rw [evS.eq_def]
    simp only [hit, hlk]
    congr 2
    funext x r
    cases asg tg (.shr x) r <;> rfl
  rw [e]
  have key := forL_trn (ρ0 := ρ2) (f := fun x r => (Out.ofO (asg tg (.shr x) r)).seq (evSs h b)) (k := fun r => .nx r) (Q := fun o => Q ((o.map fun ρ2 => unlockS ρ ρ2 (some i)).seq k)) g P [] zs ρ2 h0
    (by
      intro j z r hz hp
      have := hx j z r (by simpa using hz) hp
      revert this
      cases (Out.ofO (asg tg (.shr (g z)) r)).seq (evSs h b) <;> exact id) (by intro r hp; exact hk r (by simpa using hp))
  revert key
  cases forL ρ2 (fun x r => (Out.ofO (asg tg (.shr x) r)).seq (evSs h b)) (zs.map g) ρ2 <;> exact id
/-- .. whose turns go all through -/
theorem for_lki (i : Nat) {k : Sl → Out} {Q : Out → Prop} (P : Nat → Sl → Prop) (g : τ → D) (zs : List τ) (ρ2 : Sl)
    (hit : evIt h it ρ = .ok ⟨zs.map g, some i⟩ ρ) (hlk : lockS ρ (some i) = some ρ2) (h0 : P 0 ρ2)
    (hx : ∀ j z r, zs[j]? = some z → P j r → Trn (fun ρ' => P (j + 1) (rst ρ2 ρ')) (fun _ => False) (fun _ => False) ((Out.ofO (asg tg (.shr (g z)) r)).seq (evSs h b)))
    (hk : ∀ r, P zs.length r → Q (k (unlockS ρ r (some i)))) : Q ((evS h (.for_ tg it b) ρ).seq k) := by
  refine for_lk i false P g zs ρ2 hit hlk h0 (fun j z r hz hp => ?_) hk
  have := hx j z r hz hp
  revert this
  cases (Out.ofO (asg tg (.shr (g z)) r)).seq (evSs h b) <;> simp [Trn]
variable {vs : List Nat} {ts : T} {e : E}
/-- a comprehension over a value -/
theorem comp_val (g : τ → D) (f : τ → Option D) (zs : List τ)
    (hit : evIt h it ρ = .ok ⟨zs.map g, none⟩ ρ) (hm : noMut ρ vs = true) (hb : backS ρ (wipeS ρ vs) vs = ρ) (hl : zs.length ≤ mAx)
    (hx : ∀ z ∈ zs, turn vs tg (evT h ts) (fun r => (evE h e r).dat) (g z) (wipeS ρ vs) = .ok (f z) (wipeS ρ vs)) :
    evE h (.comp vs tg it ts e) ρ = .ok (.own (.list (zs.filterMap f))) ρ :=
  comp_map (lk := none) (ρ1 := ρ) (ρ2 := ρ) g f zs hit rfl hm hb hl hx
/-- what a comprehension's turn comes to -/
def TrnC {α : Type} (K : α → Sl → Prop) : R α → Prop
  | .ok o r => K o r
  | _ => False
@[simp] theorem trnC_ok {α : Type} (K : α → Sl → Prop) (o : α) (r : Sl) : TrnC K (.ok o r) = K o r := (Eq.refl _).trans rfl
theorem compL_inv {f : D → Sl → R (Option D)} (g : τ → D) (P : Nat → List D → Sl → Prop) : (done zs : List τ) → (ys : List D) → (r : Sl) → P done.length ys r →
    (hx : ∀ j z ys r, (done ++ zs)[j]? = some z → P j ys r → TrnC (fun o r' => P (j + 1) (ys ++ o.toList) r') (f (g z) r)) →
    ∃ zs' r', compL f (zs.map g) r = .ok zs' r' ∧ P (done ++ zs).length (ys ++ zs') r'
  | done, [], ys, r, hp, hx => ⟨[], r, rfl, by simpa using hp⟩
  | done, z :: zs, ys, r, hp, hx => by
    have h1 := hx done.length z ys r (by simp) hp
    cases hf : f (g z) r with
    | fail => rw [hf] at h1; exact h1.elim
    | exc c r' => rw [hf] at h1; exact h1.elim
    | ok o r' =>
      rw [hf] at h1
      obtain ⟨zs', r2, e, p⟩ := compL_inv (f := f) g P (done ++ [z]) zs (ys ++ o.toList) r' (by simpa using h1) (by simpa using hx)
      refine ⟨o.toList ++ zs', r2, ?_, by simpa using p⟩
      simp [compL, hf, e, R.bind]
/-- a comprehension by what holds behind each turn; ρ1: the slots behind the walked value -/
theorem comp_qx (ρ1 : Sl) {Q : R RV → Prop} (P : Nat → List D → Sl → Prop) (g : τ → D) (zs : List τ)
    (hit : evIt h it ρ = .ok ⟨zs.map g, none⟩ ρ1) (hm : noMut ρ1 vs = true) (hl : zs.length ≤ mAx) (h0 : P 0 [] (wipeS ρ1 vs))
    (hx : ∀ j z ys r, zs[j]? = some z → P j ys r → TrnC (fun o r' => P (j + 1) (ys ++ o.toList) r') (turn vs tg (evT h ts) (fun r => (evE h e r).dat) (g z) r))
    (hk : ∀ ys r', P zs.length ys r' → Q (.ok (.own (.list ys)) (backS ρ1 r' vs))) : Q (evE h (.comp vs tg it ts e) ρ) := by
  obtain ⟨ys, r', e1, p⟩ := compL_inv (f := turn vs tg (evT h ts) fun r => (evE h e r).dat) g P [] zs [] (wipeS ρ1 vs) h0 (by simpa using hx)
  have : evE h (.comp vs tg it ts e) ρ = .ok (.own (.list ys)) (backS ρ1 r' vs) := by
    rw [evE]
    simp only [hit, bind_ok, lockS, inBlk, hm, if_true, e1, noX, List.length_map, hl, unlockS]
  rw [this]
  exact hk ys r' (by simpa using p)
theorem comp_q {Q : R RV → Prop} (P : Nat → List D → Sl → Prop) (g : τ → D) (zs : List τ)
    (hit : evIt h it ρ = .ok ⟨zs.map g, none⟩ ρ) (hm : noMut ρ vs = true) (hl : zs.length ≤ mAx) (h0 : P 0 [] (wipeS ρ vs))
    (hx : ∀ j z ys r, zs[j]? = some z → P j ys r → TrnC (fun o r' => P (j + 1) (ys ++ o.toList) r') (turn vs tg (evT h ts) (fun r => (evE h e r).dat) (g z) r))
    (hk : ∀ ys r', P zs.length ys r' → Q (.ok (.own (.list ys)) (backS ρ r' vs))) : Q (evE h (.comp vs tg it ts e) ρ) := comp_qx ρ P g zs hit hm hl h0 hx hk
/-- .. over a slot's list -/
theorem comp_lk (i : Nat) (g : τ → D) (f : τ → Option D) (zs : List τ) {ρ2 : Sl}
    (hit : evIt h it ρ = .ok ⟨zs.map g, some i⟩ ρ) (hlk : lockS ρ (some i) = some ρ2) (hm : noMut ρ2 vs = true) (hb : backS ρ2 (wipeS ρ2 vs) vs = ρ2) (hl : zs.length ≤ mAx)
    (hx : ∀ z ∈ zs, turn vs tg (evT h ts) (fun r => (evE h e r).dat) (g z) (wipeS ρ2 vs) = .ok (f z) (wipeS ρ2 vs)) (hu : unlockS ρ ρ2 (some i) = ρ) :
    evE h (.comp vs tg it ts e) ρ = .ok (.own (.list (zs.filterMap f))) ρ := by
  rw [comp_map (lk := some i) (ρ1 := ρ) (ρ2 := ρ2) g f zs hit hlk hm hb hl hx, hu]
theorem stop_map {b : Bool} {f : D → Sl → R (Option Bool)} (g : τ → D) (p : τ → Bool) : (zs : List τ) → (h : ∀ z ∈ zs, f (g z) ρ = .ok (some (p z)) ρ) → stopL b f (zs.map g) ρ = .ok (if zs.any (fun z => p z == b) then b else !b) ρ
  | [], _ => by simp [stopL]
  | x :: xs, h => by
    have e := h x (by simp)
    have r := stop_map (b := b) g p xs fun y hy => h y (by simp [hy])
    by_cases q : p x = b
    · simp [stopL, e, q]
    · have q2 : (p x == b) = false := by simpa using q
      simp [stopL, e, r, q, q2]
theorem all_if (p : τ → Bool) (xs : List τ) : (if xs.any (fun x => p x == false) then false else !false) = xs.all p := by
  induction xs with
  | nil => rfl
  | cons x xs ih => cases q : p x <;> simp_all
theorem any_if (p : τ → Bool) (xs : List τ) : (if xs.any (fun x => p x == true) then true else !true) = xs.any p := by
  induction xs with
  | nil => rfl
  | cons x xs ih => cases q : p x <;> simp_all
variable {c : Calls} {t : List Calls} {q : Qt}
theorem gen_st {b : Bool} {lk : Option Nat} {ρ2 : Sl} (g : τ → D) (p : τ → Bool) (zs : List τ) (hq : q.end? = some b)
    (hit : evIt (c :: t) it ρ = .ok ⟨zs.map g, lk⟩ ρ) (hlk : lockS ρ lk = some ρ2) (hm : noMut ρ2 vs = true) (hb : backS ρ2 (wipeS ρ2 vs) vs = ρ2)
    (hx : ∀ z ∈ zs, turn vs tg (evT t ts) (fun r => (evE t e r).bind fun v r' => R.ofO r' (boolOf v)) (g z) (wipeS ρ2 vs) = .ok (some (p z)) (wipeS ρ2 vs)) (hu : unlockS ρ ρ2 lk = ρ) :
    evE (c :: t) (.gen q vs tg it ts e) ρ = .ok (.shr (.bool (if zs.any (fun z => p z == b) then b else !b))) ρ := by
  have r := stop_map (b := b) g p zs hx
  rw [evE.eq_def]
  simp only [hq, hit, bind_ok, hlk, inBlk, hm, if_true, r, noX, hb, hu]
theorem all_val (g : τ → D) (p : τ → Bool) (zs : List τ)
    (hit : evIt (c :: t) it ρ = .ok ⟨zs.map g, none⟩ ρ) (hm : noMut ρ vs = true) (hb : backS ρ (wipeS ρ vs) vs = ρ)
    (hx : ∀ z ∈ zs, turn vs tg (evT t ts) (fun r => (evE t e r).bnd fun v r' => R.ofO r' (boolOf v)) (g z) (wipeS ρ vs) = .ok (some (p z)) (wipeS ρ vs)) :
    evE (c :: t) (.gen .all vs tg it ts e) ρ = .ok (.shr (.bool (zs.all p))) ρ := by
  rw [gen_st (lk := none) (ρ2 := ρ) (b := false) g p zs rfl hit rfl hm hb hx rfl, all_if]
theorem any_val (g : τ → D) (p : τ → Bool) (zs : List τ)
    (hit : evIt (c :: t) it ρ = .ok ⟨zs.map g, none⟩ ρ) (hm : noMut ρ vs = true) (hb : backS ρ (wipeS ρ vs) vs = ρ)
    (hx : ∀ z ∈ zs, turn vs tg (evT t ts) (fun r => (evE t e r).bnd fun v r' => R.ofO r' (boolOf v)) (g z) (wipeS ρ vs) = .ok (some (p z)) (wipeS ρ vs)) :
    evE (c :: t) (.gen .any vs tg it ts e) ρ = .ok (.shr (.bool (zs.any p))) ρ := by
  rw [gen_st (lk := none) (ρ2 := ρ) (b := true) g p zs rfl hit rfl hm hb hx rfl, any_if]
@[simp] theorem bo_s (b : Bool) : boolOf (.shr (.bool b)) = some b := rfl
end
end Ev
end
section
set_option linter.all false
set_option maxRecDepth 100000
/-! The defs that several laws share, as small texts; x tells the defs' numbers. -/
namespace M
open PySem Ev
structure Ix where
  is_number : Nat := 9999
  is_line : Nat := 9999
  is_mesh : Nat := 9999
  joined : Nat := 9999
  labels_of : Nat := 9999
  parts : Nat := 9999
  hold_together : Nat := 9999
  bridges : Nat := 9999
  lines_at : Nat := 9999
  other_end : Nat := 9999
  cut_nodes : Nat := 9999
  law_draws : Nat := 9999
  law_take : Nat := 9999
  law_alike : Nat := 9999
  law_mesh : Nat := 9999
  law_reached : Nat := 9999
  blocks : Nat := 9999
  nodes_along : Nat := 9999
  is_ring : Nat := 9999
  law_ways : Nat := 9999
  law_is_ring : Nat := 9999
  law_rings : Nat := 9999
  law_sets : Nat := 9999
  law_word : Nat := 9999
def b_is_number : Ev.Ss :=
  (.cons (.ret (.and (.op (.isi .int) (.cons (.var 0) .nil)) (.and (.not (.op (.isi .bool) (.cons (.var 0) .nil))) (.chain .le .le (.var 1) (.var 0) (.var 2)))))
  .nil)
def b_is_line (x : Ix) : Ev.Ss :=
  (.cons (.ite (.or (.not (.val (.op (.isi .tuple) (.cons (.var 1) .nil)))) (.or (.cmp .ne (.op .len (.cons (.var 1) .nil)) (.cst (.int (2)))) (.not (.val (.call x.is_number (.cons (.op .idx (.cons (.var 1) (.cons (.cst (.int (1))) .nil))) (.cons (.cst (.int (0))) (.cons (.op .sub (.cons (.var 0) (.cons (.cst (.int (1))) .nil))) .nil))))))))
  (.cons (.ret (.cst (.bool false)))
  .nil)
  .nil)
  (.cons (.ret (.call x.is_number (.cons (.op .idx (.cons (.var 1) (.cons (.cst (.int (0))) .nil))) (.cons (.cst (.int (0))) (.cons (.op .sub (.cons (.op .idx (.cons (.var 1) (.cons (.cst (.int (1))) .nil))) (.cons (.cst (.int (1))) .nil))) .nil)))))
  .nil))
def b_is_mesh (x : Ix) : Ev.Ss :=
  (.cons (.ite (.or (.not (.val (.op (.isi .tuple) (.cons (.var 0) .nil)))) (.or (.cmp .ne (.op .len (.cons (.var 0) .nil)) (.cst (.int (2)))) (.not (.val (.call x.is_number (.cons (.op .idx (.cons (.var 0) (.cons (.cst (.int (0))) .nil))) (.cons (.cst (.int (1))) (.cons (.cst (.int (9))) .nil))))))))
  (.cons (.ret (.cst (.bool false)))
  .nil)
  .nil)
  (.cons (.ite (.or (.not (.val (.op (.isi .tuple) (.cons (.op .idx (.cons (.var 0) (.cons (.cst (.int (1))) .nil))) .nil)))) (.cmp .gt (.op .len (.cons (.op .idx (.cons (.var 0) (.cons (.cst (.int (1))) .nil))) .nil)) (.cst (.int (14)))))
  (.cons (.ret (.cst (.bool false)))
  .nil)
  .nil)
  (.cons (.ret (.gen .all [1] (.var 1) (.seq (.op .idx (.cons (.var 0) (.cons (.cst (.int (1))) .nil)))) .yes (.call x.is_line (.cons (.op .idx (.cons (.var 0) (.cons (.cst (.int (0))) .nil))) (.cons (.var 1) .nil)))))
  .nil)))
def b_joined : Ev.Ss :=
  (.cons (.par [3, 4] (.cons (.op .idx (.cons (.var 0) (.cons (.op .idx (.cons (.var 1) (.cons (.cst (.int (0))) .nil))) .nil))) (.cons (.op .idx (.cons (.var 0) (.cons (.op .idx (.cons (.var 1) (.cons (.cst (.int (1))) .nil))) .nil))) .nil)))
  (.cons (.set (.var 2) (.op .min2 (.cons (.var 3) (.cons (.var 4) .nil))))
  (.cons (.ret (.op .tuple (.cons (.comp [5] (.var 5) (.seq (.var 0)) .yes (.cond (.cmp .inn (.var 5) (.tup (.cons (.var 3) (.cons (.var 4) .nil)))) (.var 2) (.var 5))) .nil)))
  .nil)))
def b_labels_of (x : Ix) : Ev.Ss :=
  (.cons (.set (.var 2) (.op .tupr1 (.cons (.op .idx (.cons (.var 0) (.cons (.cst (.int (0))) .nil))) .nil)))
  (.cons (.for_ (.tup (.cons (.var 3) (.cons (.var 4) .nil))) (.enum (.op .idx (.cons (.var 0) (.cons (.cst (.int (1))) .nil))))
  (.cons (.ite (.cmp .nin (.var 3) (.var 1))
  (.cons (.set (.var 2) (.call x.joined (.cons (.var 2) (.cons (.var 4) .nil))))
  .nil)
  .nil)
  .nil))
  (.cons (.ret (.var 2))
  .nil)))
def b_parts (x : Ix) : Ev.Ss :=
  (.cons (.set (.var 2) (.call x.labels_of (.cons (.var 0) (.cons (.var 1) .nil))))
  (.cons (.set (.var 3) (.comp [4] (.var 4) (.rng1 (.op .idx (.cons (.var 0) (.cons (.cst (.int (0))) .nil)))) (.cmp .eq (.op .idx (.cons (.var 2) (.cons (.var 4) .nil))) (.var 4)) (.var 4)))
  (.cons (.ret (.op .tuple (.cons (.comp [5] (.var 5) (.seq (.var 3)) .yes (.op .tuple (.cons (.comp [4] (.var 4) (.rng1 (.op .idx (.cons (.var 0) (.cons (.cst (.int (0))) .nil)))) (.cmp .eq (.op .idx (.cons (.var 2) (.cons (.var 4) .nil))) (.var 5)) (.var 4)) .nil))) .nil)))
  .nil)))
def b_hold_together (x : Ix) : Ev.Ss :=
  (.cons (.set (.var 4) (.call x.labels_of (.cons (.var 0) (.cons (.var 1) .nil))))
  (.cons (.ret (.op .eq (.cons (.op .idx (.cons (.var 4) (.cons (.var 2) .nil))) (.cons (.op .idx (.cons (.var 4) (.cons (.var 3) .nil))) .nil))))
  .nil))
def b_bridges (x : Ix) : Ev.Ss :=
  (.cons (.ret (.op .tuple (.cons (.comp [1, 2] (.tup (.cons (.var 1) (.cons (.var 2) .nil))) (.enum (.op .idx (.cons (.var 0) (.cons (.cst (.int (1))) .nil)))) (.not (.val (.scall x.hold_together [false, false, false, false] (.cons (.var 0) (.cons (.tup (.cons (.var 1) .nil)) (.cons (.star (.var 2)) .nil)))))) (.var 1)) .nil)))
  .nil)
def b_lines_at : Ev.Ss :=
  (.cons (.ret (.op .tuple (.cons (.comp [2, 3] (.tup (.cons (.var 2) (.cons (.var 3) .nil))) (.enum (.op .idx (.cons (.var 0) (.cons (.cst (.int (1))) .nil)))) (.cmp .inn (.var 1) (.var 3)) (.var 2)) .nil)))
  .nil)
def b_other_end : Ev.Ss :=
  (.cons (.set (.tup (.cons (.var 3) (.cons (.var 4) .nil))) (.op .idx (.cons (.op .idx (.cons (.var 0) (.cons (.cst (.int (1))) .nil))) (.cons (.var 1) .nil))))
  (.cons (.ret (.cond (.cmp .eq (.var 3) (.var 2)) (.var 4) (.var 3)))
  .nil))
def b_cut_nodes (x : Ix) : Ev.Ss :=
  (.cons (.set (.var 1) (.lst .nil))
  (.cons (.for_ (.var 2) (.rng1 (.op .idx (.cons (.var 0) (.cons (.cst (.int (0))) .nil))))
  (.cons (.set (.var 3) (.call x.labels_of (.cons (.var 0) (.cons (.call x.lines_at (.cons (.var 0) (.cons (.var 2) .nil))) .nil))))
  (.cons (.set (.var 4) (.comp [5] (.var 5) (.seq (.call x.lines_at (.cons (.var 0) (.cons (.var 2) .nil)))) .yes (.op .idx (.cons (.var 3) (.cons (.call x.other_end (.cons (.var 0) (.cons (.var 5) (.cons (.var 2) .nil)))) .nil)))))
  (.cons (.ite (.val (.gen .any [6] (.var 6) (.seq (.var 4)) .yes (.op .ne (.cons (.var 6) (.cons (.op .idx (.cons (.var 4) (.cons (.cst (.int (0))) .nil))) .nil)))))
  (.cons (.ex (.mth .append 1 (.cons (.var 2) .nil)))
  .nil)
  .nil)
  .nil))))
  (.cons (.ret (.op .tuple (.cons (.var 1) .nil)))
  .nil)))
def b_law_draws : Ev.Ss :=
  (.cons (.set (.var 1) (.lst .nil))
  (.cons (.for_ (.var 2) (.seq (.var 0))
  (.cons (.set (.var 5) (.op .abs (.cons (.var 2) .nil)))
  (.cons (.ite (.cmp .lt (.var 5) (.op .pow (.cons (.cst (.int (10))) (.cons (.cst (.int (18))) .nil))))
  (.cons (.set (.var 6) (.op .mod (.cons (.op .int (.cons (.op .add (.cons (.op .mul (.cons (.var 5) (.cons (.cst (.int (48271))) .nil))) (.cons (.cst (.int (11))) .nil))) .nil)) (.cons (.cst (.int (2147483647))) .nil))))
  (.cons (.ex (.mth .append 1 (.cons (.op .mod (.cons (.op .int (.cons (.op .add (.cons (.op .mul (.cons (.var 6) (.cons (.cst (.int (69621))) .nil))) (.cons (.var 5) .nil))) .nil)) (.cons (.cst (.int (2147483629))) .nil))) .nil)))
  (.cons (.ex (.mth .append 1 (.cons (.op .mod (.cons (.op .int (.cons (.op .add (.cons (.var 6) (.cons (.op .fdiv (.cons (.var 5) (.cons (.cst (.int (7))) .nil))) .nil))) .nil)) (.cons (.cst (.int (1000003))) .nil))) .nil)))
  (.cons (.set (.var 5) (.cst (.int (0))))
  .nil))))
  .nil)
  (.cons (.for_ (.var 4) (.rng1 (.cst (.int (60))))
  (.cons (.ite (.cmp .gt (.var 5) (.cst (.int (0))))
  (.cons (.ex (.mth .append 1 (.cons (.op .mod (.cons (.op .int (.cons (.var 5) .nil)) (.cons (.cst (.int (997))) .nil))) .nil)))
  (.cons (.set (.var 5) (.op .fdiv (.cons (.var 5) (.cons (.cst (.int (997))) .nil))))
  .nil))
  .nil)
  .nil))
  .nil))))
  (.cons (.set (.var 3) (.cst (.int (1))))
  (.cons (.ite (.cmp .gt (.op .len (.cons (.var 0) .nil)) (.cst (.int (0))))
  (.cons (.set (.var 3) (.op .add (.cons (.cst (.int (1))) (.cons (.op .abs (.cons (.op .idx (.cons (.var 0) (.cons (.cst (.int (0))) .nil))) .nil)) .nil))))
  .nil)
  .nil)
  (.cons (.for_ (.var 4) (.rng1 (.cst (.int (900))))
  (.cons (.set (.var 3) (.op .mod (.cons (.op .int (.cons (.op .add (.cons (.op .mul (.cons (.var 3) (.cons (.cst (.int (48271))) .nil))) (.cons (.cst (.int (69621))) .nil))) .nil)) (.cons (.cst (.int (2147483647))) .nil))))
  (.cons (.ex (.mth .append 1 (.cons (.op .fdiv (.cons (.var 3) (.cons (.cst (.int (5))) .nil))) .nil)))
  .nil)))
  (.cons (.ret (.op .revl (.cons (.var 1) .nil)))
  .nil))))))
def b_law_take : Ev.Ss :=
  (.cons (.ite (.cmp .eq (.op .len (.cons (.var 0) .nil)) (.cst (.int (0))))
  (.cons (.ret (.cst (.int (0))))
  .nil)
  .nil)
  (.cons (.ret (.op .mod (.cons (.op .int (.cons (.mth .pop 0 .nil) .nil)) (.cons (.var 1) .nil))))
  .nil))
def b_law_alike (x : Ix) : Ev.Ss :=
  (.cons (.ite (.or (.val (.op (.isi .list) (.cons (.var 1) .nil))) (.val (.op (.isi .tuple) (.cons (.var 1) .nil))))
  (.cons (.ite (.or (.cmp .ne (.op (.isi .list) (.cons (.var 0) .nil)) (.op (.isi .list) (.cons (.var 1) .nil))) (.cmp .ne (.op (.isi .tuple) (.cons (.var 0) .nil)) (.op (.isi .tuple) (.cons (.var 1) .nil))))
  (.cons (.ret (.cst (.bool false)))
  .nil)
  .nil)
  (.cons (.ret (.and (.op .eq (.cons (.op .len (.cons (.var 0) .nil)) (.cons (.op .len (.cons (.var 1) .nil)) .nil))) (.op .eq (.cons (.comp [2] (.var 2) (.rng1 (.op .len (.cons (.var 1) .nil))) (.not (.val (.call x.law_alike (.cons (.op .idx (.cons (.var 0) (.cons (.var 2) .nil))) (.cons (.op .idx (.cons (.var 1) (.cons (.var 2) .nil))) .nil))))) (.var 2)) (.cons (.lst .nil) .nil)))))
  .nil))
  .nil)
  (.cons (.ite (.val (.op .isn (.cons (.var 1) .nil)))
  (.cons (.ret (.op .isn (.cons (.var 0) .nil)))
  .nil)
  .nil)
  (.cons (.ite (.or (.val (.op (.isi .bool) (.cons (.var 1) .nil))) (.val (.op (.isi .bool) (.cons (.var 0) .nil))))
  (.cons (.ret (.and (.op (.isi .bool) (.cons (.var 0) .nil)) (.and (.op (.isi .bool) (.cons (.var 1) .nil)) (.op .eq (.cons (.var 0) (.cons (.var 1) .nil))))))
  .nil)
  .nil)
  (.cons (.ite (.val (.op (.isi .int) (.cons (.var 1) .nil)))
  (.cons (.ret (.and (.op (.isi .int) (.cons (.var 0) .nil)) (.op .eq (.cons (.var 0) (.cons (.var 1) .nil)))))
  .nil)
  .nil)
  (.cons (.ret (.and (.op (.isi .str) (.cons (.var 0) .nil)) (.op .eq (.cons (.var 0) (.cons (.var 1) .nil)))))
  .nil)))))
def b_law_mesh (x : Ix) : Ev.Ss :=
  (.cons (.par [5, 6] (.cons (.op .add (.cons (.cst (.int (2))) (.cons (.call x.law_take (.cons (.ref 0) (.cons (.op .sub (.cons (.var 1) (.cons (.cst (.int (1))) .nil))) .nil))) .nil))) (.cons (.lst .nil) .nil)))
  (.cons (.for_ (.var 3) (.rng2 (.cst (.int (1))) (.var 5))
  (.cons (.ite (.and (.cmp .gt (.call x.law_take (.cons (.ref 0) (.cons (.cst (.int (8))) .nil))) (.cst (.int (0)))) (.cmp .lt (.op .len (.cons (.var 6) .nil)) (.var 2)))
  (.cons (.ex (.mth .append 6 (.cons (.tup (.cons (.call x.law_take (.cons (.ref 0) (.cons (.var 3) .nil))) (.cons (.var 3) .nil))) .nil)))
  .nil)
  .nil)
  .nil))
  (.cons (.for_ (.var 3) (.rng1 (.call x.law_take (.cons (.ref 0) (.cons (.op .add (.cons (.op .sub (.cons (.var 2) (.cons (.op .len (.cons (.var 6) .nil)) .nil))) (.cons (.cst (.int (1))) .nil))) .nil))))
  (.cons (.par [7, 8] (.cons (.call x.law_take (.cons (.ref 0) (.cons (.var 5) .nil))) (.cons (.call x.law_take (.cons (.ref 0) (.cons (.var 5) .nil))) .nil)))
  (.cons (.ite (.cmp .ne (.var 7) (.var 8))
  (.cons (.ex (.mth .append 6 (.cons (.tup (.cons (.op .min2 (.cons (.var 7) (.cons (.var 8) .nil))) (.cons (.op .max2 (.cons (.var 7) (.cons (.var 8) .nil))) .nil))) .nil)))
  .nil)
  .nil)
  .nil)))
  (.cons (.set (.var 4) (.call x.law_take (.cons (.ref 0) (.cons (.op .add (.cons (.op .len (.cons (.var 6) .nil)) (.cons (.cst (.int (1))) .nil))) .nil))))
  (.cons (.ret (.tup (.cons (.var 5) (.cons (.op .tuple (.cons (.op .add (.cons (.sl (.var 6) (.some (.var 4)) .none) (.cons (.sl (.var 6) .none (.some (.var 4))) .nil))) .nil)) .nil))))
  .nil)))))
def b_law_reached : Ev.Ss :=
  (.cons (.set (.var 4) (.lst (.cons (.var 1) .nil)))
  (.cons (.for_ (.var 5) (.rng1 (.op .idx (.cons (.var 0) (.cons (.cst (.int (0))) .nil))))
  (.cons (.for_ (.var 6) (.rng1 (.op .len (.cons (.op .idx (.cons (.var 0) (.cons (.cst (.int (1))) .nil))) .nil)))
  (.cons (.ite (.cmp .nin (.var 6) (.var 3))
  (.cons (.for_ (.tup (.cons (.var 7) (.cons (.var 8) .nil))) (.seq (.lst (.cons (.op .idx (.cons (.op .idx (.cons (.var 0) (.cons (.cst (.int (1))) .nil))) (.cons (.var 6) .nil))) (.cons (.slr (.op .idx (.cons (.op .idx (.cons (.var 0) (.cons (.cst (.int (1))) .nil))) (.cons (.var 6) .nil)))) .nil))))
  (.cons (.ite (.and (.cmp .inn (.var 7) (.var 4)) (.and (.cmp .nin (.var 8) (.var 4)) (.cmp .nin (.var 8) (.var 2))))
  (.cons (.ex (.mth .append 4 (.cons (.var 8) .nil)))
  .nil)
  .nil)
  .nil))
  .nil)
  .nil)
  .nil))
  .nil))
  (.cons (.ret (.op .sorted (.cons (.var 4) .nil)))
  .nil)))
end M
end
section
set_option linter.all false
set_option maxRecDepth 100000
namespace M
open PySem Ev
variable (x : Ix)
def isNum (d : Ev.D) (a b : Int) : Bool := match d with
  | .int i => decide (a ≤ i) && decide (i ≤ b)
  | _ => false
theorem run_is_number (h : List Calls) (d : Ev.D) (a b : Int) (hd : ∀ k, d ≠ .dict k) : runDef h ⟨3, [false, false, false], b_is_number⟩ [d, .int a, .int b] = .ok (.shr (.bool (isNum d a b))) [] := by
  cases d <;> first | exact absurd rfl (hd _) | skip
  all_goals simp [run_eq, parS, b_is_number, isTy, isNum]
  rename_i i
  by_cases q : a ≤ i <;> simp [q]
def noDic : Ev.D → Prop
  | .dict _ => False
  | _ => True
def isLine (many : Int) : Ev.D → Bool
  | .tuple [x, y] => isNum y 0 (many - 1) && (match y with
    | .int b => isNum x 0 (b - 1)
    | _ => false)
  | _ => false
theorem run_is_line (c : Calls) (t : List Calls) (hc : ∀ d a b, noDic d → c x.is_number [d, .int a, .int b] = .ok (.shr (.bool (isNum d a b))) []) (many : Int) (v : Ev.D) (hv : noDic v) (he : ∀ xs, v = .tuple xs → ∀ x ∈ xs, noDic x) :
    runDef (c :: t) ⟨2, [false, false], b_is_line x⟩ [.int many, v] = .ok (.shr (.bool (isLine many v))) [] := by
  cases v with
  | dict k => exact hv.elim
  | tuple xs =>
    match xs, he xs rfl with
    | [], _ => simp [run_eq, parS, b_is_line, isTy, isLine, flat, PyData.canLay0, PyData.depth, PyData.eqv]
    | [x], _ => simp [run_eq, parS, b_is_line, isTy, isLine, flat, PyData.canLay0, PyData.depth, PyData.eqv]
    | [x, y], h2 =>
      have hx : noDic x := h2 x (by simp)
      have hy : noDic y := h2 y (by simp)
      cases hyn : isNum y 0 (many - 1) with
      | false => simp [run_eq, parS, b_is_line, isTy, isLine, opIdx, item, place, hc, hy, hyn, flat, PyData.canLay0, PyData.depth, PyData.eqv]
      | true =>
        obtain ⟨b, rfl⟩ : ∃ b, y = .int b := by
          cases y <;> first | exact ⟨_, rfl⟩ | (simp [isNum] at hyn)
        simp [run_eq, parS, b_is_line, isTy, isLine, opIdx, item, place, hc, hx, hy, hyn, flat, PyData.canLay0, PyData.depth, PyData.eqv]
    | x :: y :: z :: r, _ =>
      have e : ¬ ((r.length : Int) + 1 + 1 + 1 = 2) := by omega
      simp [run_eq, parS, b_is_line, isTy, isLine, flat, PyData.canLay0, PyData.depth, PyData.eqv, e]
  | _ => simp [run_eq, parS, b_is_line, isTy, isLine]
theorem cl_noDic {d : Ev.D} (h : d.canLay0 = true) : noDic d := by cases d <;> simp_all [noDic, PyData.canLay0]
theorem cl_all {xs : List Ev.D} (h : PyData.canLayAll0 xs = true) : ∀ x ∈ xs, x.canLay0 = true := by
  induction xs with
  | nil => simp
  | cons y ys ih =>
    simp only [PyData.canLayAll0, Bool.and_eq_true] at h
    intro x hx
    rcases List.mem_cons.1 hx with rfl | hx
    · exact h.1
    · exact ih h.2 x hx
theorem cl_tup {xs : List Ev.D} (h : (PyData.tuple xs).canLay0 = true) : ∀ x ∈ xs, x.canLay0 = true := cl_all (by simpa [PyData.canLay0] using h)
def isMesh : Ev.D → Bool
  | .tuple [.int n, .tuple ls] => decide (1 ≤ n) && decide (n ≤ 9) && decide (ls.length ≤ 14) && ls.all (isLine n)
  | _ => false
theorem run_is_mesh (c c' : Calls) (t : List Calls) (hc : ∀ d a b, noDic d → c x.is_number [d, .int a, .int b] = .ok (.shr (.bool (isNum d a b))) [])
    (hc' : ∀ n v, v.canLay0 = true → c' x.is_line [.int n, v] = .ok (.shr (.bool (isLine n v))) []) (v : Ev.D) (hv : v.canLay0 = true) :
    runDef (c :: c' :: t) ⟨2, [false], b_is_mesh x⟩ [v] = .ok (.shr (.bool (isMesh v))) [] := by
  cases v with
  | dict k => exact (cl_noDic hv).elim
  | tuple xs =>
    have hx := cl_tup hv
    match xs, hx with
    | [], _ => simp [run_eq, parS, b_is_mesh, isTy, isMesh, flat, PyData.canLay0, PyData.depth, PyData.eqv]
    | [x], _ => simp [run_eq, parS, b_is_mesh, isTy, isMesh, flat, PyData.canLay0, PyData.depth, PyData.eqv]
    | [x, y], h2 =>
      have hx : noDic x := cl_noDic (h2 x (by simp))
      have hy1 := h2 y (by simp)
      have hy : noDic y := cl_noDic hy1
      cases hxn : isNum x 1 9 with
      | false =>
        have e : isMesh (.tuple [x, y]) = false := by
          cases x <;> simp_all [isMesh, isNum]
          cases y <;> simp_all [isMesh]
          omega
        simp [run_eq, parS, b_is_mesh, isTy, e, opIdx, item, place, hc, hx, hxn, flat, PyData.canLay0, PyData.depth, PyData.eqv]
      | true =>
        obtain ⟨n, rfl⟩ : ∃ n, x = .int n := by
          cases x <;> first | exact ⟨_, rfl⟩ | (simp [isNum] at hxn)
        cases y with
        | dict k => exact hy.elim
        | tuple ls =>
          have hl := cl_tup hy1
          have hn : 1 ≤ n ∧ n ≤ 9 := by simpa [isNum] using hxn
          by_cases q : ls.length ≤ 14
          · have q2 : ¬ (14 < (ls.length : Int)) := by omega
            have hg := gen_run (c := c) (t := c' :: t) (q := .all) (b := false) (vs := [1]) (tg := .var 1) (it := .seq (.op .idx (.cons (.var 0) (.cons (.cst (.int (1))) .nil)))) (ts := .yes) (e := .call x.is_line (.cons (.op .idx (.cons (.var 0) (.cons (.cst (.int (0))) .nil))) (.cons (.var 1) .nil))) (ρ := [.shr (.tuple [.int n, .tuple ls]), .non]) (ρ1 := [.shr (.tuple [.int n, .tuple ls]), .non]) (ρ2 := [.shr (.tuple [.int n, .tuple ls]), .non]) (xs := ls) (lk := none) (fun x => some (isLine n x)) rfl (by simp [opIdx, item, place]) rfl rfl rfl (by
              intro x hx
              simp [opIdx, item, place, hc' n x (hl x hx), boolOf, wipeS])
            have e : (if (ls.any fun x => (some (isLine n x) == some false)) then false else !false) = isMesh (.tuple [.int n, .tuple ls]) := by
              rw [all_run (fun x => isLine n x)]
              simp [isMesh, hn, q]
            rw [e] at hg
            simp [run_eq, parS, b_is_mesh, isTy, opIdx, item, place, hc, hx, hxn, flat, PyData.canLay0, PyData.depth, PyData.eqv, q2, ↓hg, unlockS]
          · have q2 : 14 < (ls.length : Int) := by omega
            simp [run_eq, parS, b_is_mesh, isTy, isMesh, opIdx, item, place, hc, hx, hxn, flat, PyData.canLay0, PyData.depth, PyData.eqv, q, q2]
        | _ => simp [run_eq, parS, b_is_mesh, isTy, isMesh, opIdx, item, place, hc, hx, hxn, flat, PyData.canLay0, PyData.depth, PyData.eqv]
    | x :: y :: z :: r, _ =>
      have e : ¬ ((r.length : Int) + 1 + 1 + 1 = 2) := by omega
      simp [run_eq, parS, b_is_mesh, isTy, isMesh, flat, PyData.canLay0, PyData.depth, PyData.eqv, e]
  | _ => simp [run_eq, parS, b_is_mesh, isTy, isMesh]
def joinL (ls : List Int) (x y : Int) : List Int := ls.map fun l => if l = x ∨ l = y then (if y < x then y else x) else l
def bindInt (f : Int → Option Ev.D) : Ev.D → Option Ev.D
  | .int l => f l
  | _ => none
theorem filterMap_bindInt (f : Int → Option Ev.D) (ls : List Int) : (ls.map PyData.int).filterMap (bindInt f) = ls.filterMap f := by
  rw [List.filterMap_map]; rfl
theorem item_int (ls : List Int) (a : Nat) (ha : a < ls.length) : item (ls.map .int) (a : Int) = some (.int ls[a]) := by
  have : (a : Int) < (ls.length : Int) := by omega
  simp [item, place, this, ha]
theorem run_joined (h : List Calls) (ls : List Int) (a b : Nat) (ha : a < ls.length) (hb : b < ls.length) (hl : ls.length ≤ 1000) :
    runDef h ⟨6, [false, false], b_joined⟩ [.tuple (ls.map .int), .tuple [.int a, .int b]] = .ok (.shr (.tuple ((joinL ls ls[a] ls[b]).map .int))) [] := by
  have i1 := item_int ls a ha
  have i2 := item_int ls b hb
  generalize hx : ls[a] = x at *
  generalize hy : ls[b] = y at *
  have hg := comp_run (h := h) (vs := [5]) (tg := .var 5) (it := .seq (.var 0)) (ts := .yes) (e := .cond (.cmp .inn (.var 5) (.tup (.cons (.var 3) (.cons (.var 4) .nil)))) (.var 2) (.var 5))
    (ρ := [.shr (.tuple (ls.map .int)), .shr (.tuple [.int a, .int b]), .shr (.int (if y < x then y else x)), .shr (.int x), .shr (.int y), .non])
    (ρ1 := [.shr (.tuple (ls.map .int)), .shr (.tuple [.int a, .int b]), .shr (.int (if y < x then y else x)), .shr (.int x), .shr (.int y), .non])
    (ρ2 := [.shr (.tuple (ls.map .int)), .shr (.tuple [.int a, .int b]), .shr (.int (if y < x then y else x)), .shr (.int x), .shr (.int y), .non])
    (xs := ls.map .int) (lk := none) (bindInt fun l => some (.int (if l = x ∨ l = y then (if y < x then y else x) else l))) (by simp) rfl rfl rfl (by simp [mAx]; omega) (by
      intro d hd
      obtain ⟨l, _, rfl⟩ := List.mem_map.1 hd
      rw [bindInt]
      by_cases q : l = x
      · simp [opInn, flat, PyData.canLay0, PyData.canLayAll0, PyData.depth, PyData.depthAll, anyEq, PyData.eqv, wipeS, q]
      · by_cases q2 : l = y
        · simp [opInn, flat, PyData.canLay0, PyData.canLayAll0, PyData.depth, PyData.depthAll, anyEq, PyData.eqv, wipeS, q, q2]
        · have q3 : ¬ x = l := fun e => q e.symm
          have q4 : ¬ y = l := fun e => q2 e.symm
          simp [opInn, flat, PyData.canLay0, PyData.canLayAll0, PyData.depth, PyData.depthAll, anyEq, PyData.eqv, wipeS, q, q2, q3, q4])
  have e : (ls.filterMap fun l => some (PyData.int (if l = x ∨ l = y then (if y < x then y else x) else l))) = (joinL ls x y).map .int := by
    simp [joinL]
  rw [filterMap_bindInt, e] at hg
  simp [run_eq, parS, b_joined, opIdx, ↓i1, ↓i2, item, place, putAll, ↓hg, unlockS]
def lineD (p : Nat × Nat) : Ev.D := .tuple [.int (p.1 : Nat), .int (p.2 : Nat)]
def meshD (n : Nat) (ls : List (Nat × Nat)) : Ev.D := .tuple [.int n, .tuple (ls.map lineD)]
def intsD (fs : List Int) : Ev.D := .tuple (fs.map .int)
def upto (n : Nat) : List Int := (List.range n).map Int.ofNat
/-- what the labels are behind a line -/
def labStep (fs : List Int) (lab : List Int) (z : (Nat × Nat) × Nat) : List Int := if (z.2 : Int) ∈ fs then lab else joinL lab (lab.getD z.1.1 0) (lab.getD z.1.2 0)
def labels (n : Nat) (ls : List (Nat × Nat)) (fs : List Int) : List Int := ls.zipIdx.foldl (labStep fs) (upto n)
def goodL (n : Nat) (ls : List (Nat × Nat)) : Prop := ∀ p ∈ ls, p.1 < p.2 ∧ p.2 < n
theorem depthAll_ints (fs : List Int) : PyData.depthAll (fs.map .int) ≤ 1 := by
  induction fs with
  | nil => simp [PyData.depthAll]
  | cons x xs ih => simp [PyData.depthAll, PyData.depth, ih]
theorem layAll_ints (fs : List Int) : PyData.canLayAll0 (fs.map .int) = true := by
  induction fs with
  | nil => rfl
  | cons x xs ih => simp [PyData.canLayAll0, PyData.canLay0, ih]
theorem flat_ints (fs : List Int) : flat (.list (fs.map .int)) = true ∧ flat (intsD fs) = true := by
  have := depthAll_ints fs
  constructor <;> simp [flat, intsD, PyData.canLay0, PyData.depth, layAll_ints] <;> omega
theorem anyEq_ints (x : Int) (fs : List Int) : anyEq (.int x) (fs.map .int) = decide (x ∈ fs) := by
  induction fs with
  | nil => rfl
  | cons y ys ih =>
    have : anyEq (.int x) (.int y :: ys.map .int) = (PyData.eqv (.int y) (.int x) || anyEq (.int x) (ys.map .int)) := rfl
    rw [List.map_cons, this, ih]
    by_cases q : x = y
    · simp [PyData.eqv, q]
    · have q2 : ¬ y = x := fun e => q e.symm
      simp [PyData.eqv, q, q2]
theorem nin_ints (x : Int) (fs : List Int) : opNin [.int x, intsD fs] = some (.shr (.bool (!decide (x ∈ fs)))) := by
  have hf : flat (.tuple (fs.map .int)) = true := (flat_ints fs).2
  show b2o (flat (.int x) && flat (.tuple (fs.map .int))) (rbool (!anyEq (.int x) (fs.map .int))) = _
  rw [anyEq_ints, hf]; rfl
theorem range_upto (n : Nat) : rangeL 0 n = (upto n).map .int := by
  rw [rangeL_map]; simp [upto, Function.comp_def]
theorem len_joinL (ls : List Int) (x y : Int) : (joinL ls x y).length = ls.length := by simp [joinL]
theorem run_labels_of (c : Calls) (t : List Calls) (hc : ∀ (ls : List Int) (a b : Nat) (ha : a < ls.length) (hb : b < ls.length), ls.length ≤ 1000 → c x.joined [.tuple (ls.map .int), .tuple [.int a, .int b]] = .ok (.shr (.tuple ((joinL ls ls[a] ls[b]).map .int))) [])
    (n : Nat) (ls : List (Nat × Nat)) (fs : List Int) (hn : n ≤ 1000) (hg : goodL n ls) :
    runDef (c :: t) ⟨5, [false, false], b_labels_of x⟩ [meshD n ls, intsD fs] = .ok (.shr (intsD (labels n ls fs))) [] := by
  have hf := flat_ints fs
  have hr := for_run (h := c :: t) (tg := .tup (.cons (.var 3) (.cons (.var 4) .nil))) (it := .enum (.op .idx (.cons (.var 0) (.cons (.cst (.int (1))) .nil))))
    (b := (.cons (.ite (.cmp .nin (.var 3) (.var 1)) (.cons (.set (.var 2) (.call x.joined (.cons (.var 2) (.cons (.var 4) .nil)))) .nil) .nil) .nil))
    (ρ := [.shr (meshD n ls), .shr (intsD fs), .shr (intsD (upto n)), .non, .non]) (ρ1 := [.shr (meshD n ls), .shr (intsD fs), .shr (intsD (upto n)), .non, .non]) (ρ2 := [.shr (meshD n ls), .shr (intsD fs), .shr (intsD (upto n)), .non, .non]) (lk := none)
    (fun lab => [.shr (meshD n ls), .shr (intsD fs), .shr (intsD lab), .non, .non]) (labStep fs) (fun z => .tuple [.int z.2, lineD z.1]) (fun lab => lab.length = n) ls.zipIdx (upto n)
    (by simp [meshD, opIdx, item, place, List.zipIdx_map, Function.comp_def]) rfl rfl (by simp [upto]) (by
      intro lab hl z hz
      obtain ⟨⟨a, b⟩, k⟩ := z
      have hm := hg (a, b) (by
        have := List.mem_zipIdx hz
        simp at this
        exact this.2 ▸ List.getElem_mem _)
      have ha : a < lab.length := by simp at hm; omega
      have hb : b < lab.length := by simp at hm; omega
      constructor
      · simp only [labStep]; split
        · exact hl
        · rw [len_joinL]; exact hl
      · have hj := hc lab a b ha hb (by omega)
        refine ⟨[.shr (meshD n ls), .shr (intsD fs), .shr (intsD lab), .shr (.int k), .shr (lineD (a, b))], ?_⟩
        by_cases q : (k : Int) ∈ fs
        · exact ⟨[.shr (meshD n ls), .shr (intsD fs), .shr (intsD lab), .shr (.int k), .shr (lineD (a, b))], by simp [Tgs.len], .inl (by simp [nin_ints, q]), by simp [rst, labStep, q]⟩
        · exact ⟨[.shr (meshD n ls), .shr (intsD fs), .shr (intsD (labStep fs lab ((a, b), k))), .shr (.int k), .shr (lineD (a, b))], by simp [Tgs.len], .inl (by
            have hj2 : c x.joined [intsD lab, lineD (a, b)] = .ok (.shr (intsD (labStep fs lab ((a, b), k)))) [] := by
              simpa [labStep, q, ha, hb, intsD, lineD] using hj
            simp [nin_ints, q, callV, slotsOf, putOuts, hj2]), by simp [rst]⟩)
  have hr1 := hr.1
  have e1 : opIdx [meshD n ls, .int 0] = some (.shr (.int n)) := by simp [opIdx, meshD, item, place]
  have e2 : opTupr1 [.int n] = some (.shr (intsD (upto n))) := by
    have : (n : Int) ≤ 10000000 := by omega
    simp [opTupr1, this, range_upto, intsD]
  simp [run_eq, parS, b_labels_of, e1, e2, ↓hr1, unlockS, labels]
theorem idx_mesh0 (n : Nat) (ls : List (Nat × Nat)) : opIdx [meshD n ls, .int 0] = some (.shr (.int n)) := by simp [opIdx, meshD, item, place]
theorem idx_mesh1 (n : Nat) (ls : List (Nat × Nat)) : opIdx [meshD n ls, .int 1] = some (.shr (.tuple (ls.map lineD))) := by simp [opIdx, meshD, item, place]
theorem idx_ints (fs : List Int) (k : Nat) (h : k < fs.length) : opIdx [intsD fs, .int (k : Nat)] = some (.shr (.int fs[k])) := by
  have : (k : Int) < (fs.length : Int) := by omega
  simp [opIdx, intsD, item, place, this, h]
theorem eq_ints (a b : Int) : opEq [.int a, .int b] = some (.shr (.bool (decide (a = b)))) := by
  simp only [opEq, flat, PyData.canLay0, PyData.depth, PyData.eqv, b2o, rbool]
  rfl
theorem ne_ints (a b : Int) : opNe [.int a, .int b] = some (.shr (.bool (!decide (a = b)))) := by
  simp only [opNe, flat, PyData.canLay0, PyData.depth, PyData.eqv, b2o, rbool]
  rfl
theorem len_labels (n : Nat) (ls : List (Nat × Nat)) (fs : List Int) : (labels n ls fs).length = n := by
  have : ∀ (zs : List ((Nat × Nat) × Nat)) (lab : List Int), (zs.foldl (labStep fs) lab).length = lab.length := by
    intro zs
    induction zs with
    | nil => intro lab; rfl
    | cons z zs ih =>
      intro lab
      rw [List.foldl_cons, ih, labStep]
      split
      · rfl
      · rw [len_joinL]
  rw [labels, this]; simp [upto]
def lab1 (n : Nat) (ls : List (Nat × Nat)) (fs : List Int) (k : Nat) : Int := (labels n ls fs).getD k 0
theorem idx_lab (n : Nat) (ls : List (Nat × Nat)) (fs : List Int) (k : Nat) (h : k < n) : opIdx [intsD (labels n ls fs), .int (k : Nat)] = some (.shr (.int (lab1 n ls fs k))) := by
  have h2 : k < (labels n ls fs).length := by rw [len_labels]; exact h
  rw [idx_ints _ _ h2, lab1]; simp [h2]
def LabOk (x : Ix) (c : Calls) : Prop := ∀ (n : Nat) (ls : List (Nat × Nat)) (fs : List Int), n ≤ 1000 → goodL n ls → c x.labels_of [meshD n ls, intsD fs] = .ok (.shr (intsD (labels n ls fs))) []
theorem run_hold_together (c : Calls) (t : List Calls) (hc : LabOk x c) (n : Nat) (ls : List (Nat × Nat)) (fs : List Int) (a b : Nat) (hn : n ≤ 1000) (hg : goodL n ls) (ha : a < n) (hb : b < n) :
    runDef (c :: t) ⟨5, [false, false, false, false], b_hold_together x⟩ [meshD n ls, intsD fs, .int a, .int b] = .ok (.shr (.bool (decide (lab1 n ls fs a = lab1 n ls fs b)))) [] := by
  simp [run_eq, parS, b_hold_together, hc n ls fs hn hg, idx_lab, ha, hb, eq_ints]
theorem run_other_end (h : List Calls) (n : Nat) (ls : List (Nat × Nat)) (k : Nat) (hk : k < ls.length) (v : Nat) :
    runDef h ⟨5, [false, false, false], b_other_end⟩ [meshD n ls, .int k, .int v] = .ok (.shr (.int (if ls[k].1 = v then ls[k].2 else ls[k].1 : Nat))) [] := by
  have e : opIdx [.tuple (ls.map lineD), .int (k : Nat)] = some (.shr (lineD ls[k])) := by
    have : (k : Int) < (ls.length : Int) := by omega
    simp [opIdx, item, place, this, hk]
  obtain ⟨a, b⟩ : ∃ a b, ls[k] = (a, b) := ⟨_, _, rfl⟩
  by_cases q : ls[k].1 = v
  · simp [run_eq, parS, b_other_end, idx_mesh1, e, lineD, Tgs.len, eq_ints, q]
  · have q2 : ¬ ((ls[k].1 : Int) = v) := by omega
    simp [run_eq, parS, b_other_end, idx_mesh1, e, lineD, Tgs.len, eq_ints, q, q2]
/-- the numbers of the lines of which p is true -/
def linesOf (ls : List (Nat × Nat)) (p : (Nat × Nat) → Nat → Bool) : List Int := ls.zipIdx.filterMap fun z => if p z.1 z.2 then some (z.2 : Int) else none
def touch (v : Nat) (l : Nat × Nat) : Bool := decide (l.1 = v) || decide (l.2 = v)
theorem inn_line (v : Nat) (l : Nat × Nat) : opInn [.int v, lineD l] = some (.shr (.bool (touch v l))) := by
  have e : opInn [.int v, lineD l] = b2o (flat (.int v) && flat (lineD l)) (rbool (anyEq (.int v) [.int l.1, .int l.2])) := rfl
  have f : flat (lineD l) = true := by simp [flat, lineD, PyData.canLay0, PyData.canLayAll0, PyData.depth, PyData.depthAll]
  rw [e, f]
  have g : anyEq (.int v) [.int l.1, .int l.2] = touch v l := by
    have h1 : anyEq (.int v) [.int l.1, .int l.2] = (decide ((l.1 : Int) = v) || (decide ((l.2 : Int) = v) || false)) := rfl
    rw [h1, touch, Bool.or_false]
    congr 1 <;> exact decide_eq_decide.2 Int.ofNat_inj
  rw [g]; rfl
theorem run_lines_at (h : List Calls) (n : Nat) (ls : List (Nat × Nat)) (v : Nat) (hl : ls.length ≤ 1000) :
    runDef h ⟨4, [false, false], b_lines_at⟩ [meshD n ls, .int v] = .ok (.shr (intsD (linesOf ls fun l _ => touch v l))) [] := by
  have hr := comp_map (h := h) (vs := [2, 3]) (tg := .tup (.cons (.var 2) (.cons (.var 3) .nil))) (it := .enum (.op .idx (.cons (.var 0) (.cons (.cst (.int (1))) .nil)))) (ts := .cmp .inn (.var 1) (.var 3)) (e := .var 2)
    (ρ := [.shr (meshD n ls), .shr (.int v), .non, .non]) (ρ1 := [.shr (meshD n ls), .shr (.int v), .non, .non]) (ρ2 := [.shr (meshD n ls), .shr (.int v), .non, .non]) (lk := none)
    (fun z : (Nat × Nat) × Nat => .tuple [.int z.2, lineD z.1]) (fun z => if touch v z.1 then some (.int z.2) else none) ls.zipIdx (by simp [idx_mesh1, List.zipIdx_map, Function.comp_def]) rfl rfl rfl (by simp [mAx]; omega) (by
      intro z hz
      cases q : touch v z.1 <;> simp [inn_line, q, wipeS, Tgs.len])
  have e : (ls.zipIdx.filterMap fun z => if touch v z.1 then some (PyData.int z.2) else none) = (linesOf ls fun l _ => touch v l).map .int := by
    rw [linesOf, List.map_filterMap]
    congr 1; funext z; split <;> rfl
  rw [e] at hr
  simp [run_eq, parS, b_lines_at, ↓hr, unlockS, intsD]
def HoldOk (x : Ix) (c : Calls) : Prop := ∀ (n : Nat) (ls : List (Nat × Nat)) (fs : List Int) (a b : Nat), n ≤ 1000 → goodL n ls → a < n → b < n → c x.hold_together [meshD n ls, intsD fs, .int a, .int b] = .ok (.shr (.bool (decide (lab1 n ls fs a = lab1 n ls fs b)))) []
theorem run_bridges (c : Calls) (t : List Calls) (hc : HoldOk x c) (n : Nat) (ls : List (Nat × Nat)) (hn : n ≤ 1000) (hg : goodL n ls) (hl : ls.length ≤ 1000) :
    runDef (c :: t) ⟨3, [false], b_bridges x⟩ [meshD n ls] = .ok (.shr (intsD (linesOf ls fun l k => !decide (lab1 n ls [(k : Int)] l.1 = lab1 n ls [(k : Int)] l.2)))) [] := by
  have hr := comp_map (h := c :: t) (vs := [1, 2]) (tg := .tup (.cons (.var 1) (.cons (.var 2) .nil))) (it := .enum (.op .idx (.cons (.var 0) (.cons (.cst (.int (1))) .nil)))) (ts := .not (.val (.scall x.hold_together [false, false, false, false] (.cons (.var 0) (.cons (.tup (.cons (.var 1) .nil)) (.cons (.star (.var 2)) .nil)))))) (e := .var 1)
    (ρ := [.shr (meshD n ls), .non, .non]) (ρ1 := [.shr (meshD n ls), .non, .non]) (ρ2 := [.shr (meshD n ls), .non, .non]) (lk := none)
    (fun z : (Nat × Nat) × Nat => .tuple [.int z.2, lineD z.1]) (fun z => if !decide (lab1 n ls [(z.2 : Int)] z.1.1 = lab1 n ls [(z.2 : Int)] z.1.2) then some (.int z.2) else none) ls.zipIdx (by simp [idx_mesh1, List.zipIdx_map, Function.comp_def]) rfl rfl rfl (by simp [mAx]; omega) (by
      intro z hz
      obtain ⟨⟨a, b⟩, k⟩ := z
      have hm := hg (a, b) (by
        have := List.mem_zipIdx hz
        simp at this
        exact this.2 ▸ List.getElem_mem _)
      simp at hm
      have hh := hc n ls [(k : Int)] a b hn hg (by omega) hm.2
      simp only [intsD, List.map] at hh
      by_cases q : lab1 n ls [(k : Int)] a = lab1 n ls [(k : Int)] b <;> simp [lineD, wipeS, Tgs.len, maskOf, hh, q])
  have e : (ls.zipIdx.filterMap fun z => if !decide (lab1 n ls [(z.2 : Int)] z.1.1 = lab1 n ls [(z.2 : Int)] z.1.2) then some (PyData.int z.2) else none) = (linesOf ls fun l k => !decide (lab1 n ls [(k : Int)] l.1 = lab1 n ls [(k : Int)] l.2)).map .int := by
    rw [linesOf, List.map_filterMap]
    congr 1; funext z; split <;> rfl
  rw [e] at hr
  simp [run_eq, parS, b_bridges, ↓hr, unlockS, intsD]
theorem turn_ok {α : Type} {vs : List Nat} {tg : Tg} {t : Sl → R Bool} {e : Sl → R α} {x : Ev.D} {ρ ρ1 ρ' : Sl} {d : α} (ha : asg tg (.shr x) ρ = some ρ1) (ht : t ρ1 = .ok true ρ1) (he : e ρ1 = .ok d ρ1) (hw : wipeS ρ1 vs = ρ') : turn vs tg t e x ρ = .ok (some d) ρ' := by
  simp [ha, ht, he, hw]
/-- the nodes of which p is true -/
def nodesOf (n : Nat) (p : Nat → Bool) : List Nat := (List.range n).filter p
def natsD (fs : List Nat) : Ev.D := .tuple (fs.map fun k => .int (k : Nat))
theorem range_nat (n : Nat) : rangeL 0 n = (List.range n).map fun k => .int (k : Nat) := by
  rw [rangeL_map]; simp
theorem lim_small (n : Nat) (h : n ≤ 1000) : lim62 (n : Int) = true := by simp [lim62]; omega
theorem run_parts (c : Calls) (t : List Calls) (hc : LabOk x c) (n : Nat) (ls : List (Nat × Nat)) (fs : List Int) (hn : n ≤ 1000) (hg : goodL n ls) :
    runDef (c :: t) ⟨6, [false, false], b_parts x⟩ [meshD n ls, intsD fs] = .ok (.shr (.tuple ((nodesOf n fun k => decide (lab1 n ls fs k = (k : Int))).map fun h : Nat => natsD (nodesOf n fun k => decide (lab1 n ls fs k = (h : Int)))))) [] := by
  have hl := lim_small n hn
  have h1 := comp_map (h := c :: t) (vs := [4]) (tg := .var 4) (it := .rng1 (.op .idx (.cons (.var 0) (.cons (.cst (.int (0))) .nil)))) (ts := .cmp .eq (.op .idx (.cons (.var 2) (.cons (.var 4) .nil))) (.var 4)) (e := .var 4)
    (ρ := [.shr (meshD n ls), .shr (intsD fs), .shr (intsD (labels n ls fs)), .non, .non, .non]) (ρ1 := [.shr (meshD n ls), .shr (intsD fs), .shr (intsD (labels n ls fs)), .non, .non, .non]) (ρ2 := [.shr (meshD n ls), .shr (intsD fs), .shr (intsD (labels n ls fs)), .non, .non, .non]) (lk := none)
    (fun k : Nat => .int k) (fun k => if lab1 n ls fs k = (k : Int) then some (.int k) else none) (List.range n) (by simp [idx_mesh0, show n ≤ 1000000 by omega]) rfl rfl rfl (by simp [mAx]; omega) (by
      intro k hk
      have hk := List.mem_range.1 hk
      by_cases q : lab1 n ls fs k = (k : Int) <;> simp [idx_lab, hk, eq_ints, q, wipeS])
  have e1 : ((List.range n).filterMap fun k => if lab1 n ls fs k = (k : Int) then some (PyData.int k) else none) = (nodesOf n fun k => decide (lab1 n ls fs k = (k : Int))).map fun k => .int (k : Nat) := by
    rw [nodesOf]
    induction List.range n with
    | nil => rfl
    | cons x xs ih => by_cases q : lab1 n ls fs x = (x : Int) <;> simp [q, ih]
  rw [e1] at h1
  generalize hh : (nodesOf n fun k => decide (lab1 n ls fs k = (k : Int))) = heads at *
  have hlen : heads.length ≤ 1000 := by
    rw [← hh, nodesOf]; exact Nat.le_trans (List.length_filter_le _ _) (by simp; omega)
  have h2 (a : Nat) := comp_map (h := c :: t) (vs := [4]) (tg := .var 4) (it := .rng1 (.op .idx (.cons (.var 0) (.cons (.cst (.int (0))) .nil)))) (ts := .cmp .eq (.op .idx (.cons (.var 2) (.cons (.var 4) .nil))) (.var 5)) (e := .var 4)
    (ρ := [.shr (meshD n ls), .shr (intsD fs), .shr (intsD (labels n ls fs)), .hld false true (.list (heads.map fun k => .int (k : Nat))), .non, .shr (.int a)]) (ρ1 := [.shr (meshD n ls), .shr (intsD fs), .shr (intsD (labels n ls fs)), .hld false true (.list (heads.map fun k => .int (k : Nat))), .non, .shr (.int a)]) (ρ2 := [.shr (meshD n ls), .shr (intsD fs), .shr (intsD (labels n ls fs)), .hld false true (.list (heads.map fun k => .int (k : Nat))), .non, .shr (.int a)]) (lk := none)
    (fun k : Nat => .int k) (fun k => if lab1 n ls fs k = (a : Int) then some (.int k) else none) (List.range n) (by simp [idx_mesh0, show n ≤ 1000000 by omega]) rfl rfl rfl (by simp [mAx]; omega) (by
      intro k hk
      have hk := List.mem_range.1 hk
      by_cases q : lab1 n ls fs k = (a : Int) <;> simp [idx_lab, hk, eq_ints, q, wipeS])
  have e2 (a : Nat) : ((List.range n).filterMap fun k => if lab1 n ls fs k = (a : Int) then some (PyData.int k) else none) = (nodesOf n fun k => decide (lab1 n ls fs k = (a : Int))).map fun k => .int (k : Nat) := by
    rw [nodesOf]
    induction List.range n with
    | nil => rfl
    | cons x xs ih => by_cases q : lab1 n ls fs x = (a : Int) <;> simp [q, ih]
  have h3 := comp_map (h := c :: t) (vs := [5]) (tg := .var 5) (it := .seq (.var 3)) (ts := .yes) (e := .op .tuple (.cons (.comp [4] (.var 4) (.rng1 (.op .idx (.cons (.var 0) (.cons (.cst (.int (0))) .nil)))) (.cmp .eq (.op .idx (.cons (.var 2) (.cons (.var 4) .nil))) (.var 5)) (.var 4)) .nil))
    (ρ := [.shr (meshD n ls), .shr (intsD fs), .shr (intsD (labels n ls fs)), .hld false false (.list (heads.map fun k => .int (k : Nat))), .non, .non]) (ρ1 := [.shr (meshD n ls), .shr (intsD fs), .shr (intsD (labels n ls fs)), .hld false false (.list (heads.map fun k => .int (k : Nat))), .non, .non]) (ρ2 := [.shr (meshD n ls), .shr (intsD fs), .shr (intsD (labels n ls fs)), .hld false true (.list (heads.map fun k => .int (k : Nat))), .non, .non]) (lk := some 3)
    (fun k : Nat => .int k) (fun a => some (natsD (nodesOf n fun k => decide (lab1 n ls fs k = (a : Int))))) heads (by simp) rfl rfl rfl (by simp [mAx]; omega) (by
      intro a ha
      have g := h2 a
      rw [e2] at g
      have w : evE (c :: t) (.op .tuple (.cons (.comp [4] (.var 4) (.rng1 (.op .idx (.cons (.var 0) (.cons (.cst (.int (0))) .nil)))) (.cmp .eq (.op .idx (.cons (.var 2) (.cons (.var 4) .nil))) (.var 5)) (.var 4)) .nil)) [.shr (meshD n ls), .shr (intsD fs), .shr (intsD (labels n ls fs)), .hld false true (.list (heads.map fun k => .int (k : Nat))), .non, .shr (.int a)] = .ok (.shr (natsD (nodesOf n fun k => decide (lab1 n ls fs k = (a : Int))))) [.shr (meshD n ls), .shr (intsD fs), .shr (intsD (labels n ls fs)), .hld false true (.list (heads.map fun k => .int (k : Nat))), .non, .shr (.int a)] := by
        simp [↓g, unlockS, opTuple, natsD]
      exact turn_ok (ρ1 := [.shr (meshD n ls), .shr (intsD fs), .shr (intsD (labels n ls fs)), .hld false true (.list (heads.map fun k => .int (k : Nat))), .non, .shr (.int a)]) (by simp [wipeS]) (by simp) (by rw [w]; rfl) rfl)
  have e3 : (heads.filterMap fun a : Nat => some (natsD (nodesOf n fun k => decide (lab1 n ls fs k = (a : Int))))) = heads.map fun a : Nat => natsD (nodesOf n fun k => decide (lab1 n ls fs k = (a : Int))) := by simp
  rw [e3] at h3
  simp [run_eq, parS, b_parts, hc n ls fs hn hg, ↓h1, ↓h3, unlockS]
def atNode (ls : List (Nat × Nat)) (v : Nat) : List Nat := (ls.zipIdx.filter fun z => touch v z.1).map (·.2)
theorem linesOf_at (ls : List (Nat × Nat)) (v : Nat) : linesOf ls (fun l _ => touch v l) = (atNode ls v).map Int.ofNat := by
  rw [linesOf, atNode]
  induction ls.zipIdx with
  | nil => rfl
  | cons x xs ih => cases q : touch v x.1 <;> simp [q, ih]
theorem atNode_lt (ls : List (Nat × Nat)) (v k : Nat) (h : k ∈ atNode ls v) : k < ls.length := by
  obtain ⟨⟨p, j⟩, hz, rfl⟩ := List.mem_map.1 h
  have := List.mem_zipIdx (List.mem_filter.1 hz).1
  simp at this
  exact this.1
def farEnd (ls : List (Nat × Nat)) (v k : Nat) : Nat := if (ls.getD k (0, 0)).1 = v then (ls.getD k (0, 0)).2 else (ls.getD k (0, 0)).1
def near (n : Nat) (ls : List (Nat × Nat)) (v : Nat) : List Int := (atNode ls v).map fun k => lab1 n ls ((atNode ls v).map Int.ofNat) (farEnd ls v k)
def isCut (n : Nat) (ls : List (Nat × Nat)) (v : Nat) : Bool := (near n ls v).any fun l => !decide (l = (near n ls v).headD 0)
def AtOk (x : Ix) (c : Calls) : Prop := ∀ (n : Nat) (ls : List (Nat × Nat)) (v : Nat), ls.length ≤ 1000 → c x.lines_at [meshD n ls, .int v] = .ok (.shr (intsD (linesOf ls fun l _ => touch v l))) []
def EndOk (x : Ix) (c : Calls) : Prop := ∀ (n : Nat) (ls : List (Nat × Nat)) (k : Nat) (hk : k < ls.length) (v : Nat), c x.other_end [meshD n ls, .int k, .int v] = .ok (.shr (.int (if ls[k].1 = v then ls[k].2 else ls[k].1 : Nat))) []
theorem farEnd_lt (n : Nat) (ls : List (Nat × Nat)) (v k : Nat) (hg : goodL n ls) (h : k < ls.length) : farEnd ls v k < n := by
  have hm := hg ls[k] (List.getElem_mem _)
  simp only [farEnd, List.getD_eq_getElem?_getD, h, List.getElem?_eq_getElem, Option.getD_some]
  split <;> omega
theorem len_atNode (ls : List (Nat × Nat)) (v : Nat) : (atNode ls v).length ≤ ls.length := by
  rw [atNode, List.length_map]
  exact Nat.le_trans (List.length_filter_le _ _) (by simp)
theorem run_near (c : Calls) (t : List Calls) (h8 : AtOk x c) (h9 : EndOk x c) (n : Nat) (ls : List (Nat × Nat)) (hg : goodL n ls) (hl : ls.length ≤ 1000) (v : Nat) (a : PV) (hn : n ≤ 1000) :
    evE (c :: t) (.comp [5] (.var 5) (.seq (.call x.lines_at (.cons (.var 0) (.cons (.var 2) .nil)))) .yes (.op .idx (.cons (.var 3) (.cons (.call x.other_end (.cons (.var 0) (.cons (.var 5) (.cons (.var 2) .nil)))) .nil))))
      [.shr (meshD n ls), a, .shr (.int v), .shr (intsD (labels n ls ((atNode ls v).map Int.ofNat))), .non, .non, .non] =
    .ok (.own (.list ((near n ls v).map .int))) [.shr (meshD n ls), a, .shr (.int v), .shr (intsD (labels n ls ((atNode ls v).map Int.ofNat))), .non, .non, .non] := by
  have h := comp_map (h := c :: t) (vs := [5]) (tg := .var 5) (it := .seq (.call x.lines_at (.cons (.var 0) (.cons (.var 2) .nil)))) (ts := .yes) (e := .op .idx (.cons (.var 3) (.cons (.call x.other_end (.cons (.var 0) (.cons (.var 5) (.cons (.var 2) .nil)))) .nil)))
    (ρ := [.shr (meshD n ls), a, .shr (.int v), .shr (intsD (labels n ls ((atNode ls v).map Int.ofNat))), .non, .non, .non]) (ρ1 := [.shr (meshD n ls), a, .shr (.int v), .shr (intsD (labels n ls ((atNode ls v).map Int.ofNat))), .non, .non, .non]) (ρ2 := [.shr (meshD n ls), a, .shr (.int v), .shr (intsD (labels n ls ((atNode ls v).map Int.ofNat))), .non, .non, .non]) (lk := none)
    (fun k : Nat => .int k) (fun k => some (.int (lab1 n ls ((atNode ls v).map Int.ofNat) (farEnd ls v k)))) (atNode ls v)
    (by simp [callV, slotsOf, putOuts, h8 n ls v hl, linesOf_at, intsD, Function.comp_def]) rfl rfl rfl (by have := len_atNode ls v; simp [mAx]; omega) (by
      intro k hk
      have hk := atNode_lt ls v k hk
      have e9 : c x.other_end [meshD n ls, .int k, .int v] = .ok (.shr (.int (farEnd ls v k : Nat))) [] := by
        rw [h9 n ls k hk v]; simp [farEnd, hk]
      simp [e9, idx_lab, farEnd_lt n ls v k hg hk, wipeS])
  rw [h]
  simp [near, unlockS, Function.comp_def]
theorem run_differ (c : Calls) (t : List Calls) (ns : List Int) (p0 p1 p2 p3 : PV) (hl : ns.length ≤ 1000) :
    evE (c :: t) (.gen .any [6] (.var 6) (.seq (.var 4)) .yes (.op .ne (.cons (.var 6) (.cons (.op .idx (.cons (.var 4) (.cons (.cst (.int (0))) .nil))) .nil))))
      [p0, p1, p2, p3, .hld false false (.list (ns.map .int)), .non, .non] = .ok (.shr (.bool (ns.any fun l => !decide (l = ns.headD 0)))) [p0, p1, p2, p3, .hld false false (.list (ns.map .int)), .non, .non] := by
  have h := gen_run (c := c) (t := t) (q := .any) (b := true) (vs := [6]) (tg := .var 6) (it := .seq (.var 4)) (ts := .yes) (e := .op .ne (.cons (.var 6) (.cons (.op .idx (.cons (.var 4) (.cons (.cst (.int (0))) .nil))) .nil)))
    (ρ := [p0, p1, p2, p3, .hld false false (.list (ns.map .int)), .non, .non]) (ρ1 := [p0, p1, p2, p3, .hld false false (.list (ns.map .int)), .non, .non]) (ρ2 := [p0, p1, p2, p3, .hld false true (.list (ns.map .int)), .non, .non]) (lk := some 4) (xs := ns.map .int)
    (fun d => some (match d with | .int l => !decide (l = ns.headD 0) | _ => false)) rfl (by simp) rfl rfl rfl (by
      intro x hx
      obtain ⟨l, hl, rfl⟩ := List.mem_map.1 hx
      cases ns with
      | nil => simp at hl
      | cons y ys =>
        have e : opIdx [.list ((y :: ys).map .int), .int 0] = some (.shr (.int y)) := by simp [opIdx, item, place]
        simp only [List.map_cons] at e
        simp [e, ne_ints, boolOf, wipeS])
  rw [h, any_run]
  simp [unlockS, List.any_map, Function.comp_def]
def cutStep (n : Nat) (ls : List (Nat × Nat)) (f : List Nat) (v : Nat) : List Nat := if isCut n ls v then f ++ [v] else f
theorem cut_fold (n : Nat) (ls : List (Nat × Nat)) (vs : List Nat) (f : List Nat) : vs.foldl (cutStep n ls) f = f ++ vs.filter (isCut n ls) := by
  induction vs generalizing f with
  | nil => simp
  | cons v vs ih =>
    rw [List.foldl_cons, ih, cutStep]
    cases q : isCut n ls v <;> simp [q]
theorem run_cut_nodes (c : Calls) (t : List Calls) (h4 : LabOk x c) (h8 : AtOk x c) (h9 : EndOk x c) (n : Nat) (ls : List (Nat × Nat)) (hg : goodL n ls) (hl : ls.length ≤ 1000) (hn : n ≤ 1000) :
    runDef (c :: t) ⟨7, [false], b_cut_nodes x⟩ [meshD n ls] = .ok (.shr (natsD (nodesOf n (isCut n ls)))) [] := by
  have hli := lim_small n hn
  have hr := for_pre (h := c :: t) (tg := .var 2) (it := .rng1 (.op .idx (.cons (.var 0) (.cons (.cst (.int (0))) .nil))))
    (b := (.cons (.set (.var 3) (.call x.labels_of (.cons (.var 0) (.cons (.call x.lines_at (.cons (.var 0) (.cons (.var 2) .nil))) .nil))))
  (.cons (.set (.var 4) (.comp [5] (.var 5) (.seq (.call x.lines_at (.cons (.var 0) (.cons (.var 2) .nil)))) .yes (.op .idx (.cons (.var 3) (.cons (.call x.other_end (.cons (.var 0) (.cons (.var 5) (.cons (.var 2) .nil)))) .nil)))))
  (.cons (.ite (.val (.gen .any [6] (.var 6) (.seq (.var 4)) .yes (.op .ne (.cons (.var 6) (.cons (.op .idx (.cons (.var 4) (.cons (.cst (.int (0))) .nil))) .nil)))))
  (.cons (.ex (.mth .append 1 (.cons (.var 2) .nil)))
  .nil)
  .nil)
  .nil))))
    (ρ := [.shr (meshD n ls), .hld false false (.list []), .non, .non, .non, .non, .non]) (ρ1 := [.shr (meshD n ls), .hld false false (.list []), .non, .non, .non, .non, .non]) (ρ2 := [.shr (meshD n ls), .hld false false (.list []), .non, .non, .non, .non, .non]) (lk := none)
    (fun f : List Nat => [.shr (meshD n ls), .hld false false (.list (f.map fun k => .int (k : Nat))), .non, .non, .non, .non, .non])
    (cutStep n ls) (fun v : Nat => .int v) (List.range n) []
    (by simp [idx_mesh0, show n ≤ 1000000 by omega]) rfl rfl (by
      intro d v r hd
      have hb : (d.foldl (cutStep n ls) []).length < 16777216 := by
        have h1 : d.length ≤ n := by have := congrArg List.length hd; simp at this; omega
        have h2 := List.length_filter_le (isCut n ls) d
        rw [cut_fold]; simp; omega
      generalize d.foldl (cutStep n ls) [] = f at *
      have e8 := h8 n ls v hl
      rw [linesOf_at] at e8
      have e4 := h4 n ls ((atNode ls v).map Int.ofNat) hn hg
      have e5 := run_near x c t h8 h9 n ls hg hl v (.hld false false (.list (f.map fun k => .int (k : Nat)))) hn
      have hnl : (near n ls v).length ≤ 1000 := by have := len_atNode ls v; simp [near]; omega
      have e6 := run_differ c t (near n ls v) (.shr (meshD n ls)) (.hld false false (.list (f.map fun k => .int (k : Nat)))) (.shr (.int v)) (.shr (intsD (labels n ls ((atNode ls v).map Int.ofNat)))) hnl
      refine ⟨[.shr (meshD n ls), .hld false false (.list (f.map fun k => .int (k : Nat))), .shr (.int v), .non, .non, .non, .non], [.shr (meshD n ls), .hld false false (.list ((cutStep n ls f v).map fun k => .int (k : Nat))), .shr (.int v), .shr (intsD (labels n ls ((atNode ls v).map Int.ofNat))), .hld false false (.list ((near n ls v).map .int)), .non, .non], by simp, .inl ?_, by simp [rst]⟩
      rw [← isCut] at e6
      cases q : isCut n ls v <;> simp [callV, slotsOf, putOuts, e8, e4, ↓e5, ↓e6, q, truth, cutStep, mth, mAppend, mAx, hb])
  rw [cut_fold] at hr
  simp [run_eq, parS, b_cut_nodes, ↓hr, unlockS, natsD, nodesOf]
end M
end
section
set_option linter.all false
set_option maxRecDepth 100000
namespace M
open PySem Ev PySem.W
variable (x : Ix)
theorem app_ints (ds : List Int) (i : Int) (h : ds.length < 16777216) : mAppend (ds.map .int) [.int i] = some (.none, (ds ++ [i]).map .int) := by simp [mAppend, mAx, h]
theorem run_draws (h : List Calls) (ns : List Int) (hl : ns.length ≤ 63) :
    ∃ ds : List Int, runDef h ⟨7, [false], b_law_draws⟩ [.dict [(.none, .list (ns.map .int))]] = .ok (.own (.list (ds.map .int))) [] := by
  rw [run_fin (ρ := [.shr (.dict [(.none, .list (ns.map .int))])]) (hp := rfl)]
  simp [run_eq, parS, b_law_draws, -List.map_reverse]
  refine for_inv (Q := fun o => ∃ ds : List Int, fin [false] o = .ok (.own (.list (ds.map .int))) [])
    (fun j r => ∃ ds : List Int, ds.length ≤ j * 62 ∧ r = [.shr (.dict [(.none, .list (ns.map .int))]), .hld false false (.list (ds.map .int)), .non, .non, .non, .non, .non])
    PyData.int ns (by simp) ⟨[], by simp, rfl⟩ ?_ ?_
  · rintro j z _ hz ⟨ds, hd, rfl⟩
    have hj : j < 63 := by have := (List.getElem?_eq_some_iff.1 hz).1; omega
    have hb : ds.length < 16777216 := by omega
    have hb1 : ds.length + 1 < 16777216 := by omega
    simp
    refine join (Q := Trn _ _ _) (fun r => ∃ (ds2 : List Int) (num : Int) (p6 : PV), ds2.length ≤ j * 62 + 2 ∧ (match p6 with | .hld true _ _ => p6 | _ => .non) = .non ∧ r = [.shr (.dict [(.none, .list (ns.map .int))]), .hld false false (.list (ds2.map .int)), .shr (.int z), .non, .non, .shr (.int num), p6]) ?_ ?_
    · split
      · simp [app_ints, hb, hb1, -List.map_append]
        exact ⟨_, by simp; omega, _, _, rfl, rfl, rfl, rfl⟩
      · simp
        exact ⟨_, by omega, _, _, rfl, rfl, rfl, rfl⟩
    · rintro _ ⟨ds2, num, p6, h2, h6, rfl⟩
      simp
      refine for_inv (Q := Trn _ _ _) (fun i r => ∃ (ds3 : List Int) (num : Int), ds3.length ≤ j * 62 + 2 + i ∧ r = [.shr (.dict [(.none, .list (ns.map .int))]), .hld false false (.list (ds3.map .int)), .shr (.int z), .non, .non, .shr (.int num), p6])
        (fun k : Nat => .int (k : Nat)) (List.range 60) (by simp) ⟨ds2, num, h2, rfl⟩ ?_ ?_
      · rintro i y _ hy ⟨ds3, num, h3, rfl⟩
        have hi : i < 60 := by have := (List.getElem?_eq_some_iff.1 hy).1; simpa using this
        have hb : ds3.length < 16777216 := by omega
        simp
        split
        · simp [app_ints, hb, -List.map_append]
          exact ⟨_, by simp; omega, rfl⟩
        · simp
          exact ⟨_, by omega, rfl⟩
      · rintro _ ⟨ds3, num, h3, rfl⟩
        simp at h3
        simp
        exact ⟨ds3, by omega, rfl, h6⟩
  · rintro _ ⟨ds, hd, rfl⟩
    simp
    refine join (Q := fun o => ∃ ds : List Int, fin [false] o = .ok (.own (.list (ds.map .int))) []) (fun r => ∃ seed : Int, r = [.shr (.dict [(.none, .list (ns.map .int))]), .hld false false (.list (ds.map .int)), .non, .shr (.int seed), .non, .non, .non]) ?_ ?_
    · split
      · cases ns with
        | nil => simp at *
        | cons x xs => simp
      · simp
    · rintro _ ⟨seed, rfl⟩
      simp
      refine for_inv (Q := fun o => ∃ ds : List Int, fin [false] o = .ok (.own (.list (ds.map .int))) [])
        (fun i r => ∃ (ds3 : List Int) (num : Int), ds3.length ≤ ns.length * 62 + i ∧ r = [.shr (.dict [(.none, .list (ns.map .int))]), .hld false false (.list (ds3.map .int)), .non, .shr (.int num), .non, .non, .non])
        (fun k : Nat => .int (k : Nat)) (List.range 900) (by simp) ⟨ds, seed, hd, rfl⟩ ?_ ?_
      · rintro i y _ hy ⟨ds3, num, h3, rfl⟩
        have hi : i < 900 := by have := (List.getElem?_eq_some_iff.1 hy).1; simpa using this
        have hb : ds3.length < 16777216 := by omega
        simp [app_ints, hb, -List.map_append]
        exact ⟨_, by simp; omega, rfl⟩
      · rintro _ ⟨ds3, num, h3, rfl⟩
        simp [-List.map_reverse]
        exact ⟨ds3.reverse, by simp⟩
def kids : Ev.D → List Ev.D
  | .list xs => xs
  | .tuple xs => xs
  | _ => []
theorem run_alike (c : Calls) (t : List Calls) (d : Ev.D) (hd : flat d = true) (hn : (kids d).length ≤ 1000) (hc : ∀ y ∈ kids d, c x.law_alike [y, y] = .ok (.shr (.bool true)) []) :
    runDef (c :: t) ⟨3, [false, false], b_law_alike x⟩ [d, d] = .ok (.shr (.bool true)) [] := by
  rw [run_fin (ρ := [.shr d, .shr d]) (hp := rfl)]
  cases d with
  | tuple xs =>
    have hn' : xs.length ≤ 1000 := hn
    simp [run_eq, parS, b_law_alike, isTy]
    rw [comp_val (fun k : Nat => .int (k : Nat)) (fun _ => none) (List.range xs.length) (by simp [show xs.length ≤ 1000000 by omega]) rfl rfl (by simp [mAx]; omega) (by
      intro k hk
      have hk := List.mem_range.1 hk
      have e := hc xs[k] (by simp [kids])
      simp [item_n, hk, e])]
    simp [eq_f, PyData.eqv, PyData.eqvAll]
  | list xs =>
    have hn' : xs.length ≤ 1000 := hn
    simp [run_eq, parS, b_law_alike, isTy]
    rw [comp_val (fun k : Nat => .int (k : Nat)) (fun _ => none) (List.range xs.length) (by simp [show xs.length ≤ 1000000 by omega]) rfl rfl (by simp [mAx]; omega) (by
      intro k hk
      have hk := List.mem_range.1 hk
      have e := hc xs[k] (by simp [kids])
      simp [item_n, hk, e])]
    simp [eq_f, PyData.eqv, PyData.eqvAll]
  | dict kvs => simp [flat, PyData.canLay0] at hd
  | _ => simp [run_eq, parS, b_law_alike, isTy, eq_f, PyData.eqv, hd]
theorem perm_of_mem {l m : List Nat} (hl : l.Nodup) (hm : m.Nodup) (h : ∀ a, a ∈ l ↔ a ∈ m) : l.Perm m := (List.perm_ext_iff_of_nodup hl hm).2 h
def nD (k : Nat) : Ev.D := .int (k : Nat)
theorem le_nD (a b : Nat) : decide (a ≤ b) = dataLe false id (nD a) (nD b) := by
  have : dataLe false id (nD a) (nD b) = dataLe false (fun b : Nat => .int ((fun k : Nat => (k : Int)) b)) a b := rfl
  rw [this, dataLe_int]
  simp
theorem sort_nats (f : List Nat) (n : Nat) (hd : f.Nodup) (hb : ∀ w ∈ f, w < n) : (f.map nD).mergeSort (dataLe false id) = ((List.range n).filter fun w => decide (w ∈ f)).map nD := by
  rw [← List.map_mergeSort (r := fun a b : Nat => decide (a ≤ b)) (fun a _ b _ => le_nD a b)]
  congr 1
  apply List.Perm.eq_of_pairwise (le := fun a b : Nat => a ≤ b)
  · intro a b _ _ h1 h2; omega
  · exact (List.pairwise_mergeSort (le := fun a b : Nat => decide (a ≤ b)) (by simp; omega) (by simp; omega) f).imp (by simp)
  · exact (List.pairwise_lt_range.filter _).imp (fun h => Nat.le_of_lt h)
  · refine (List.mergeSort_perm f _).trans (perm_of_mem hd (List.nodup_range.filter _) fun a => ?_)
    simp only [List.mem_filter, List.mem_range, decide_eq_true_eq]
    exact ⟨fun h => ⟨hb a h, h⟩, fun h => h.2⟩
theorem sortable_nats (f : List Nat) (h : f.length ≤ 1000) : Ev.sortable (f.map nD) = true := by
  have h1 : decide ((f.map nD).length ≤ mAx) = true := decide_eq_true (by simp [mAx]; omega)
  have h2 : (f.map nD).all (fun x => decide (x.depth ≤ 64)) = true := by
    rw [List.all_eq_true]; intro x hx; obtain ⟨k, _, rfl⟩ := List.mem_map.1 hx; simp [nD, PyData.depth]
  have h3 : (f.map nD).all (fun x => (f.map nD).all fun y => alike x y) = true := by
    rw [List.all_eq_true]; intro x hx; obtain ⟨k, _, rfl⟩ := List.mem_map.1 hx
    rw [List.all_eq_true]; intro y hy; obtain ⟨j, _, rfl⟩ := List.mem_map.1 hy
    rfl
  rw [Ev.sortable, h1, h2, h3, Bool.and_true, Bool.true_and, Bool.true_and, Bool.or_eq_true]
  right
  rw [List.all_eq_true]; intro x hx; obtain ⟨k, _, rfl⟩ := List.mem_map.1 hx; rfl
theorem sorted_nats (f : List Nat) (n : Nat) (hd : f.Nodup) (hb : ∀ w ∈ f, w < n) (hn : n ≤ 1000) : opSorted [.list (f.map nD)] = some (.own (.list (((List.range n).filter fun w => decide (w ∈ f)).map nD))) := by
  have hl : f.length ≤ 1000 := Nat.le_trans (nodup_bound hd hb) hn
  show b2o (Ev.sortable (f.map nD)) _ = _
  rw [sortable_nats f hl, sort_nats f n hd hb]; rfl
theorem flat_nats (f : List Nat) : flat (.list (f.map nD)) = true := by
  have := (flat_ints (f.map Int.ofNat)).1
  rw [List.map_map] at this
  exact this
theorem inn_nats (a : Nat) (f : List Nat) : opInn [nD a, .list (f.map nD)] = some (.shr (.bool (decide (a ∈ f)))) := by
  have e : f.map nD = (f.map Int.ofNat).map .int := by rw [List.map_map]; rfl
  have g := flat_nats f
  show b2o (flat (nD a) && flat (.list (f.map nD))) (rbool (anyEq (nD a) (f.map nD))) = _
  rw [g, e, show nD a = .int (Int.ofNat a) from rfl, anyEq_ints]
  have : decide (Int.ofNat a ∈ f.map Int.ofNat) = decide (a ∈ f) := by
    apply decide_eq_decide.2
    rw [List.mem_map]
    constructor
    · rintro ⟨b, hb, e⟩; have : b = a := by simp at e; omega
      exact this ▸ hb
    · intro h; exact ⟨a, h, rfl⟩
  rw [this]; rfl
theorem nin_nats (a : Nat) (f : List Nat) : opNin [nD a, .list (f.map nD)] = some (.shr (.bool (!decide (a ∈ f)))) := by
  have h := inn_nats a f
  have e1 : opInn [nD a, .list (f.map nD)] = b2o (flat (nD a) && flat (.list (f.map nD))) (rbool (anyEq (nD a) (f.map nD))) := rfl
  have e2 : opNin [nD a, .list (f.map nD)] = b2o (flat (nD a) && flat (.list (f.map nD))) (rbool (!anyEq (nD a) (f.map nD))) := rfl
  rw [e1, show flat (nD a) = true from rfl, flat_nats] at h
  rw [e2, show flat (nD a) = true from rfl, flat_nats]
  have h' : anyEq (nD a) (f.map nD) = decide (a ∈ f) := by simpa [b2o, rbool] using h
  rw [h']; rfl
/-- the lines that are not fallen -/
def act (ls : List (Nat × Nat)) (fs : List Int) : Edges := (ls.zipIdx.filter fun z => !decide ((z.2 : Int) ∈ fs)).map (·.1)
def goK (ls : List (Nat × Nat)) (fs : List Int) (av : List Nat) (f : List Nat) (k : Nat) : List Nat := if (k : Int) ∈ fs then f else goOn av f (ls.getD k (0, 0))
theorem zip_range {α : Type} (d : α) (ls : List α) : ls.zipIdx = (List.range ls.length).map fun k => (ls.getD k d, k) := by
  apply List.ext_getElem
  · simp
  · intro i h1 h2
    simp at h1
    simp [h1]
theorem fold_goK (ls : List (Nat × Nat)) (fs : List Int) (av f : List Nat) : (List.range ls.length).foldl (goK ls fs av) f = round (act ls fs) av f := by
  rw [round, act, zip_range (0, 0) ls, List.filter_map, List.map_map, List.foldl_map, List.foldl_filter]
  congr 1
  funext f k
  by_cases q : (k : Int) ∈ fs <;> simp [goK, q]
def OkF (n : Nat) (f : List Nat) : Prop := f.Nodup ∧ ∀ w ∈ f, w < n
theorem OkF.add {n : Nat} {av f : List Nat} {a b : Nat} (h : OkF n f) (hb : b < n) : OkF n (addN av f a b) := by
  refine ⟨addN_nodup h.1, fun w hw => ?_⟩
  rw [addN] at hw
  split at hw
  · rcases List.mem_append.1 hw with hw | hw
    · exact h.2 w hw
    · rw [List.mem_singleton.1 hw]; exact hb
  · exact h.2 w hw
def HasF (fd : Ev.D) (fs : List Int) : Prop := ∀ x : Int, opNin [.int x, fd] = some (.shr (.bool (!decide (x ∈ fs))))
theorem lineD_rev (p : Nat × Nat) : (PyData.tuple [nD p.2, nD p.1]) = lineD (p.2, p.1) := rfl
theorem app_nat (f : List Nat) (a : Nat) (h : f.length < 16777216) : mAppend (f.map nD) [nD a] = some (.none, (f ++ [a]).map nD) := by simp [mAppend, mAx, h]
theorem run_reached (h : List Calls) (n : Nat) (ls : List (Nat × Nat)) (fd : Ev.D) (fs : List Int) (av : List Nat) (v : Nat) (hn : n ≤ 1000) (hl : ls.length ≤ 1000) (hg : goodL n ls) (hv : v < n) (hf : HasF fd fs) :
    runDef h ⟨9, [false, false, false, false], b_law_reached⟩ [meshD n ls, nD v, .list (av.map nD), fd] = .ok (.own (.list (((List.range n).filter fun w => decide (w ∈ rounds (act ls fs) av v n)).map nD))) [] := by
  rw [run_fin (ρ := [.shr (meshD n ls), .shr (nD v), .shr (.list (av.map nD)), .shr fd]) (hp := rfl)]
  simp [run_eq, parS, b_law_reached, idx_mesh0]
  refine for_inv (Q := fun o => fin [false, false, false, false] o = _) (fun j r => OkF n (rounds (act ls fs) av v j) ∧ r = [.shr (meshD n ls), .shr (nD v), .shr (.list (av.map nD)), .shr fd, .hld false false (.list ((rounds (act ls fs) av v j).map nD)), .non, .non, .non, .non])
    nD (List.range n) (by simp [idx_mesh0, show n ≤ 1000000 by omega, nD]) ⟨⟨by simp [rounds], by simp [rounds, hv]⟩, rfl⟩ ?_ ?_
  · rintro j z _ hz ⟨hok, rfl⟩
    simp
    refine for_inv (Q := Trn _ _ _) (fun i r => OkF n ((List.range i).foldl (goK ls fs av) (rounds (act ls fs) av v j)) ∧ r = [.shr (meshD n ls), .shr (nD v), .shr (.list (av.map nD)), .shr fd, .hld false false (.list (((List.range i).foldl (goK ls fs av) (rounds (act ls fs) av v j)).map nD)), .shr (nD z), .non, .non, .non])
      nD (List.range ls.length) (by simp [idx_mesh1, show ls.length ≤ 1000000 by omega, nD]) ⟨hok, rfl⟩ ?_ ?_
    · rintro i k _ hk ⟨hok2, rfl⟩
      obtain ⟨hk1, rfl⟩ : i < ls.length ∧ k = i := by
        obtain ⟨h1, h2⟩ := List.getElem?_eq_some_iff.1 hk; simp at h1 h2; exact ⟨h1, h2.symm⟩
      rw [List.range_succ, List.foldl_append]
      generalize (List.range k).foldl (goK ls fs av) (rounds (act ls fs) av v j) = f at *
      have hfk := hf (k : Int)
      have hfk' : opNin [nD k, fd] = some (.shr (.bool (!decide ((k : Int) ∈ fs)))) := hfk
      simp [hfk']
      split
      · rename_i q
        simp [goK, q, hok2]
      · rename_i q
        have hgk := hg ls[k] (List.getElem_mem _)
        have e1 : item (ls.map lineD) (k : Int) = some (lineD ls[k]) := by rw [item_n _ k (by simpa using hk1)]; simp
        simp [goK, q, List.getElem?_eq_getElem hk1]
        generalize ls[k] = p at *
        obtain ⟨a, b⟩ := p
        refine for_inv (Q := Trn _ _ _) (fun i r => OkF n (([(a, b), (b, a)].take i).foldl (fun f p => addN av f p.1 p.2) f) ∧ r = [.shr (meshD n ls), .shr (nD v), .shr (.list (av.map nD)), .shr fd, .hld false false (.list ((([(a, b), (b, a)].take i).foldl (fun f p => addN av f p.1 p.2) f).map nD)), .shr (nD z), .shr (nD k), .non, .non])
          lineD [(a, b), (b, a)] (by simp [idx_mesh1, nD, e1, lineD]) ⟨hok2, rfl⟩ ?_ ?_
        · rintro i2 p _ hp ⟨hok3, rfl⟩
          have e2 : [(a, b), (b, a)].take (i2 + 1) = [(a, b), (b, a)].take i2 ++ [p] := by
            rw [List.take_add_one, hp]; rfl
          rw [e2, List.foldl_append]
          generalize (([(a, b), (b, a)].take i2).foldl (fun f p => addN av f p.1 p.2) f) = f at *
          have hp2 : p.2 < n := by
            have := List.mem_of_getElem? hp
            simp at this hgk
            rcases this with rfl | rfl <;> simp <;> omega
          have hb : f.length < 16777216 := by have := nodup_bound hok3.1 hok3.2; omega
          have hok4 := hok3.add (av := av) (a := p.1) hp2
          have i1 := inn_nats p.1 f
          have i2 := nin_nats p.2 f
          have i3 := nin_nats p.2 av
          have i4 := app_nat f p.2 hb
          simp only [nD] at i1 i2 i3 i4
          by_cases q1 : p.1 ∈ f
          · by_cases q2 : p.2 ∈ f
            · have e : addN av f p.1 p.2 = f := by simp [addN, q2]
              simp [lineD, i1, i2, q1, q2, e]
              exact hok3
            · by_cases q3 : p.2 ∈ av
              · have e : addN av f p.1 p.2 = f := by simp [addN, q3]
                simp [lineD, i1, i2, i3, q1, q2, q3, e]
                exact hok3
              · have e : addN av f p.1 p.2 = f ++ [p.2] := by simp [addN, q1, q2, q3]
                rw [e] at hok4
                simp [lineD, i1, i2, i3, i4, q1, q2, q3, e, -List.map_append]
                exact hok4
          · have e : addN av f p.1 p.2 = f := by simp [addN, q1]
            simp [lineD, i1, q1, e]
            exact hok3
        · rintro _ ⟨hok3, rfl⟩
          simp [goOn] at *
          exact hok3
    · rintro _ ⟨hok2, rfl⟩
      rw [List.length_range, fold_goK] at *
      simp
      exact ⟨hok2, rfl⟩
  · rintro _ ⟨hok, rfl⟩
    have := sorted_nats _ n hok.1 hok.2 hn
    rw [List.length_range] at *
    simp [this]
def takeV (ds : List Int) (b : Int) : Nat := ((ds.getLast?.getD 0) % b).toNat
theorem takeV_lt (ds : List Int) (b : Int) (hb : 0 < b) : (takeV ds b : Int) < b := by
  have h1 := Int.emod_nonneg (ds.getLast?.getD 0) (show b ≠ 0 by omega)
  have h2 := Int.emod_lt_of_pos (ds.getLast?.getD 0) hb
  rw [takeV]; omega
def drD (ds : List Int) : Ev.D := .list (ds.map .int)
def TakeOk (x : Ix) (c : Calls) : Prop := ∀ (ds : List Int) (b : Int), 0 < b → c x.law_take [drD ds, .int b] = .ok (.shr (.int (takeV ds b : Nat))) [drD ds.dropLast]
theorem run_takeV (h : List Calls) (ds : List Int) (b : Int) (hb : 0 < b) :
    runDef h ⟨2, [true, false], b_law_take⟩ [drD ds, .int b] = .ok (.shr (.int (takeV ds b : Nat))) [drD ds.dropLast] := by
  rw [drD, drD, run_fin (ρ := [.hld true false (.list (ds.map .int)), .shr (.int b)]) (hp := rfl)]
  by_cases q : ds = []
  · subst q
    simp [run_eq, parS, b_law_take, takeV]
  · obtain ⟨xs, x, rfl⟩ : ∃ xs x, ds = xs ++ [x] := ⟨ds.dropLast, ds.getLast q, (List.dropLast_concat_getLast q).symm⟩
    have e : ¬ ((xs.length : Int) + 1 = 0) := by omega
    have h1 := Int.emod_nonneg x (show b ≠ 0 by omega)
    simp [run_eq, parS, b_law_take, e, mPop, hb, takeV, Int.toNat_of_nonneg h1]
theorem app_line (ls : List (Nat × Nat)) (a b : Nat) (h : ls.length < 16777216) : mAppend (ls.map lineD) [.tuple [.int (a : Nat), .int (b : Nat)]] = some (.none, (ls ++ [(a, b)]).map lineD) := by simp [mAppend, mAx, h, lineD]
def MeshPost (N L : Nat) (rc : RC) : Prop := ∃ (n : Nat) (ls : List (Nat × Nat)) (ds' : List Int), rc = .ok (.shr (meshD n ls)) [drD ds'] ∧ 2 ≤ n ∧ n ≤ N ∧ goodL n ls ∧ ls.length ≤ L
theorem snoc_good {n : Nat} {ls : List (Nat × Nat)} {a b : Nat} (h : goodL n ls) (h1 : a < b) (h2 : b < n) : goodL n (ls ++ [(a, b)]) := by
  intro p hp
  rcases List.mem_append.1 hp with hp | hp
  · exact h p hp
  · rw [List.mem_singleton.1 hp]; exact ⟨h1, h2⟩
theorem min_max (a b : Nat) (h : a ≠ b) : ∃ x y : Nat, (if (b : Int) < a then (b : Int) else a) = x ∧ (if (a : Int) < b then (b : Int) else a) = y ∧ x < y ∧ (x = a ∨ x = b) ∧ (y = a ∨ y = b) := by
  by_cases q : b < a
  · exact ⟨b, a, by rw [if_pos (by omega)], by rw [if_neg (by omega)], q, .inr rfl, .inl rfl⟩
  · exact ⟨a, b, by rw [if_neg (by omega)], by rw [if_pos (by omega)], by omega, .inl rfl, .inr rfl⟩
theorem cut_from {α : Type} (g : α → Ev.D) (ls : List α) (m : Nat) (h : m ≤ ls.length) : cut (ls.map g) (some (m : Int)) none = (ls.drop m).map g := by
  have e : ¬ ((m : Int) < 0) := by omega
  simp only [cut, six, e, if_false, Int.toNat_natCast, List.length_map, Nat.min_eq_left h]
  rw [List.take_of_length_le (by simp), List.map_drop]
theorem cut_to {α : Type} (g : α → Ev.D) (ls : List α) (m : Nat) (h : m ≤ ls.length) : cut (ls.map g) none (some (m : Int)) = (ls.take m).map g := by
  have e : ¬ ((m : Int) < 0) := by omega
  simp only [cut, six, e, if_false, Int.toNat_natCast, List.length_map, Nat.min_eq_left h, List.drop_zero, Nat.sub_zero]
  rw [List.map_take]
theorem run_law_mesh (c : Calls) (t : List Calls) (hc : TakeOk x c) (ds : List Int) (N L : Nat) (hN : 2 ≤ N) (hN2 : N ≤ 1000) (hL : L ≤ 1000) :
    MeshPost N L (runDef (c :: t) ⟨9, [true, false, false], b_law_mesh x⟩ [drD ds, .int N, .int L]) := by
  rw [run_fin (ρ := [.hld true false (drD ds), .shr (.int N), .shr (.int L)]) (hp := rfl)]
  have hb1 : (0 : Int) < N - 1 := by omega
  have ht := takeV_lt ds _ hb1
  obtain ⟨n, hn⟩ : ∃ n, n = 2 + takeV ds (N - 1) := ⟨_, rfl⟩
  have hn0 : (2 + takeV ds (N - 1) : Int) = n := by omega
  have hn1 : n ≤ N := by omega
  simp [run_eq, parS, b_law_mesh, hc _ _ hb1, hn0]
  refine for_inv (Q := fun o => MeshPost N L (fin [true, false, false] o)) (fun j r => ∃ ds ls, goodL n ls ∧ ls.length ≤ L ∧ r = [.hld true false (drD ds), .shr (.int N), .shr (.int L), .non, .non, .shr (.int n), .hld false false (.list (ls.map lineD)), .non, .non])
    (fun k : Nat => .int ((1 + k : Nat) : Int)) (List.range (n - 1)) (by simp [show n ≤ 1000000 by omega]) ⟨_, [], by simp [goodL], by simp, rfl⟩ ?_ ?_
  · rintro j z _ hz ⟨ds, ls, hg, hl, rfl⟩
    have hz1 : z < n - 1 := by have := List.mem_of_getElem? hz; simpa using this
    have hb2 : (0 : Int) < 8 := by omega
    have hb3 : (0 : Int) < ((1 + z : Nat) : Int) := by omega
    have ht3 := takeV_lt ds.dropLast _ hb3
    have el : ls.length < 16777216 := by omega
    by_cases q1 : 0 < takeV ds 8
    · by_cases q2 : ls.length < L
      · simp [hc _ _ hb2, q1, q2]
        have e5 := app_line ls (takeV ds.dropLast ((1 + z : Nat) : Int)) (1 + z) el
        have h5 := hc ds.dropLast _ hb3
        simp only [Int.natCast_add, Int.cast_ofNat_Int] at e5 h5 ht3
        simp [h5, e5, -List.map_append]
        exact ⟨_, _, snoc_good hg (by omega) (by omega), by simp; omega, rfl, rfl⟩
      · simp [hc _ _ hb2, q1, q2]
        exact ⟨_, _, hg, hl, rfl, rfl⟩
    · simp [hc _ _ hb2, q1]
      exact ⟨_, _, hg, hl, rfl, rfl⟩
  · rintro _ ⟨ds, ls, hg, hl, rfl⟩
    have hb4 : (0 : Int) < (L : Int) - ls.length + 1 := by omega
    have ht4 := takeV_lt ds _ hb4
    generalize hm : takeV ds ((L : Int) - ls.length + 1) = m at *
    have hm1 : m + ls.length ≤ L := by omega
    simp
    refine for_invx [.hld true false (drD ds.dropLast), .shr (.int N), .shr (.int L), .non, .non, .shr (.int n), .hld false false (.list (ls.map lineD)), .non, .non]
      (Q := fun o => MeshPost N L (fin [true, false, false] o)) (fun j r => ∃ ds ls', goodL n ls' ∧ ls'.length ≤ ls.length + j ∧ r = [.hld true false (drD ds), .shr (.int N), .shr (.int L), .non, .non, .shr (.int n), .hld false false (.list (ls'.map lineD)), .non, .non])
      (fun k : Nat => .int (k : Nat)) (List.range m) (by simp [hc _ _ hb4, hm, show m ≤ 1000000 by omega]) ⟨_, ls, hg, by simp, rfl⟩ ?_ ?_
    · rintro j z _ hz ⟨ds, ls', hg', hl', rfl⟩
      have hj : j < m := by have := (List.getElem?_eq_some_iff.1 hz).1; simpa using this
      have hb5 : (0 : Int) < n := by omega
      have ht5 := takeV_lt ds _ hb5
      have ht6 := takeV_lt ds.dropLast _ hb5
      have el : ls'.length < 16777216 := by omega
      generalize hx : takeV ds (n : Int) = x at *
      generalize hy : takeV ds.dropLast (n : Int) = y at *
      by_cases q : x = y
      · simp [hc _ _ hb5, hx, hy, q]
        exact ⟨_, _, hg', by omega, rfl, rfl⟩
      · obtain ⟨u, w, e1, e2, h1, h2, h3⟩ := min_max x y q
        have e5 := app_line ls' u w el
        have q' : ¬ (x : Int) = y := by omega
        simp only [Int.ofNat_lt] at e1 e2
        simp [hc _ _ hb5, hx, hy, q', e1, e2, e5, -List.map_append]
        exact ⟨_, _, snoc_good hg' h1 (by omega), by simp; omega, rfl, rfl⟩
    · rintro _ ⟨ds, ls', hg', hl', rfl⟩
      have hb6 : (0 : Int) < (ls'.length : Int) + 1 := by omega
      have ht6 := takeV_lt ds _ hb6
      generalize hm : takeV ds ((ls'.length : Int) + 1) = m at *
      have hm6 : m ≤ ls'.length := by omega
      have hl1 : ls'.length ≤ L := by simp at hl'; omega
      have ea : opAdd [.list ((ls'.drop m).map lineD), .list ((ls'.take m).map lineD)] = some (.own (.list ((ls'.drop m ++ ls'.take m).map lineD))) := by
        have : decide (((ls'.drop m).map lineD).length + ((ls'.take m).map lineD).length ≤ mAx) = true := decide_eq_true (by simp [mAx]; omega)
        simp only [opAdd, this, b2o, if_true, List.map_append]
      simp [hc _ _ hb6, hm, cut_from, cut_to, hm6, ea, -List.map_append, -List.map_drop, -List.map_take]
      refine ⟨n, ls'.drop m ++ ls'.take m, _, rfl, by omega, hn1, ?_, by simp; omega⟩
      intro p hp
      rcases List.mem_append.1 hp with hp | hp
      · exact hg' p (List.mem_of_mem_drop hp)
      · exact hg' p (List.mem_of_mem_take hp)
/-! ### labels by lines that stand -/
theorem joinL_lab (lab : Nat → Nat) (n : Nat) (p : Nat × Nat) (h1 : p.1 < n) (h2 : p.2 < n) :
    joinL ((List.range n).map fun a => (lab a : Int)) (((List.range n).map fun a => (lab a : Int)).getD p.1 0) (((List.range n).map fun a => (lab a : Int)).getD p.2 0) = (List.range n).map fun a => (labF1 lab p a : Int) := by
  have e1 : ((List.range n).map fun a => (lab a : Int)).getD p.1 0 = lab p.1 := by simp [h1]
  have e2 : ((List.range n).map fun a => (lab a : Int)).getD p.2 0 = lab p.2 := by simp [h2]
  rw [e1, e2, joinL, List.map_map]
  apply List.map_congr_left
  intro a _
  simp only [Function.comp, labF1]
  by_cases q : lab a = lab p.1 ∨ lab a = lab p.2
  · have q2 : ((lab a : Int) = lab p.1 ∨ (lab a : Int) = lab p.2) := by omega
    rw [if_pos q, if_pos q2]
    split <;> omega
  · have q2 : ¬ ((lab a : Int) = lab p.1 ∨ (lab a : Int) = lab p.2) := by omega
    rw [if_neg q, if_neg q2]
theorem act_good {n : Nat} {ls : List (Nat × Nat)} (hg : goodL n ls) (fs : List Int) : ∀ p ∈ act ls fs, p.1 < n ∧ p.2 < n := by
  intro p hp
  obtain ⟨z, hz, rfl⟩ := List.mem_map.1 hp
  have h1 := (List.mem_filter.1 hz).1
  obtain ⟨⟨a, b⟩, k⟩ := z
  have := List.mem_zipIdx h1
  simp at this
  have := hg (a, b) (this.2 ▸ List.getElem_mem _)
  simp at this ⊢
  omega
theorem labels_eq {n : Nat} {ls : List (Nat × Nat)} (hg : goodL n ls) (fs : List Int) : labels n ls fs = (List.range n).map fun a => (labF (act ls fs) a : Int) := by
  have key : ∀ (zs : List ((Nat × Nat) × Nat)) (lab : Nat → Nat), (∀ z ∈ zs, z.1.1 < n ∧ z.1.2 < n) →
      zs.foldl (labStep fs) ((List.range n).map fun a => (lab a : Int)) = (List.range n).map fun a => ((((zs.filter fun z => !decide ((z.2 : Int) ∈ fs)).map (·.1)).foldl labF1 lab) a : Int) := by
    intro zs
    induction zs with
    | nil => intro lab _; rfl
    | cons z zs ih =>
      intro lab h
      have hz := h z (by simp)
      have hr := fun y hy => h y (List.mem_cons_of_mem _ hy)
      rw [List.foldl_cons, labStep]
      by_cases q : (z.2 : Int) ∈ fs
      · rw [if_pos q, ih lab hr, List.filter_cons_of_neg (by simp [q])]
      · rw [if_neg q, joinL_lab lab n z.1 hz.1 hz.2, ih _ hr, List.filter_cons_of_pos (by simp [q]), List.map_cons, List.foldl_cons]
  have := key ls.zipIdx id (by
    intro z hz
    obtain ⟨⟨a, b⟩, k⟩ := z
    have := List.mem_zipIdx hz
    simp at this
    have := hg (a, b) (this.2 ▸ List.getElem_mem _)
    simp at this ⊢
    omega)
  rw [labels]
  exact this
theorem lab1_eq {n : Nat} {ls : List (Nat × Nat)} (hg : goodL n ls) (fs : List Int) {k : Nat} (hk : k < n) : lab1 n ls fs k = labF (act ls fs) k := by
  rw [lab1, labels_eq hg]; simp [hk]
/-- who is reached -/
def rch (n : Nat) (ls : List (Nat × Nat)) (fs : List Int) (av : List Nat) (v : Nat) : List Nat := (List.range n).filter fun w => decide (w ∈ rounds (act ls fs) av v n)
theorem mem_rch {n : Nat} {ls : List (Nat × Nat)} (hg : goodL n ls) {fs : List Int} {av : List Nat} {v w : Nat} (hv : v < n) : w ∈ rch n ls fs av v ↔ Rch (act ls fs) av v w := by
  obtain ⟨_, h2, h3⟩ := rounds_all (av := av) hv (act_good hg fs)
  rw [rch, List.mem_filter, List.mem_range, decide_eq_true_eq]
  exact ⟨fun h => (h3 w).1 h.2, fun h => ⟨h2 w ((h3 w).2 h), (h3 w).2 h⟩⟩
theorem mem_rch0 {n : Nat} {ls : List (Nat × Nat)} (hg : goodL n ls) {fs : List Int} {v w : Nat} (hv : v < n) : w ∈ rch n ls fs [] v ↔ labF (act ls fs) v = labF (act ls fs) w := by
  rw [mem_rch hg hv, rch_con, (lab_ok _).1]
theorem rch_lt {n : Nat} {ls : List (Nat × Nat)} {fs : List Int} {av : List Nat} {v w : Nat} (h : w ∈ rch n ls fs av v) : w < n := List.mem_range.1 (List.mem_filter.1 h).1
theorem rch0_eq {n : Nat} {ls : List (Nat × Nat)} (hg : goodL n ls) {fs : List Int} {v : Nat} (hv : v < n) : rch n ls fs [] v = (List.range n).filter fun w => decide (labF (act ls fs) w = labF (act ls fs) v) := by
  rw [rch]
  apply List.filter_congr
  intro w hw
  have hw := List.mem_range.1 hw
  have h := mem_rch0 hg (fs := fs) (w := w) hv
  have e : w ∈ rch n ls fs [] v ↔ w ∈ rounds (act ls fs) [] v n := by rw [rch]; simp [hw]
  apply decide_eq_decide.2
  rw [← e, h]
  exact eq_comm
/-! ### parts -/
theorem lt_snoc {lab : Nat → Nat} {S : List Nat} (hs : S.Pairwise fun a b => lab a ≤ lab b) {i j : Nat} (hij : i < j) (hj : j < S.length) : lab (S.getD i 0) ≤ lab (S.getD j 0) := by
  have := List.pairwise_iff_getElem.1 hs i j (by omega) hj hij
  simpa [hj, show i < S.length by omega] using this
/-- rows that stand behind one another and are alike are told once -/
theorem heads_of (n : Nat) (lab : Nat → Nat) (h1 : ∀ a, lab a ≤ a) (h2 : ∀ a, lab (lab a) = lab a) (S : List Nat) (hp : S.Perm (List.range n)) (hs : S.Pairwise fun a b => lab a ≤ lab b) :
    ((List.range S.length).filter fun k => decide (k = 0 ∨ lab (S.getD k 0) ≠ lab (S.getD (k - 1) 0))).map (fun k => lab (S.getD k 0)) = (List.range n).filter fun k => decide (lab k = k) := by
  have hmem : ∀ x, x ∈ S ↔ x < n := fun x => by rw [hp.mem_iff, List.mem_range]
  have hp1 : (((List.range S.length).filter fun k => decide (k = 0 ∨ lab (S.getD k 0) ≠ lab (S.getD (k - 1) 0))).map (fun k => lab (S.getD k 0))).Pairwise (· < ·) := by
    rw [List.pairwise_map]
    have a := (List.pairwise_lt_range (n := S.length)).filter (fun k => decide (k = 0 ∨ lab (S.getD k 0) ≠ lab (S.getD (k - 1) 0)))
    refine (List.Pairwise.and_mem.1 a).imp ?_
    rintro i j ⟨hi, hj, hij⟩
    obtain ⟨hj1, hj2⟩ := List.mem_filter.1 hj
    have hj1 := List.mem_range.1 hj1
    simp only [decide_eq_true_eq] at hj2
    have hj3 : lab (S.getD j 0) ≠ lab (S.getD (j - 1) 0) := hj2.resolve_left (by omega)
    have e1 : lab (S.getD (j - 1) 0) ≤ lab (S.getD j 0) := lt_snoc hs (by omega) hj1
    have e2 : lab (S.getD i 0) ≤ lab (S.getD (j - 1) 0) := by
      by_cases q : i = j - 1
      · rw [q]; exact Nat.le_refl _
      · exact lt_snoc hs (by omega) (by omega)
    omega
  have hp2 : ((List.range n).filter fun k => decide (lab k = k)).Pairwise (· < ·) := List.pairwise_lt_range.filter _
  refine List.Perm.eq_of_pairwise (le := (· < ·)) (fun a b _ _ x y => by omega) hp1 hp2 (perm_of_mem (hp1.imp (fun h => by omega)) (hp2.imp (fun h => by omega)) fun x => ?_)
  simp only [List.mem_map, List.mem_filter, List.mem_range, decide_eq_true_eq]
  constructor
  · rintro ⟨k, ⟨hk, _⟩, rfl⟩
    have : S.getD k 0 < n := (hmem _).1 (by simp [hk])
    exact ⟨Nat.lt_of_le_of_lt (h1 _) this, h2 _⟩
  · rintro ⟨hx, hx2⟩
    obtain ⟨i, hi, e⟩ := List.getElem_of_mem ((hmem x).2 hx)
    have hex : ∃ i, i < S.length ∧ lab (S.getD i 0) = x := ⟨i, hi, by simp [hi, e, hx2]⟩
    have hmin : ∀ m, (∃ i, i < m ∧ i < S.length ∧ lab (S.getD i 0) = x) → ∃ i, i < S.length ∧ lab (S.getD i 0) = x ∧ ∀ j, j < i → lab (S.getD j 0) ≠ x := by
      intro m
      induction m with
      | zero => rintro ⟨i, hi, _⟩; omega
      | succ m ih =>
        rintro ⟨i, h1, h2, h3⟩
        by_cases q : ∃ i, i < m ∧ i < S.length ∧ lab (S.getD i 0) = x
        · exact ih q
        · refine ⟨i, h2, h3, fun j hj e => q ⟨j, by omega, by omega, e⟩⟩
    obtain ⟨k, hk, hk2, hk3⟩ := hmin (i + 1) ⟨i, by omega, hi, by simp [hi, e, hx2]⟩
    refine ⟨k, ⟨hk, ?_⟩, hk2⟩
    by_cases q : k = 0
    · exact .inl q
    · right
      rw [hk2]
      exact fun e => hk3 (k - 1) (by omega) e.symm
/-! ### cut nodes -/
theorem act_off (ls : List (Nat × Nat)) (u : Nat) : act ls ((atNode ls u).map Int.ofNat) = off (act ls []) u := by
  have e0 : act ls [] = ls := by
    rw [act]
    have : (ls.zipIdx.filter fun z => !decide ((z.2 : Int) ∈ ([] : List Int))) = ls.zipIdx := by
      rw [List.filter_eq_self]; simp
    rw [this]; simp
  rw [e0, act, off]
  have key : ∀ (k : Nat) (z : (Nat × Nat) × Nat), z ∈ ls.zipIdx → ((!decide ((z.2 : Int) ∈ (atNode ls u).map Int.ofNat)) = !(decide (z.1.1 = u) || decide (z.1.2 = u))) := by
    intro _ z hz
    have : ((z.2 : Int) ∈ (atNode ls u).map Int.ofNat) ↔ touch u z.1 = true := by
      rw [List.mem_map]
      constructor
      · rintro ⟨k, hk, e⟩
        have e : k = z.2 := by simp at e; omega
        obtain ⟨y, hy, e2⟩ := List.mem_map.1 hk
        obtain ⟨hy1, hy2⟩ := List.mem_filter.1 hy
        have a := List.mem_zipIdx (x := y.1) (i := y.2) (k := 0) hy1
        have b := List.mem_zipIdx (x := z.1) (i := z.2) (k := 0) hz
        have : y.1 = z.1 := by
          have a3 := a.2.2
          have b3 := b.2.2
          simp only [Nat.sub_zero] at a3 b3
          have : y.2 = z.2 := by omega
          rw [a3, b3]; congr 1
        rw [← this]; exact hy2
      · intro h
        exact ⟨z.2, List.mem_map.2 ⟨z, List.mem_filter.2 ⟨hz, h⟩, rfl⟩, rfl⟩
    cases q : touch u z.1 with
    | true => rw [q] at this; rw [touch] at q; rw [q]; simp [this]
    | false => rw [q] at this; rw [touch] at q; rw [q]; simp [this]
  rw [List.filter_congr (key 0)]
  have e1 : ls = ls.zipIdx.map (·.1) := by simp
  conv => rhs; rw [e1, List.filter_map]
  rfl
theorem act_nil (ls : List (Nat × Nat)) : act ls [] = ls := by
  rw [act]
  have : (ls.zipIdx.filter fun z => !decide ((z.2 : Int) ∈ ([] : List Int))) = ls.zipIdx := by
    rw [List.filter_eq_self]; simp
  rw [this]; simp
/-- the neighbours -/
theorem mem_near {n : Nat} {ls : List (Nat × Nat)} (hg : goodL n ls) {u : Nat} {x : Int} : x ∈ near n ls u ↔ ∃ a, Adj ls u a ∧ x = labF (off ls u) a := by
  have e0 := act_off ls u
  rw [act_nil] at e0
  rw [near, List.mem_map]
  constructor
  · rintro ⟨k, hk, rfl⟩
    have hk1 := atNode_lt ls u k hk
    have hf := farEnd_lt n ls u k hg hk1
    refine ⟨farEnd ls u k, ?_, by rw [lab1_eq hg _ hf, e0]⟩
    obtain ⟨z, hz, rfl⟩ := List.mem_map.1 hk
    obtain ⟨hz1, hz2⟩ := List.mem_filter.1 hz
    have b := List.mem_zipIdx (x := z.1) (i := z.2) (k := 0) hz1
    have b3 := b.2.2
    simp only [Nat.sub_zero] at b3
    have hm : z.1 ∈ ls := b3 ▸ List.getElem_mem _
    have e : ls.getD z.2 (0, 0) = z.1 := by simp [hk1, b3]
    simp only [farEnd, e]
    simp only [touch, Bool.or_eq_true, decide_eq_true_eq] at hz2
    by_cases q : z.1.1 = u
    · rw [if_pos q]; exact .inl (by rw [← q]; exact hm)
    · rw [if_neg q]; exact .inr (by rw [← hz2.resolve_left q]; exact hm)
  · rintro ⟨a, ha, rfl⟩
    have : ∃ p ∈ ls, touch u p = true ∧ (if p.1 = u then p.2 else p.1) = a := by
      rcases ha with h | h
      · exact ⟨(u, a), h, by simp [touch], by simp⟩
      · refine ⟨(a, u), h, by simp [touch], ?_⟩
        have := hg _ h
        simp at this ⊢
        intro e; omega
    obtain ⟨p, hp, ht, hpa⟩ := this
    obtain ⟨k, hk, e⟩ := List.getElem_of_mem hp
    have hz : (p, k) ∈ ls.zipIdx := by
      rw [zip_range (0, 0) ls, List.mem_map]
      exact ⟨k, by simpa using hk, by simp [hk, e]⟩
    have hka : k ∈ atNode ls u := List.mem_map.2 ⟨(p, k), List.mem_filter.2 ⟨hz, ht⟩, rfl⟩
    have hfe : farEnd ls u k = a := by
      have : ls.getD k (0, 0) = p := by simp [hk, e]
      simp only [farEnd, this]; exact hpa
    refine ⟨k, hka, ?_⟩
    have hf := farEnd_lt n ls u k hg hk
    rw [lab1_eq hg _ hf, e0, hfe]
theorem isCut_iff {n : Nat} {ls : List (Nat × Nat)} (hg : goodL n ls) (u : Nat) : isCut n ls u = true ↔ ∃ a b, Adj ls u a ∧ Adj ls u b ∧ ¬ Con (off ls u) a b := by
  rw [isCut, List.any_eq_true]
  constructor
  · rintro ⟨x, hx, hne⟩
    have hh : (near n ls u).headD 0 ∈ near n ls u := by
      cases e : near n ls u with
      | nil => rw [e] at hx; simp at hx
      | cons y ys => simp
    obtain ⟨a, ha, ea⟩ := (mem_near hg).1 hx
    obtain ⟨b, hb, eb⟩ := (mem_near hg).1 hh
    refine ⟨a, b, ha, hb, fun hc => ?_⟩
    rw [← (lab_ok _).1] at hc
    rw [ea, eb, hc] at hne
    simp at hne
  · rintro ⟨a, b, ha, hb, hc⟩
    rw [← (lab_ok _).1] at hc
    have h1 : (labF (off ls u) a : Int) ∈ near n ls u := (mem_near hg).2 ⟨a, ha, rfl⟩
    have h2 : (labF (off ls u) b : Int) ∈ near n ls u := (mem_near hg).2 ⟨b, hb, rfl⟩
    by_cases q : (labF (off ls u) a : Int) = (near n ls u).headD 0
    · exact ⟨_, h2, by rw [← q]; simp; omega⟩
    · exact ⟨_, h1, by simpa using q⟩
/-- the others that hold together with a node -/
def rest (n : Nat) (ls : List (Nat × Nat)) (u : Nat) : List Nat := (rch n ls [] [] u).filter fun w => decide (w ≠ u)
theorem cut_law {n : Nat} {ls : List (Nat × Nat)} (hg : goodL n ls) {u : Nat} (hu : u < n) :
    isCut n ls u = !decide (((rest n ls u).tail.filter fun w => !decide (w ∈ rch n ls [] [u] ((rest n ls u).headD 0))) = []) := by
  have hm : ∀ w, w ∈ rest n ls u ↔ Con ls u w ∧ w ≠ u := by
    intro w
    rw [rest, List.mem_filter, mem_rch hg hu, rch_con, act_nil]; simp
  have hlt : ∀ w, w ∈ rest n ls u → w < n := fun w hw => rch_lt (List.mem_filter.1 hw).1
  cases e : rest n ls u with
  | nil =>
    have : ¬ isCut n ls u = true := by
      rw [isCut_iff hg]
      rintro ⟨a, b, ha, hb, hc⟩
      have hau : a ≠ u := by
        rintro rfl
        rcases ha with h | h <;> (have := hg _ h; simp at this)
      have := (hm a).2 ⟨.one ha, hau⟩
      rw [e] at this; simp at this
    simpa using this
  | cons r rs =>
    have hr : r ∈ rest n ls u := by rw [e]; simp
    have hrn := hlt r hr
    obtain ⟨hr1, hr2⟩ := (hm r).1 hr
    have hmem : ∀ w, w ∈ rch n ls [] [u] r ↔ Con (off ls u) r w := by
      intro w; rw [mem_rch hg hrn, rch_off hr2, act_nil]
    rw [Bool.eq_iff_iff, isCut_iff hg]
    rw [List.tail_cons, List.headD_cons, Bool.not_eq_true', decide_eq_false_iff_not]
    constructor
    · rintro ⟨a, b, ha, hb, hc⟩ hn
      have hall : ∀ w ∈ rest n ls u, Con (off ls u) r w := by
        intro w hw
        rw [e] at hw
        rcases List.mem_cons.1 hw with rfl | hw
        · exact .refl
        · have := List.filter_eq_nil_iff.1 hn w hw
          rw [← hmem]; simpa using this
      have hne : ∀ a, Adj ls u a → a ≠ u := by
        rintro a ha rfl
        rcases ha with h | h <;> (have := hg _ h; simp at this)
      have h1 := hall a ((hm a).2 ⟨.one ha, hne a ha⟩)
      have h2 := hall b ((hm b).2 ⟨.one hb, hne b hb⟩)
      exact hc (h1.symm.trans h2)
    · intro hn
      obtain ⟨w, hw⟩ := List.exists_mem_of_ne_nil _ hn
      obtain ⟨hw1, hw2⟩ := List.mem_filter.1 hw
      have hwr : w ∈ rest n ls u := by rw [e]; simp [hw1]
      obtain ⟨hw3, hw4⟩ := (hm w).1 hwr
      have hw5 : ¬ Con (off ls u) r w := by rw [← hmem]; simpa using hw2
      obtain ⟨a, ha, _, ha2⟩ := con_near hr1 hr2
      obtain ⟨b, hb, _, hb2⟩ := con_near hw3 hw4
      exact ⟨a, b, ha, hb, fun hc => hw5 (ha2.symm.trans (hc.trans hb2))⟩
end M
end
section
set_option linter.all false
set_option maxRecDepth 100000
/-! Ways, rings, and lines that lie on common rings. -/
namespace M
section
variable (ls : List (Nat × Nat))
def en (k : Nat) : Nat × Nat := ls.getD k (0, 0)
def at_ (u k : Nat) : Prop := (en ls k).1 = u ∨ (en ls k).2 = u
instance (u k : Nat) : Decidable (at_ ls u k) := inferInstanceAs (Decidable (_ ∨ _))
def far (u k : Nat) : Nat := if (en ls k).1 = u then (en ls k).2 else (en ls k).1
/-- the nodes along some lines -/
def along (u : Nat) : List Nat → Option (List Nat)
  | [] => some [u]
  | k :: ks => if at_ ls u k then (along (far ls u k) ks).map (u :: ·) else none
end
variable {n : Nat} {ls : List (Nat × Nat)}
theorem en_good (hg : goodL n ls) {k : Nat} (hk : k < ls.length) : (en ls k).1 < (en ls k).2 ∧ (en ls k).2 < n := by
  have := hg ls[k] (List.getElem_mem _)
  simpa [en, hk] using this
theorem far_at {u k : Nat} (h : at_ ls u k) : at_ ls (far ls u k) k := by
  simp only [at_, far] at *
  by_cases q : (en ls k).1 = u
  · rw [if_pos q]; exact .inr rfl
  · rw [if_neg q]; exact .inl rfl
theorem far_far {u k : Nat} (h : at_ ls u k) : far ls (far ls u k) k = u := by
  have key : ∀ a b : Nat, (a = u ∨ b = u) → ∀ w, w = (if a = u then b else a) → (if a = w then b else a) = u := by
    intro a b h w hw
    split at hw <;> split <;> omega
  exact key _ _ h _ rfl
theorem far_ne (hg : goodL n ls) {u k : Nat} (hk : k < ls.length) : far ls u k ≠ u := by
  have := en_good hg hk
  simp only [far]; split <;> omega
theorem far_lt (hg : goodL n ls) {u k : Nat} (hk : k < ls.length) : far ls u k < n := by
  have := en_good hg hk
  simp only [far]; split <;> omega
theorem at_lt (hg : goodL n ls) {u k : Nat} (hk : k < ls.length) (h : at_ ls u k) : u < n := by
  have := en_good hg hk
  simp only [at_] at h; omega
theorem at_two {u w k : Nat} (h : at_ ls u k) (h2 : at_ ls w k) (hne : u ≠ w) : far ls u k = w := by
  simp only [at_, far] at *
  split <;> omega
theorem along_nil {u : Nat} : along ls u [] = some [u] := rfl
theorem along_cons {u k : Nat} {ks vs : List Nat} : along ls u (k :: ks) = some vs ↔ at_ ls u k ∧ ∃ ws, along ls (far ls u k) ks = some ws ∧ vs = u :: ws := by
  rw [along]
  by_cases q : at_ ls u k
  · rw [if_pos q]
    simp only [q, true_and, Option.map_eq_some_iff]
    constructor
    · rintro ⟨ws, h, rfl⟩; exact ⟨ws, h, rfl⟩
    · rintro ⟨ws, h, rfl⟩; exact ⟨ws, h, rfl⟩
  · rw [if_neg q]; simp [q]
theorem along_head {u : Nat} {ks vs : List Nat} (h : along ls u ks = some vs) : ∃ ws, vs = u :: ws := by
  cases ks with
  | nil => cases h; exact ⟨_, rfl⟩
  | cons k ks => obtain ⟨_, ws, _, rfl⟩ := along_cons.1 h; exact ⟨ws, rfl⟩
theorem along_len {u : Nat} {ks vs : List Nat} (h : along ls u ks = some vs) : vs.length = ks.length + 1 := by
  induction ks generalizing u vs with
  | nil => cases h; rfl
  | cons k ks ih => obtain ⟨_, ws, h2, rfl⟩ := along_cons.1 h; simp [ih h2]
theorem along_snoc {u k w : Nat} {ks vs : List Nat} (h : along ls u ks = some vs) (hl : vs.getLast? = some w) (ha : at_ ls w k) : along ls u (ks ++ [k]) = some (vs ++ [far ls w k]) := by
  induction ks generalizing u vs with
  | nil =>
    cases h
    simp at hl; subst hl
    rw [List.nil_append, along, if_pos ha]; rfl
  | cons j ks ih =>
    obtain ⟨h1, ws, h2, rfl⟩ := along_cons.1 h
    have hl2 : ws.getLast? = some w := by
      obtain ⟨z, rfl⟩ := along_head h2
      simpa [List.getLast?_cons_cons] using hl
    rw [List.cons_append, along, if_pos h1, ih h2 hl2]; rfl
theorem along_rev {u w : Nat} {ks vs : List Nat} (h : along ls u ks = some vs) (hl : vs.getLast? = some w) : along ls w ks.reverse = some vs.reverse := by
  induction ks generalizing u vs with
  | nil => cases h; simp at hl; subst hl; rfl
  | cons k ks ih =>
    obtain ⟨h1, ws, h2, rfl⟩ := along_cons.1 h
    obtain ⟨z, rfl⟩ := along_head h2
    have hl2 : (far ls u k :: z).getLast? = some w := by simpa [List.getLast?_cons_cons] using hl
    have r := ih h2 hl2
    have := along_snoc (k := k) (w := far ls u k) r (by simp) (far_at h1)
    rw [far_far h1] at this
    simpa using this
theorem along_ends {u k : Nat} {ks vs : List Nat} (h : along ls u ks = some vs) (hk : k ∈ ks) : ∀ w, at_ ls w k → w ∈ vs := by
  induction ks generalizing u vs with
  | nil => simp at hk
  | cons j ks ih =>
    obtain ⟨h1, ws, h2, rfl⟩ := along_cons.1 h
    intro w hw
    rcases List.mem_cons.1 hk with rfl | hk
    · by_cases q : u = w
      · subst q; simp
      · have := at_two h1 hw q
        obtain ⟨z, rfl⟩ := along_head h2
        rw [← this]; simp
    · exact List.mem_cons_of_mem _ (ih h2 hk w hw)
theorem along_nodup {u : Nat} {ks vs : List Nat} (h : along ls u ks = some vs) (hv : vs.Nodup) : ks.Nodup := by
  induction ks generalizing u vs with
  | nil => simp
  | cons k ks ih =>
    obtain ⟨h1, ws, h2, rfl⟩ := along_cons.1 h
    obtain ⟨h3, h4⟩ := List.nodup_cons.1 hv
    exact List.nodup_cons.2 ⟨fun hk => h3 (along_ends h2 hk u h1), ih h2 h4⟩
/-- some lines as edges -/
def sub (ls : List (Nat × Nat)) (p : Nat → Bool) : Edges := ((List.range ls.length).filter p).map (en ls)
theorem mem_sub {p : Nat → Bool} {e : Nat × Nat} : e ∈ sub ls p ↔ ∃ k, k < ls.length ∧ p k = true ∧ en ls k = e := by
  simp [sub, and_assoc]
theorem adj_sub {p : Nat → Bool} {a b : Nat} : Adj (sub ls p) a b → ∃ k, k < ls.length ∧ p k = true ∧ at_ ls a k ∧ far ls a k = b := by
  rintro (h | h)
  · obtain ⟨k, h1, h2, h3⟩ := mem_sub.1 h
    exact ⟨k, h1, h2, by simp [at_, h3], by simp [far, h3]⟩
  · obtain ⟨k, h1, h2, h3⟩ := mem_sub.1 h
    refine ⟨k, h1, h2, by simp [at_, h3], ?_⟩
    simp only [far, h3]; split <;> simp_all
theorem sub_adj {p : Nat → Bool} {a k : Nat} (h1 : k < ls.length) (h2 : p k = true) (h3 : at_ ls a k) : Adj (sub ls p) a (far ls a k) := by
  have hm : en ls k ∈ sub ls p := mem_sub.2 ⟨k, h1, h2, rfl⟩
  simp only [at_, far] at *
  by_cases q : (en ls k).1 = a
  · rw [if_pos q]; left; rw [← q]; exact hm
  · rw [if_neg q]; right
    have : (en ls k).2 = a := h3.resolve_left q
    rw [← this]; exact hm
/-- a way up to one of its nodes -/
theorem along_cut {u c : Nat} {ks vs : List Nat} (h : along ls u ks = some vs) (hc : c ∈ vs) : ∃ js ws, along ls u js = some ws ∧ ws.getLast? = some c ∧ ws <+: vs ∧ ∀ k ∈ js, k ∈ ks := by
  induction ks generalizing u vs with
  | nil =>
    cases h
    have := List.mem_singleton.1 hc; subst this
    exact ⟨[], [c], rfl, rfl, List.prefix_refl _, by simp⟩
  | cons k ks ih =>
    obtain ⟨h1, ws, h2, rfl⟩ := along_cons.1 h
    rcases List.mem_cons.1 hc with rfl | hc
    · exact ⟨[], [c], rfl, rfl, ⟨ws, rfl⟩, by simp⟩
    · obtain ⟨js, xs, e1, e2, e3, e4⟩ := ih h2 hc
      refine ⟨k :: js, u :: xs, along_cons.2 ⟨h1, xs, e1, rfl⟩, ?_, ?_, ?_⟩
      · obtain ⟨z, rfl⟩ := along_head e1
        simpa [List.getLast?_cons_cons] using e2
      · obtain ⟨t, rfl⟩ := e3; exact ⟨t, rfl⟩
      · intro j hj
        rcases List.mem_cons.1 hj with rfl | hj
        · simp
        · exact List.mem_cons_of_mem _ (e4 j hj)
/-- who holds together is on a way that comes to no node twice -/
theorem con_way {p : Nat → Bool} {a b : Nat} (h : Con (sub ls p) a b) : ∃ ks vs, along ls a ks = some vs ∧ vs.getLast? = some b ∧ vs.Nodup ∧ ∀ k ∈ ks, k < ls.length ∧ p k = true := by
  induction h with
  | refl => exact ⟨[], [a], rfl, rfl, by simp, by simp⟩
  | @tail b c _ e ih =>
    obtain ⟨ks, vs, h1, h2, h3, h4⟩ := ih
    by_cases q : c ∈ vs
    · obtain ⟨js, ws, e1, e2, e3, e4⟩ := along_cut h1 q
      exact ⟨js, ws, e1, e2, e3.sublist.nodup h3, fun k hk => h4 k (e4 k hk)⟩
    · obtain ⟨k, k1, k2, k3, k4⟩ := adj_sub e
      refine ⟨ks ++ [k], vs ++ [c], ?_, by simp, ?_, ?_⟩
      · rw [← k4]; exact along_snoc h1 h2 k3
      · exact List.nodup_append.2 ⟨h3, by simp, by intro x hx y hy; simp at hy; subst hy; rintro rfl; exact q hx⟩
      · intro j hj
        rcases List.mem_append.1 hj with hj | hj
        · exact h4 j hj
        · rw [List.mem_singleton.1 hj]; exact ⟨k1, k2⟩
/-- a way holds together -/
theorem way_con {p : Nat → Bool} {u : Nat} {ks vs : List Nat} (h : along ls u ks = some vs) (hp : ∀ k ∈ ks, k < ls.length ∧ p k = true) : ∀ w ∈ vs, Con (sub ls p) u w := by
  induction ks generalizing u vs with
  | nil => cases h; intro w hw; rw [List.mem_singleton.1 hw]; exact .refl
  | cons k ks ih =>
    obtain ⟨h1, ws, h2, rfl⟩ := along_cons.1 h
    intro w hw
    rcases List.mem_cons.1 hw with rfl | hw
    · exact .refl
    · have := hp k (by simp)
      exact (Con.one (sub_adj this.1 this.2 h1)).trans (ih h2 (fun j hj => hp j (by simp [hj])) w hw)
/-- not at a node -/
def notAt (ls : List (Nat × Nat)) (u k : Nat) : Bool := !decide (at_ ls u k)
theorem notAt_iff {u k : Nat} : notAt ls u k = true ↔ (en ls k).1 ≠ u ∧ (en ls k).2 ≠ u := by
  have : notAt ls u k = true ↔ ¬ at_ ls u k := by simp [notAt]
  rw [this, at_, not_or]
theorem notAt_not {u k : Nat} : notAt ls u k = true ↔ ¬ at_ ls u k := by simp [notAt]
theorem sub_all (p : Nat → Bool) : ∀ e ∈ sub ls p, e ∈ ls := by
  intro e he
  obtain ⟨k, h1, _, h3⟩ := mem_sub.1 he
  rw [← h3]; simp [en, h1]
theorem con_off_sub {u a b : Nat} : Con (sub ls (notAt ls u)) a b ↔ Con (off ls u) a b := by
  have e : ∀ x, x ∈ sub ls (notAt ls u) ↔ x ∈ off ls u := by
    intro x
    rw [mem_sub, mem_off]
    constructor
    · rintro ⟨k, h1, h2, rfl⟩
      exact ⟨by simp [en, h1], notAt_iff.1 h2⟩
    · rintro ⟨h1, h2, h3⟩
      obtain ⟨k, hk, rfl⟩ := List.getElem_of_mem h1
      exact ⟨k, hk, notAt_iff.2 ⟨by simpa [en, hk] using h2, by simpa [en, hk] using h3⟩, by simp [en, hk]⟩
  constructor
  · exact Con.mono fun x hx => (e x).1 hx
  · exact Con.mono fun x hx => (e x).2 hx
theorem con_off_ne {es : Edges} {u a b : Nat} (h : Con (off es u) a b) (ha : a ≠ u) : b ≠ u := by
  induction h with
  | refl => exact ha
  | tail _ e _ => exact (adj_off.1 e).2.2
/-! ### rings -/
/-- a line from x to y, and another way there -/
structure Cyc (ls : List (Nat × Nat)) (x y k : Nat) (ws vs : List Nat) : Prop where
  lt : k < ls.length
  at1 : at_ ls x k
  to : far ls x k = y
  way : along ls x ws = some vs
  last : vs.getLast? = some y
  nodup : vs.Nodup
  lts : ∀ j ∈ ws, j < ls.length
  notin : k ∉ ws
/-- the lines e and f at u, whose other ends hold together without u -/
def Pair (ls : List (Nat × Nat)) (e f : Nat) : Prop := e < ls.length ∧ f < ls.length ∧ ∃ u, at_ ls u e ∧ at_ ls u f ∧ Con (off ls u) (far ls u e) (far ls u f)
theorem Cyc.first {x y k f : Nat} {ws vs : List Nat} (c : Cyc ls x y k (f :: ws) vs) : Pair ls k f := by
  obtain ⟨h1, zs, h2, h3⟩ := along_cons.1 c.way
  refine ⟨c.lt, c.lts f (by simp), x, c.at1, h1, ?_⟩
  have hnd := c.nodup
  rw [h3] at hnd
  obtain ⟨hx, _⟩ := List.nodup_cons.1 hnd
  have hcon := way_con (p := notAt ls x) h2 (fun j hj => ⟨c.lts j (by simp [hj]), by
    rw [notAt_not]
    intro q; exact hx (along_ends h2 hj x q)⟩)
  have hy : y ∈ zs := by
    have := c.last
    rw [h3] at this
    obtain ⟨z, rfl⟩ := along_head h2
    rw [List.getLast?_cons_cons] at this
    exact List.mem_of_getLast? this
  rw [c.to]
  exact (con_off_sub.1 (hcon y hy)).symm
theorem Cyc.turn {x y k f : Nat} {ws vs : List Nat} (c : Cyc ls x y k (f :: ws) vs) : ∃ zs, vs = x :: zs ∧ Cyc ls (far ls x f) x f (ws ++ [k]) (zs ++ [x]) := by
  obtain ⟨h1, zs, h2, h3⟩ := along_cons.1 c.way
  refine ⟨zs, h3, ?_⟩
  have hnd := c.nodup
  rw [h3] at hnd
  obtain ⟨hx, hz⟩ := List.nodup_cons.1 hnd
  have hl : zs.getLast? = some y := by
    have := c.last
    rw [h3] at this
    obtain ⟨z, rfl⟩ := along_head h2
    simpa [List.getLast?_cons_cons] using this
  have hws := along_nodup c.way c.nodup
  have hky : at_ ls y k := by rw [← c.to]; exact far_at c.at1
  have hfy : far ls y k = x := by rw [← c.to]; exact far_far c.at1
  refine ⟨c.lts f (by simp), far_at h1, far_far h1, ?_, by simp, ?_, ?_, ?_⟩
  · have := along_snoc h2 hl hky
    rwa [hfy] at this
  · exact List.nodup_append.2 ⟨hz, by simp, by intro a ha b hb; simp at hb; subst hb; rintro rfl; exact hx ha⟩
  · intro j hj
    rcases List.mem_append.1 hj with hj | hj
    · exact c.lts j (by simp [hj])
    · rw [List.mem_singleton.1 hj]; exact c.lt
  · intro hf
    rcases List.mem_append.1 hf with hf | hf
    · exact (List.nodup_cons.1 hws).1 hf
    · have := List.mem_singleton.1 hf
      exact c.notin (by simp [this])
/-- all lines of a ring are one class -/
theorem Cyc.all {P : Nat → Nat → Prop} (hp : ∀ a b, Pair ls a b → P a b) (ht : ∀ a b c, P a b → P b c → P a c) (i : Nat) : ∀ {x y k : Nat} {ws vs : List Nat}, Cyc ls x y k ws vs → ∀ j, ws[i]? = some j → P k j := by
  induction i with
  | zero =>
    intro x y k ws vs c j hj
    cases ws with
    | nil => simp at hj
    | cons f ws => simp at hj; subst hj; exact hp _ _ c.first
  | succ i ih =>
    intro x y k ws vs c j hj
    cases ws with
    | nil => simp at hj
    | cons f ws =>
      simp at hj
      obtain ⟨zs, _, c2⟩ := c.turn
      have hi : i < ws.length := (List.getElem?_eq_some_iff.1 hj).1
      have := ih c2 j (by rw [List.getElem?_append_left hi]; exact hj)
      exact ht _ _ _ (hp _ _ c.first) this
/-- two such lines are on a ring -/
theorem pair_cyc (hg : goodL n ls) {e f u : Nat} (he : e < ls.length) (hf : f < ls.length) (h1 : at_ ls u e) (h2 : at_ ls u f) (hc : Con (off ls u) (far ls u e) (far ls u f)) (hne : e ≠ f) :
    ∃ ws vs, Cyc ls u (far ls u e) e (f :: ws) vs := by
  obtain ⟨ks, vs, k1, k2, k3, k4⟩ := con_way (con_off_sub.2 hc.symm)
  refine ⟨ks, u :: vs, he, h1, rfl, along_cons.2 ⟨h2, vs, k1, rfl⟩, ?_, ?_, ?_, ?_⟩
  · obtain ⟨z, rfl⟩ := along_head k1
    simpa [List.getLast?_cons_cons] using k2
  · refine List.nodup_cons.2 ⟨fun hu => ?_, k3⟩
    have := way_con k1 k4 u hu
    rw [con_off_sub] at this
    exact con_off_ne this (far_ne hg hf) rfl
  · intro j hj
    rcases List.mem_cons.1 hj with rfl | hj
    · exact hf
    · exact (k4 j hj).1
  · intro hj
    rcases List.mem_cons.1 hj with hj | hj
    · exact hne hj
    · have := (k4 e hj).2
      exact notAt_not.1 this h1
theorem Cyc.rev {x y k : Nat} {ws vs : List Nat} (c : Cyc ls x y k ws vs) : Cyc ls y x k ws.reverse vs.reverse := by
  obtain ⟨z, hz⟩ := along_head c.way
  refine ⟨c.lt, ?_, ?_, along_rev c.way c.last, ?_, ?_, ?_, ?_⟩
  · rw [← c.to]; exact far_at c.at1
  · rw [← c.to]; exact far_far c.at1
  · rw [hz]; simp
  · exact List.pairwise_reverse.2 (c.nodup.imp Ne.symm)
  · intro j hj; exact c.lts j (List.mem_reverse.1 hj)
  · intro h; exact c.notin (List.mem_reverse.1 h)
end M
end
section
set_option linter.all false
set_option maxRecDepth 100000
namespace M
variable {n : Nat} {ls : List (Nat × Nat)}
/-! ### all ways -/
def lastN (row : List Nat) : Nat := row.getLast?.getD 0
def waysF (ls : List (Nat × Nat)) (goal : Nat) : Nat → List Nat → List Nat → List (List Nat)
  | 0, _, _ => []
  | m + 1, row, lines => if lastN row = goal then [lines] else
      (List.range ls.length).flatMap fun k => if at_ ls (lastN row) k ∧ far ls (lastN row) k ∉ row then waysF ls goal m (row ++ [far ls (lastN row) k]) (lines ++ [k]) else []
theorem lastN_snoc (pre : List Nat) (u : Nat) : lastN (pre ++ [u]) = u := by simp [lastN]
theorem mem_ways (hg : goodL n ls) (goal : Nat) (m : Nat) : ∀ (pre : List Nat) (u : Nat) (lines ks : List Nat), (pre ++ [u]).Nodup → (∀ w ∈ pre ++ [u], w < n) → n ≤ m + pre.length →
    (ks ∈ waysF ls goal m (pre ++ [u]) lines ↔ ∃ js vs, ks = lines ++ js ∧ along ls u js = some vs ∧ vs.getLast? = some goal ∧ (pre ++ vs).Nodup ∧ ∀ j ∈ js, j < ls.length) := by
  induction m with
  | zero =>
    intro pre u lines ks hnd hlt hm
    have := nodup_bound hnd hlt
    simp at this
    omega
  | succ m ih =>
    intro pre u lines ks hnd hlt hm
    rw [waysF, lastN_snoc]
    by_cases q : u = goal
    · rw [if_pos q, List.mem_singleton]
      constructor
      · rintro rfl
        exact ⟨[], [u], by simp, rfl, by simp [q], hnd, by simp⟩
      · rintro ⟨js, vs, rfl, h2, h3, h4, _⟩
        cases js with
        | nil => simp
        | cons k js =>
          obtain ⟨_, ws, e1, rfl⟩ := along_cons.1 h2
          obtain ⟨z, rfl⟩ := along_head e1
          rw [List.getLast?_cons_cons] at h3
          have h5 := List.mem_of_getLast? h3
          have h6 := (List.nodup_append.1 h4).2.1
          exact absurd (q ▸ h5) (List.nodup_cons.1 h6).1
    · rw [if_neg q, List.mem_flatMap]
      constructor
      · rintro ⟨k, hk, hks⟩
        have hk := List.mem_range.1 hk
        by_cases q2 : at_ ls u k ∧ far ls u k ∉ pre ++ [u]
        · rw [if_pos q2] at hks
          have hnd2 : (pre ++ [u] ++ [far ls u k]).Nodup := List.nodup_append.2 ⟨hnd, by simp, by intro a ha b hb; simp at hb; subst hb; rintro rfl; exact q2.2 ha⟩
          have := (ih (pre ++ [u]) (far ls u k) (lines ++ [k]) ks hnd2 (by
            intro w hw
            rcases List.mem_append.1 hw with hw | hw
            · exact hlt w hw
            · rw [List.mem_singleton.1 hw]; exact far_lt hg hk) (by simp; omega)).1 hks
          obtain ⟨js, vs, rfl, h2, h3, h4, h5⟩ := this
          obtain ⟨z, rfl⟩ := along_head h2
          refine ⟨k :: js, u :: far ls u k :: z, by simp, along_cons.2 ⟨q2.1, _, h2, rfl⟩, by simpa [List.getLast?_cons_cons] using h3, by simpa using h4, ?_⟩
          intro j hj
          rcases List.mem_cons.1 hj with rfl | hj
          · exact hk
          · exact h5 j hj
        · rw [if_neg q2] at hks; simp at hks
      · rintro ⟨js, vs, rfl, h2, h3, h4, h5⟩
        cases js with
        | nil =>
          cases h2
          simp at h3
          exact absurd h3 q
        | cons k js =>
          obtain ⟨e0, ws, e1, rfl⟩ := along_cons.1 h2
          obtain ⟨z, rfl⟩ := along_head e1
          have hk := h5 k (by simp)
          have hnin : far ls u k ∉ pre ++ [u] := by
            intro hmem
            have h6 : ((pre ++ [u]) ++ (far ls u k :: z)).Nodup := by simpa using h4
            exact (List.nodup_append.1 h6).2.2 _ hmem _ (by simp) rfl
          refine ⟨k, List.mem_range.2 hk, ?_⟩
          rw [if_pos ⟨e0, hnin⟩]
          have hnd2 : (pre ++ [u] ++ [far ls u k]).Nodup := List.nodup_append.2 ⟨hnd, by simp, by intro a ha b hb; simp at hb; subst hb; rintro rfl; exact hnin ha⟩
          refine (ih (pre ++ [u]) (far ls u k) (lines ++ [k]) _ hnd2 (by
            intro w hw
            rcases List.mem_append.1 hw with hw | hw
            · exact hlt w hw
            · rw [List.mem_singleton.1 hw]; exact far_lt hg hk) (by simp; omega)).2 ⟨js, _, by simp, e1, by simpa [List.getLast?_cons_cons] using h3, by simpa using h4, fun j hj => h5 j (by simp [hj])⟩
/-! ### all rings -/
def ringsF (n : Nat) (ls : List (Nat × Nat)) : List (List Nat) := (List.range ls.length).flatMap fun k =>
  ((waysF ls (en ls k).2 n [(en ls k).1] []).filter fun way => !decide (k ∈ way)).map fun way => k :: way.reverse
theorem mem_rings (hg : goodL n ls) {r : List Nat} : r ∈ ringsF n ls ↔ ∃ k ws vs, r = k :: ws.reverse ∧ Cyc ls (en ls k).1 (en ls k).2 k ws vs := by
  rw [ringsF, List.mem_flatMap]
  constructor
  · rintro ⟨k, hk, hr⟩
    have hk := List.mem_range.1 hk
    have hgk := en_good hg hk
    obtain ⟨ws, hw, rfl⟩ := List.mem_map.1 hr
    obtain ⟨h1, h2⟩ := List.mem_filter.1 hw
    obtain ⟨js, vs, e0, h3, h4, h5, h6⟩ := (mem_ways hg (en ls k).2 n [] (en ls k).1 [] _ (by simp) (by simp; omega) (by simp)).1 h1
    have e0 : ws = js := by simpa using e0
    subst e0
    refine ⟨k, ws, vs, rfl, hk, .inl rfl, by simp [far], h3, h4, by simpa using h5, h6, by simpa using h2⟩
  · rintro ⟨k, ws, vs, rfl, c⟩
    have hgk := en_good hg c.lt
    refine ⟨k, List.mem_range.2 c.lt, List.mem_map.2 ⟨ws, List.mem_filter.2 ⟨?_, by simp [c.notin]⟩, rfl⟩⟩
    exact (mem_ways hg (en ls k).2 n [] (en ls k).1 [] _ (by simp) (by simp; omega) (by simp)).2 ⟨ws, vs, rfl, c.way, c.last, by simpa using c.nodup, c.lts⟩
/-- is it a ring? -/
def ringAt (ls : List (Nat × Nat)) (ks : List Nat) (f : Nat) : Bool := match along ls f ks with
  | some vs => decide (vs.getLast? = some f) && decide (vs.dropLast.Nodup)
  | none => false
def ringB (ls : List (Nat × Nat)) (ks : List Nat) : Bool := decide (2 ≤ ks.length) && (ks.all fun k => decide (k < ls.length)) && decide ks.Nodup &&
  (ringAt ls ks (en ls (ks.headD 0)).1 || ringAt ls ks (en ls (ks.headD 0)).2)
theorem rings_ok (hg : goodL n ls) {r : List Nat} (h : r ∈ ringsF n ls) : ringB ls r = true := by
  obtain ⟨k, ws, vs, rfl, c⟩ := (mem_rings hg).1 h
  have hgk := en_good hg c.lt
  have hne : ws ≠ [] := by
    rintro rfl
    have := c.way; cases this
    have := c.last; simp at this; omega
  have h1 : 2 ≤ (k :: ws.reverse).length := by
    cases ws with
    | nil => exact absurd rfl hne
    | cons a b => simp
  have h2 : ((k :: ws.reverse).all fun j => decide (j < ls.length)) = true := by
    rw [List.all_eq_true]
    intro j hj
    rcases List.mem_cons.1 hj with rfl | hj
    · exact decide_eq_true c.lt
    · exact decide_eq_true (c.lts j (List.mem_reverse.1 hj))
  have h3 : (k :: ws.reverse).Nodup := List.nodup_cons.2 ⟨fun hk => c.notin (List.mem_reverse.1 hk), List.pairwise_reverse.2 ((along_nodup c.way c.nodup).imp Ne.symm)⟩
  have h4 : ringAt ls (k :: ws.reverse) (en ls k).1 = true := by
    have e := along_rev c.way c.last
    have : along ls (en ls k).1 (k :: ws.reverse) = some ((en ls k).1 :: vs.reverse) := along_cons.2 ⟨c.at1, vs.reverse, by rw [c.to]; exact e, rfl⟩
    obtain ⟨z, hz⟩ := along_head c.way
    have hnd := c.nodup
    rw [hz] at hnd
    have hnd2 := List.nodup_cons.1 hnd
    rw [ringAt, this]
    have h5 : ((en ls k).1 :: vs.reverse).getLast? = some (en ls k).1 := by rw [hz, List.reverse_cons, ← List.cons_append, List.getLast?_concat]
    have h6 : ((en ls k).1 :: vs.reverse).dropLast.Nodup := by
      rw [hz, List.reverse_cons]
      have : ((en ls k).1 :: (z.reverse ++ [(en ls k).1])).dropLast = (en ls k).1 :: z.reverse := by
        rw [← List.cons_append, List.dropLast_concat]
      rw [this]
      exact List.nodup_cons.2 ⟨fun h => hnd2.1 (List.mem_reverse.1 h), List.pairwise_reverse.2 (hnd2.2.imp Ne.symm)⟩
    simp [h5, h6]
  simp only [ringB, decide_eq_true h1, h2, decide_eq_true h3, List.headD_cons, h4, Bool.and_self, Bool.true_or]
/-! ### classes of lines -/
theorem con_le {es fs : Edges} (h : ∀ p ∈ es, Con fs p.1 p.2) {a b : Nat} (hc : Con es a b) : Con fs a b := by
  induction hc with
  | refl => exact .refl
  | tail _ e ih =>
    rcases e with e | e
    · exact ih.trans (h _ e)
    · exact ih.trans (h _ e).symm
def ringPairs (rgs : List (List Nat)) : Edges := rgs.flatMap fun r => r.tail.map fun j => (r.headD 0, j)
theorem ring_con {rgs : List (List Nat)} {r : List Nat} (hr : r ∈ rgs) {a b : Nat} (ha : a ∈ r) (hb : b ∈ r) : Con (ringPairs rgs) a b := by
  have key : ∀ c ∈ r, Con (ringPairs rgs) (r.headD 0) c := by
    intro c hc
    cases r with
    | nil => simp at hc
    | cons k t =>
      rcases List.mem_cons.1 hc with rfl | hc
      · exact .refl
      · exact .one (.inl (List.mem_flatMap.2 ⟨_, hr, List.mem_map.2 ⟨c, hc, rfl⟩⟩))
  exact (key a ha).symm.trans (key b hb)
theorem class_eq (hg : goodL n ls) {PB : Edges} (hPB : ∀ e f, (e, f) ∈ PB ↔ Pair ls e f) {a b : Nat} : Con PB a b ↔ Con (ringPairs (ringsF n ls)) a b := by
  constructor
  · refine con_le fun p hp => ?_
    obtain ⟨e, f⟩ := p
    obtain ⟨he, hf, u, h1, h2, hc⟩ := (hPB e f).1 hp
    by_cases q : e = f
    · subst q; exact .refl
    · obtain ⟨ws, vs, c⟩ := pair_cyc hg he hf h1 h2 hc q
      by_cases q2 : (en ls e).1 = u
      · have hfar : far ls u e = (en ls e).2 := by simp [far, q2]
        rw [hfar, ← q2] at c
        exact ring_con ((mem_rings hg).2 ⟨e, _, _, rfl, c⟩) (by simp) (by simp)
      · have hfar : far ls u e = (en ls e).1 := by simp [far, q2]
        have h3 : (en ls e).2 = u := h1.resolve_left q2
        have c2 := c.rev
        rw [hfar, ← h3] at c2
        exact ring_con ((mem_rings hg).2 ⟨e, _, _, rfl, c2⟩) (by simp) (by simp)
  · refine con_le fun p hp => ?_
    obtain ⟨r, hr, hp⟩ := List.mem_flatMap.1 hp
    obtain ⟨j, hj, rfl⟩ := List.mem_map.1 hp
    obtain ⟨k, ws, vs, rfl, c⟩ := (mem_rings hg).1 hr
    simp only [List.tail_cons, List.headD_cons] at hj ⊢
    obtain ⟨i, hi, e⟩ := List.getElem_of_mem (List.mem_reverse.1 hj)
    exact Cyc.all (P := Con PB) (fun a b h => .one (.inl ((hPB a b).2 h))) (fun _ _ _ x y => x.trans y) i c j (by rw [List.getElem?_eq_getElem hi, e])
/-- two least members of alike classes are one -/
theorem lab_eq {es fs : Edges} (h : ∀ a b, Con es a b ↔ Con fs a b) (a : Nat) : labF es a = labF fs a := by
  obtain ⟨e1, e2, e3⟩ := lab_ok es
  obtain ⟨f1, f2, f3⟩ := lab_ok fs
  have x : labF fs (labF es a) = labF fs a := (f1 _ _).2 ((h _ _).1 ((e1 _ _).1 (e3 a)))
  have y : labF es (labF fs a) = labF es a := (e1 _ _).2 ((h _ _).2 ((f1 _ _).1 (f3 a)))
  have := f2 (labF es a)
  have := e2 (labF fs a)
  omega
/-! ### the law's marks -/
def leastOf (mk : Nat → Nat) (r : List Nat) : Nat := (r.map mk).min?.getD 0
def markStep (mk : Nat → Nat) (r : List Nat) (a : Nat) : Nat := if a ∈ r then leastOf mk r else mk a
def turnM (rgs : List (List Nat)) (mk : Nat → Nat) : Nat → Nat := rgs.foldl markStep mk
def marksN (rgs : List (List Nat)) : Nat → Nat → Nat
  | 0 => id
  | t + 1 => turnM rgs (marksN rgs t)
theorem least_mem {mk : Nat → Nat} {r : List Nat} {a : Nat} (ha : a ∈ r) : (∃ x ∈ r, leastOf mk r = mk x) ∧ ∀ x ∈ r, leastOf mk r ≤ mk x := by
  cases e : (r.map mk).min? with
  | none =>
    have := List.min?_eq_none_iff.1 e
    have := List.map_eq_nil_iff.1 this
    subst this; simp at ha
  | some m =>
    obtain ⟨h1, h2⟩ := List.min?_eq_some_iff.1 e
    have el : leastOf mk r = m := by rw [leastOf, e]; rfl
    rw [el]
    obtain ⟨x, hx, rfl⟩ := List.mem_map.1 h1
    exact ⟨⟨x, hx, rfl⟩, fun y hy => h2 _ (List.mem_map.2 ⟨y, hy, rfl⟩)⟩
section
variable {lab : Nat → Nat} {rgs : List (List Nat)} (l1 : ∀ r ∈ rgs, ∀ a ∈ r, ∀ b ∈ r, lab a = lab b) (l2 : ∀ a, lab a ≤ a)
include l1 l2
theorem step_ok {mk : Nat → Nat} (hm : ∀ a, lab (mk a) = lab a) {r : List Nat} (hr : r ∈ rgs) :
    (∀ a, lab (markStep mk r a) = lab a) ∧ (∀ a, mk a = lab a → markStep mk r a = lab a) ∧ ∀ x ∈ r, mk x = lab x → ∀ y ∈ r, markStep mk r y = lab y := by
  have hge : ∀ a, lab a ≤ mk a := fun a => by rw [← hm a]; exact l2 _
  refine ⟨fun a => ?_, fun a ha => ?_, fun x hx he y hy => ?_⟩
  · rw [markStep]
    by_cases q : a ∈ r
    · rw [if_pos q]
      obtain ⟨⟨x, hx, e⟩, _⟩ := least_mem (mk := mk) q
      rw [e, hm x]; exact l1 r hr x hx a q
    · rw [if_neg q]; exact hm a
  · rw [markStep]
    by_cases q : a ∈ r
    · rw [if_pos q]
      obtain ⟨⟨x, hx, e⟩, h⟩ := least_mem (mk := mk) q
      have h1 := h a q
      have h2 : lab a ≤ leastOf mk r := by
        rw [e, l1 r hr a q x hx]; exact hge x
      omega
    · rw [if_neg q]; exact ha
  · rw [markStep, if_pos hy]
    obtain ⟨⟨z, hz, e⟩, h⟩ := least_mem (mk := mk) hy
    have h1 := h x hx
    have h2 : lab y ≤ leastOf mk r := by
      rw [e, l1 r hr y hy z hz]; exact hge z
    have h3 := l1 r hr x hx y hy
    omega
theorem turn_fold (rs : List (List Nat)) (hs : ∀ r ∈ rs, r ∈ rgs) {mk : Nat → Nat} (hm : ∀ a, lab (mk a) = lab a) :
    (∀ a, lab (rs.foldl markStep mk a) = lab a) ∧ (∀ a, mk a = lab a → rs.foldl markStep mk a = lab a) ∧ ∀ r ∈ rs, ∀ x ∈ r, mk x = lab x → ∀ y ∈ r, rs.foldl markStep mk y = lab y := by
  induction rs generalizing mk with
  | nil => exact ⟨hm, fun _ h => h, by simp⟩
  | cons r rs ih =>
    obtain ⟨s1, s2, s3⟩ := step_ok l1 l2 hm (hs r (by simp))
    obtain ⟨i1, i2, i3⟩ := ih (fun q hq => hs q (by simp [hq])) s1
    refine ⟨i1, fun a ha => i2 a (s2 a ha), fun q hq x hx he y hy => ?_⟩
    rcases List.mem_cons.1 hq with rfl | hq
    · exact i2 y (s3 x hx he y hy)
    · exact i3 q hq x hx (s2 x he) y hy
/-- after as many turns as there are lines all marks are the least ones -/
theorem marks_done (l3 : ∀ a, lab (lab a) = lab a) {L : Nat} (hL : ∀ r ∈ rgs, ∀ a ∈ r, a < L)
    (hcl : ∀ (S : Nat → Prop) (a : Nat), a < L → S (lab a) → (∀ r ∈ rgs, ∀ x ∈ r, S x → ∀ y ∈ r, S y) → S a) : ∀ a, a < L → marksN rgs L a = lab a := by
  have hm : ∀ t, ∀ a, lab (marksN rgs t a) = lab a := by
    intro t
    induction t with
    | zero => intro a; rfl
    | succ t ih => exact (turn_fold l1 l2 rgs (fun _ h => h) ih).1
  have hkeep : ∀ t a, marksN rgs t a = lab a → marksN rgs (t + 1) a = lab a := fun t => (turn_fold l1 l2 rgs (fun _ h => h) (hm t)).2.1
  have hgrow := fun t => (turn_fold l1 l2 rgs (fun _ h => h) (hm t)).2.2
  have h0 : ∀ t a, marksN rgs t (lab a) = lab (lab a) := by
    intro t a
    induction t with
    | zero => exact (l3 a).symm
    | succ t ih => exact hkeep t _ ih
  let F := fun t => (List.range L).filter fun a => decide (marksN rgs t a = lab a)
  have hF : ∀ t, (∀ a, a < L → marksN rgs t a = lab a) ∨ t ≤ (F t).length := by
    intro t
    induction t with
    | zero => exact .inr (Nat.zero_le _)
    | succ t ih =>
      rcases ih with ih | ih
      · exact .inl fun a ha => hkeep t a (ih a ha)
      · by_cases q : ∃ a, a < L ∧ marksN rgs (t + 1) a = lab a ∧ ¬ marksN rgs t a = lab a
        · right
          obtain ⟨a, ha, h1, h2⟩ := q
          have hsub : ∀ b ∈ a :: F t, b ∈ F (t + 1) := by
            intro b hb
            rcases List.mem_cons.1 hb with rfl | hb
            · exact List.mem_filter.2 ⟨List.mem_range.2 ha, decide_eq_true h1⟩
            · obtain ⟨hb1, hb2⟩ := List.mem_filter.1 hb
              exact List.mem_filter.2 ⟨hb1, decide_eq_true (hkeep t b (of_decide_eq_true hb2))⟩
          have hnd : (a :: F t).Nodup := List.nodup_cons.2 ⟨fun h => h2 (of_decide_eq_true (List.mem_filter.1 h).2), List.nodup_range.filter _⟩
          have hp : ((F (t + 1)).filter fun b => decide (b ∈ a :: F t)).Perm (a :: F t) := perm_of_mem ((List.nodup_range.filter _).filter _) hnd fun b => by
            rw [List.mem_filter, decide_eq_true_eq]
            exact ⟨fun h => h.2, fun h => ⟨hsub b h, h⟩⟩
          have e1 := hp.length_eq
          have e2 := List.length_filter_le (fun b => decide (b ∈ a :: F t)) (F (t + 1))
          simp only [List.length_cons] at e1
          omega
        · left
          intro a ha
          apply hkeep t
          refine hcl (fun b => b < L → marksN rgs t b = lab b) a ha (fun _ => h0 t a) ?_ ha
          intro r hr x hx hSx y hy hyL
          by_cases q2 : marksN rgs t y = lab y
          · exact q2
          · exact absurd ⟨y, hyL, hgrow t r hr x hx (hSx (hL r hr x hx)) y hy, q2⟩ q
  rcases hF L with h | h
  · exact h
  · intro a ha
    have hp : (F L).length = (List.range L).length := by
      have := List.length_filter_le (fun a => decide (marksN rgs L a = lab a)) (List.range L)
      simp only [F] at h ⊢
      rw [List.length_range] at *
      omega
    have := List.length_filter_eq_length_iff.1 hp a (List.mem_range.2 ha)
    exact of_decide_eq_true this
end
end M
end
section
set_option linter.all false
set_option maxRecDepth 100000
namespace M
variable {n : Nat} {ls : List (Nat × Nat)}
theorem mem_atNode {u k : Nat} : k ∈ atNode ls u ↔ k < ls.length ∧ at_ ls u k := by
  constructor
  · intro h
    have hk := atNode_lt ls u k h
    refine ⟨hk, ?_⟩
    obtain ⟨z, hz, rfl⟩ := List.mem_map.1 h
    obtain ⟨hz1, hz2⟩ := List.mem_filter.1 hz
    have b := List.mem_zipIdx (x := z.1) (i := z.2) (k := 0) hz1
    have b3 := b.2.2
    simp only [Nat.sub_zero] at b3
    have e : en ls z.2 = z.1 := by simp [en, hk, b3]
    simp only [touch, Bool.or_eq_true, decide_eq_true_eq] at hz2
    rw [at_, e]; exact hz2
  · rintro ⟨hk, h⟩
    have hz : (en ls k, k) ∈ ls.zipIdx := by
      rw [zip_range (0, 0) ls, List.mem_map]
      exact ⟨k, by simpa using hk, rfl⟩
    exact List.mem_map.2 ⟨(en ls k, k), List.mem_filter.2 ⟨hz, by simpa [touch, at_] using h⟩, rfl⟩
theorem far_end (u k : Nat) : farEnd ls u k = far ls u k := rfl
/-- do the other ends of two lines at u hold together without u? -/
def sameU (n : Nat) (ls : List (Nat × Nat)) (u e f : Nat) : Bool := decide (lab1 n ls ((atNode ls u).map Int.ofNat) (farEnd ls u e) = lab1 n ls ((atNode ls u).map Int.ofNat) (farEnd ls u f))
theorem sameU_iff (hg : goodL n ls) {u e f : Nat} (he : e < ls.length) (hf : f < ls.length) : sameU n ls u e f = true ↔ Con (off ls u) (far ls u e) (far ls u f) := by
  have e0 := act_off ls u
  rw [act_nil] at e0
  rw [sameU, decide_eq_true_eq, far_end, far_end, lab1_eq hg _ (far_lt hg he), lab1_eq hg _ (far_lt hg hf), e0, ← (lab_ok _).1]
  omega
def pairsU (n : Nat) (ls : List (Nat × Nat)) (u e : Nat) (fs : List Nat) : Edges := (fs.filter (sameU n ls u e)).map fun f => (e, f)
def pairsE (n : Nat) (ls : List (Nat × Nat)) (u : Nat) (es : List Nat) : Edges := es.flatMap fun e => pairsU n ls u e (atNode ls u)
def pairsN (n : Nat) (ls : List (Nat × Nat)) (us : List Nat) : Edges := us.flatMap fun u => pairsE n ls u (atNode ls u)
def pairsB (n : Nat) (ls : List (Nat × Nat)) : Edges := pairsN n ls (List.range n)
theorem mem_pairs (hg : goodL n ls) (e f : Nat) : (e, f) ∈ pairsB n ls ↔ Pair ls e f := by
  simp only [pairsB, pairsN, pairsE, pairsU, List.mem_flatMap, List.mem_map, List.mem_filter, Prod.mk.injEq, List.mem_range]
  constructor
  · rintro ⟨u, hu, e', he, f', ⟨hf, hs⟩, rfl, rfl⟩
    obtain ⟨h1, h2⟩ := mem_atNode.1 he
    obtain ⟨h3, h4⟩ := mem_atNode.1 hf
    exact ⟨h1, h3, u, h2, h4, (sameU_iff hg h1 h3).1 hs⟩
  · rintro ⟨h1, h3, u, h2, h4, hc⟩
    exact ⟨u, at_lt hg h1 h2, e, mem_atNode.2 ⟨h1, h2⟩, f, ⟨mem_atNode.2 ⟨h3, h4⟩, (sameU_iff hg h1 h3).2 hc⟩, rfl, rfl⟩
/-- the least line of a line's class -/
def cls (n : Nat) (ls : List (Nat × Nat)) : Nat → Nat := labF (pairsB n ls)
theorem cls_con {a b : Nat} : cls n ls a = cls n ls b ↔ Con (pairsB n ls) a b := (lab_ok _).1 a b
theorem cls_lt {a : Nat} : cls n ls a ≤ a := (lab_ok _).2.1 a
theorem cls_cls {a : Nat} : cls n ls (cls n ls a) = cls n ls a := (lab_ok _).2.2 a
/-- the law's marks are the program's -/
theorem marks_cls (hg : goodL n ls) : ∀ a, a < ls.length → marksN (ringsF n ls) ls.length a = cls n ls a := by
  have hlt : ∀ r ∈ ringsF n ls, ∀ a ∈ r, a < ls.length := by
    intro r hr a ha
    obtain ⟨k, ws, vs, rfl, c⟩ := (mem_rings hg).1 hr
    rcases List.mem_cons.1 ha with rfl | ha
    · exact c.lt
    · exact c.lts a (List.mem_reverse.1 ha)
  have hce := fun a b => class_eq (a := a) (b := b) hg (mem_pairs hg)
  refine marks_done (rgs := ringsF n ls) (lab := cls n ls) ?_ (fun a => cls_lt) (fun a => cls_cls) hlt ?_
  · intro r hr a ha b hb
    rw [cls_con, hce]
    exact ring_con hr ha hb
  · intro S a ha h0 hS
    have hc : Con (ringPairs (ringsF n ls)) (cls n ls a) a := by
      rw [← hce, ← cls_con]; exact cls_cls
    generalize cls n ls a = z at hc h0
    clear ha
    induction hc with
    | refl => exact h0
    | @tail b c _ e ih =>
      have hmem : ∃ r ∈ ringsF n ls, b ∈ r ∧ c ∈ r := by
        rcases e with e | e
        · obtain ⟨r, hr, hp⟩ := List.mem_flatMap.1 e
          obtain ⟨j, hj, e2⟩ := List.mem_map.1 hp
          cases r with
          | nil => simp at hj
          | cons k t => simp at e2 hj; exact ⟨_, hr, by simp [e2.1], by simp [← e2.2, hj]⟩
        · obtain ⟨r, hr, hp⟩ := List.mem_flatMap.1 e
          obtain ⟨j, hj, e2⟩ := List.mem_map.1 hp
          cases r with
          | nil => simp at hj
          | cons k t => simp at e2 hj; exact ⟨_, hr, by simp [← e2.2, hj], by simp [e2.1]⟩
      obtain ⟨r, hr, hb, hc⟩ := hmem
      exact hS r hr b hb ih c hc
theorem con_first {es : Edges} {a b : Nat} (h : Con es a b) (hne : b ≠ a) : ∃ f, f ≠ a ∧ Adj es a f := by
  induction h with
  | refl => exact absurd rfl hne
  | @tail c d _ e ih =>
    by_cases q : c = a
    · subst q; exact ⟨d, hne, e⟩
    · exact ih q
theorem act_sub {fs : List Int} {p : Nat × Nat} : p ∈ act ls fs ↔ p ∈ sub ls (fun j => !decide ((j : Int) ∈ fs)) := by
  rw [act, zip_range (0, 0) ls, List.mem_map, mem_sub]
  constructor
  · rintro ⟨z, hz, rfl⟩
    obtain ⟨h1, h2⟩ := List.mem_filter.1 hz
    obtain ⟨k, hk, rfl⟩ := List.mem_map.1 h1
    exact ⟨k, List.mem_range.1 hk, h2, rfl⟩
  · rintro ⟨k, hk, h2, rfl⟩
    exact ⟨(en ls k, k), List.mem_filter.2 ⟨List.mem_map.2 ⟨k, List.mem_range.2 hk, rfl⟩, h2⟩, rfl⟩
theorem con_act {fs : List Int} {a b : Nat} : Con (act ls fs) a b ↔ Con (sub ls (fun j => !decide ((j : Int) ∈ fs))) a b :=
  ⟨Con.mono fun _ h => act_sub.1 h, Con.mono fun _ h => act_sub.2 h⟩
/-- a line is a bridge exactly if it is a class of its own -/
theorem bridge_iff (hg : goodL n ls) {k : Nat} (hk : k < ls.length) : lab1 n ls [(k : Int)] (en ls k).1 ≠ lab1 n ls [(k : Int)] (en ls k).2 ↔ ∀ j, j < ls.length → cls n ls j = cls n ls k → j = k := by
  have hgk := en_good hg hk
  have hl : lab1 n ls [(k : Int)] (en ls k).1 = lab1 n ls [(k : Int)] (en ls k).2 ↔ Con (sub ls (fun j => !decide ((j : Int) ∈ [(k : Int)]))) (en ls k).1 (en ls k).2 := by
    rw [lab1_eq hg _ (by omega), lab1_eq hg _ hgk.2, ← con_act, ← (lab_ok _).1]
    omega
  have hp : ∀ j : Nat, (!decide ((j : Int) ∈ [(k : Int)])) = true ↔ j ≠ k := by
    intro j; simp; omega
  constructor
  · intro hne j hj he
    refine Classical.byContradiction fun hjk => hne (hl.2 ?_)
    have hc := cls_con.1 he.symm
    obtain ⟨f, hf, ha⟩ := con_first hc hjk
    have hpair : ∃ u, at_ ls u k ∧ at_ ls u f ∧ f < ls.length ∧ Con (off ls u) (far ls u k) (far ls u f) := by
      rcases ha with ha | ha
      · obtain ⟨_, h2, u, h3, h4, h5⟩ := (mem_pairs hg _ _).1 ha
        exact ⟨u, h3, h4, h2, h5⟩
      · obtain ⟨h1, _, u, h3, h4, h5⟩ := (mem_pairs hg _ _).1 ha
        exact ⟨u, h4, h3, h1, h5.symm⟩
    obtain ⟨u, h3, h4, h2, h5⟩ := hpair
    have hu : Con (sub ls (fun j => !decide ((j : Int) ∈ [(k : Int)]))) u (far ls u k) := by
      refine (Con.one (sub_adj h2 ((hp f).2 hf) h4)).trans ?_
      refine (Con.mono ?_ (con_off_sub.2 h5)).symm
      intro p hpm
      obtain ⟨i, i1, i2, rfl⟩ := mem_sub.1 hpm
      refine mem_sub.2 ⟨i, i1, (hp i).2 ?_, rfl⟩
      rintro rfl
      exact notAt_not.1 i2 h3
    by_cases q : (en ls k).1 = u
    · have : far ls u k = (en ls k).2 := by simp [far, q]
      rw [this, ← q] at hu; exact hu
    · have : far ls u k = (en ls k).1 := by simp [far, q]
      rw [this, ← h3.resolve_left q] at hu; exact hu.symm
  · intro hall he
    obtain ⟨ks, vs, k1, k2, k3, k4⟩ := con_way (hl.1 he)
    have c : Cyc ls (en ls k).1 (en ls k).2 k ks vs := ⟨hk, .inl rfl, by simp [far], k1, k2, k3, fun j hj => (k4 j hj).1, fun hkk => (hp k).1 (k4 k hkk).2 rfl⟩
    cases ks with
    | nil => cases k1; simp at k2; omega
    | cons f ks =>
      have hf := k4 f (by simp)
      exact (hp f).1 hf.2 (hall f hf.1 (cls_con.2 (Con.one (.inr ((mem_pairs hg _ _).2 c.first)))))
/-- a node is a cut node exactly if two lines at it are of different classes -/
theorem cut_iff (hg : goodL n ls) (u : Nat) : isCut n ls u = true ↔ ∃ e f, e < ls.length ∧ f < ls.length ∧ at_ ls u e ∧ at_ ls u f ∧ cls n ls e ≠ cls n ls f := by
  have hadj : ∀ a, Adj ls u a ↔ ∃ e, e < ls.length ∧ at_ ls u e ∧ far ls u e = a := by
    intro a
    constructor
    · rintro (h | h)
      · obtain ⟨k, hk, e⟩ := List.getElem_of_mem h
        have : en ls k = (u, a) := by simp [en, hk, e]
        exact ⟨k, hk, by simp [at_, this], by simp [far, this]⟩
      · obtain ⟨k, hk, e⟩ := List.getElem_of_mem h
        have : en ls k = (a, u) := by simp [en, hk, e]
        have hga := hg _ h
        refine ⟨k, hk, by simp [at_, this], ?_⟩
        simp at hga
        simp only [far, this]
        rw [if_neg (by omega)]
    · rintro ⟨e, he, h1, rfl⟩
      have hm : en ls e ∈ ls := by simp [en, he]
      simp only [at_, far] at *
      by_cases q : (en ls e).1 = u
      · rw [if_pos q]; left; rw [← q]; exact hm
      · rw [if_neg q]; right; rw [← h1.resolve_left q]; exact hm
  rw [isCut_iff hg]
  constructor
  · rintro ⟨a, b, ha, hb, hc⟩
    obtain ⟨e, he, e1, rfl⟩ := (hadj a).1 ha
    obtain ⟨f, hf, f1, rfl⟩ := (hadj b).1 hb
    refine ⟨e, f, he, hf, e1, f1, fun h => hc ?_⟩
    -- what a line stands for, seen from u
    have hrep : ∀ p ∈ pairsB n ls, Con (off ls u) (far ls u p.1) (far ls u p.2) := by
      intro p hp
      obtain ⟨l, m⟩ := p
      obtain ⟨hl, hm, w, w1, w2, w3⟩ := (mem_pairs hg _ _).1 hp
      by_cases q : w = u
      · subst q; exact w3
      · have key : ∀ l, l < ls.length → at_ ls w l → Con (off ls u) (far ls u l) w := by
          intro l hl hw
          by_cases q2 : at_ ls u l
          · rw [at_two q2 hw (fun e => q e.symm)]; exact .refl
          · by_cases q3 : far ls u l = w
            · rw [q3]; exact .refl
            · have h1 : far ls u l = (en ls l).1 := by
                have : ¬ (en ls l).1 = u := fun h => q2 (.inl h)
                simp [far, this]
              have hm : en ls l ∈ off ls u := mem_off.2 ⟨by simp [en, hl], fun h => q2 (.inl h), fun h => q2 (.inr h)⟩
              have h2 : (en ls l).2 = w := by
                rcases hw with hw | hw
                · exact absurd (h1.trans hw) q3
                · exact hw
              rw [h1, ← h2]
              exact .one (.inl hm)
        exact (key l hl w1).trans (key m hm w2).symm
    have hcon := cls_con.1 h
    have : ∀ {x y : Nat}, Con (pairsB n ls) x y → Con (off ls u) (far ls u x) (far ls u y) := by
      intro x y hxy
      induction hxy with
      | refl => exact .refl
      | tail _ e ih =>
        rcases e with e | e
        · exact ih.trans (hrep _ e)
        · exact ih.trans (hrep _ e).symm
    exact this hcon
  · rintro ⟨e, f, he, hf, e1, f1, hc⟩
    refine ⟨_, _, (hadj _).2 ⟨e, he, e1, rfl⟩, (hadj _).2 ⟨f, hf, f1, rfl⟩, fun h => hc (cls_con.2 (.one (.inl ((mem_pairs hg _ _).2 ⟨he, hf, u, e1, f1, h⟩))))⟩
/-! ### what is due -/
def heads (n : Nat) (ls : List (Nat × Nat)) : List Nat := (List.range ls.length).filter fun k => decide (cls n ls k = k)
def block (n : Nat) (ls : List (Nat × Nat)) (h : Nat) : List Nat := (List.range ls.length).filter fun k => decide (cls n ls k = h)
theorem mem_block {h k : Nat} : k ∈ block n ls h ↔ k < ls.length ∧ cls n ls k = h := by simp [block]
theorem mem_heads {h : Nat} : h ∈ heads n ls ↔ h < ls.length ∧ cls n ls h = h := by simp [heads]
theorem cls_head {k : Nat} (hk : k < ls.length) : cls n ls k ∈ heads n ls := mem_heads.2 ⟨Nat.lt_of_le_of_lt cls_lt hk, cls_cls⟩
theorem single_block {h : Nat} (hh : h ∈ heads n ls) : (block n ls h).length = 1 ↔ ∀ j, j < ls.length → cls n ls j = cls n ls h → j = h := by
  obtain ⟨h1, h2⟩ := mem_heads.1 hh
  have hm : h ∈ block n ls h := mem_block.2 ⟨h1, h2⟩
  constructor
  · intro hl j hj he
    have hj2 : j ∈ block n ls h := mem_block.2 ⟨hj, he.trans h2⟩
    obtain ⟨x, hx⟩ := List.length_eq_one_iff.1 hl
    rw [hx] at hm hj2
    rw [List.mem_singleton.1 hm, List.mem_singleton.1 hj2]
  · intro hall
    have hnd : (block n ls h).Nodup := List.nodup_range.filter _
    have hp : (block n ls h).Perm [h] := perm_of_mem hnd (by simp) fun a => by
      rw [mem_block, List.mem_singleton]
      constructor
      · rintro ⟨a1, a2⟩; exact hall a a1 (by rw [a2, h2])
      · rintro rfl; exact ⟨h1, h2⟩
    simpa using hp.length_eq
/-- the bridges are the blocks of one line -/
theorem bridges_due (hg : goodL n ls) : (linesOf ls fun l k => !decide (lab1 n ls [(k : Int)] l.1 = lab1 n ls [(k : Int)] l.2)) = ((heads n ls).filter fun h => decide ((block n ls h).length = 1)).map Int.ofNat := by
  have e1 : (linesOf ls fun l k => !decide (lab1 n ls [(k : Int)] l.1 = lab1 n ls [(k : Int)] l.2)) = ((List.range ls.length).filter fun k : Nat => !decide (lab1 n ls [(k : Int)] (en ls k).1 = lab1 n ls [(k : Int)] (en ls k).2)).map Int.ofNat := by
    rw [linesOf, zip_range (0, 0) ls, List.filterMap_map, ← List.filterMap_eq_map, List.filterMap_filter]
    rfl
  rw [e1]
  congr 1
  rw [heads, List.filter_filter]
  apply List.filter_congr
  intro k hk
  have hk := List.mem_range.1 hk
  have hb := bridge_iff hg hk
  by_cases q : lab1 n ls [(k : Int)] (en ls k).1 = lab1 n ls [(k : Int)] (en ls k).2
  · have hno : ¬ ∀ j, j < ls.length → cls n ls j = cls n ls k → j = k := fun h => hb.2 h q
    by_cases q2 : cls n ls k = k
    · have := single_block (mem_heads.2 ⟨hk, q2⟩)
      have : ¬ (block n ls k).length = 1 := fun h => hno (this.1 h)
      simp [q, q2, this]
    · simp [q, q2]
  · have hall := hb.1 q
    have q2 : cls n ls k = k := hall _ (Nat.lt_of_le_of_lt cls_lt hk) cls_cls
    have := (single_block (mem_heads.2 ⟨hk, q2⟩)).2 hall
    simp [q, q2, this]
/-- nodes with lines of several blocks -/
def several (n : Nat) (ls : List (Nat × Nat)) (u : Nat) : Bool := decide (1 < ((heads n ls).filter fun h => !decide ((block n ls h).filter (fun k => decide (at_ ls u k)) = [])).length)
theorem several_iff (hg : goodL n ls) (u : Nat) : several n ls u = isCut n ls u := by
  rw [Bool.eq_iff_iff, cut_iff hg, several, decide_eq_true_eq]
  have hnd : ((heads n ls).filter fun h => !decide ((block n ls h).filter (fun k => decide (at_ ls u k)) = [])).Nodup := (List.nodup_range.filter _).filter _
  have hmem : ∀ h, h ∈ ((heads n ls).filter fun h => !decide ((block n ls h).filter (fun k => decide (at_ ls u k)) = [])) ↔ ∃ k, k < ls.length ∧ at_ ls u k ∧ cls n ls k = h := by
    intro h
    rw [List.mem_filter]
    constructor
    · rintro ⟨_, h2⟩
      have h2 : ¬ (block n ls h).filter (fun k => decide (at_ ls u k)) = [] := by simpa using h2
      obtain ⟨k, hk⟩ := List.exists_mem_of_ne_nil _ h2
      obtain ⟨k1, k2⟩ := List.mem_filter.1 hk
      obtain ⟨k3, k4⟩ := mem_block.1 k1
      exact ⟨k, k3, of_decide_eq_true k2, k4⟩
    · rintro ⟨k, k1, k2, rfl⟩
      refine ⟨cls_head k1, ?_⟩
      have : k ∈ (block n ls (cls n ls k)).filter (fun k => decide (at_ ls u k)) := List.mem_filter.2 ⟨mem_block.2 ⟨k1, rfl⟩, decide_eq_true k2⟩
      simp only [Bool.not_eq_true', decide_eq_false_iff_not]
      intro e; rw [e] at this; simp at this
  generalize ((heads n ls).filter fun h => !decide ((block n ls h).filter (fun k => decide (at_ ls u k)) = [])) = X at *
  constructor
  · intro h
    match X, hnd, hmem, h with
    | x :: y :: r, hnd, hmem, _ =>
      have hxy : x ≠ y := by
        rintro rfl
        exact (List.nodup_cons.1 hnd).1 (by simp)
      obtain ⟨e, e1, e2, e3⟩ := (hmem x).1 (by simp)
      obtain ⟨f, f1, f2, f3⟩ := (hmem y).1 (by simp)
      exact ⟨e, f, e1, f1, e2, f2, by rw [e3, f3]; exact hxy⟩
  · rintro ⟨e, f, e1, f1, e2, f2, hne⟩
    have h1 := (hmem _).2 ⟨e, e1, e2, rfl⟩
    have h2 := (hmem _).2 ⟨f, f1, f2, rfl⟩
    match X, h1, h2 with
    | [], h1, _ => simp at h1
    | [x], h1, h2 => exact absurd ((List.mem_singleton.1 h1).trans (List.mem_singleton.1 h2).symm) hne
    | x :: y :: r, _, _ => simp
end M
end
section
set_option linter.all false
set_option maxRecDepth 100000
namespace M
open PySem Ev
-- blocks 13 [false] OK
def b_blocks (x : Ix) : Ev.Ss :=
  (.cons (.set (.var 1) (.op .listr1 (.cons (.op .len (.cons (.op .idx (.cons (.var 0) (.cons (.cst (.int (1))) .nil))) .nil)) .nil)))
  (.cons (.for_ (.var 2) (.rng1 (.op .idx (.cons (.var 0) (.cons (.cst (.int (0))) .nil))))
  (.cons (.set (.var 4) (.call x.labels_of (.cons (.var 0) (.cons (.call x.lines_at (.cons (.var 0) (.cons (.var 2) .nil))) .nil))))
  (.cons (.set (.var 5) (.call x.lines_at (.cons (.var 0) (.cons (.var 2) .nil))))
  (.cons (.for_ (.var 6) (.seq (.var 5))
  (.cons (.for_ (.var 7) (.seq (.var 5))
  (.cons (.ite (.cmp .eq (.op .idx (.cons (.var 4) (.cons (.call x.other_end (.cons (.var 0) (.cons (.var 6) (.cons (.var 2) .nil)))) .nil))) (.op .idx (.cons (.var 4) (.cons (.call x.other_end (.cons (.var 0) (.cons (.var 7) (.cons (.var 2) .nil)))) .nil))))
  (.cons (.par [10, 11] (.cons (.op .max2 (.cons (.op .idx (.cons (.var 1) (.cons (.var 6) .nil))) (.cons (.op .idx (.cons (.var 1) (.cons (.var 7) .nil))) .nil))) (.cons (.op .min2 (.cons (.op .idx (.cons (.var 1) (.cons (.var 6) .nil))) (.cons (.op .idx (.cons (.var 1) (.cons (.var 7) .nil))) .nil))) .nil)))
  (.cons (.set (.var 1) (.comp [12] (.var 12) (.seq (.var 1)) .yes (.cond (.cmp .eq (.var 12) (.var 10)) (.var 11) (.var 12))))
  .nil))
  .nil)
  .nil))
  .nil))
  .nil))))
  (.cons (.set (.var 3) (.comp [8] (.var 8) (.rng1 (.op .len (.cons (.var 1) .nil))) (.cmp .eq (.op .idx (.cons (.var 1) (.cons (.var 8) .nil))) (.var 8)) (.var 8)))
  (.cons (.ret (.op .tuple (.cons (.comp [9] (.var 9) (.seq (.var 3)) .yes (.op .tuple (.cons (.comp [8] (.var 8) (.rng1 (.op .len (.cons (.var 1) .nil))) (.cmp .eq (.op .idx (.cons (.var 1) (.cons (.var 8) .nil))) (.var 9)) (.var 8)) .nil))) .nil)))
  .nil))))
-- nodes_along 5 [false, false, false] OK
def b_nodes_along (x : Ix) : Ev.Ss :=
  (.cons (.set (.var 3) (.lst (.cons (.var 2) .nil)))
  (.cons (.for_ (.var 4) (.seq (.var 1))
  (.cons (.ite (.cmp .nin (.op .idx (.cons (.var 3) (.cons (.op .neg (.cons (.cst (.int (1))) .nil)) .nil))) (.op .idx (.cons (.op .idx (.cons (.var 0) (.cons (.cst (.int (1))) .nil))) (.cons (.var 4) .nil))))
  (.cons (.ret (.cst .none))
  .nil)
  .nil)
  (.cons (.ex (.mth .append 3 (.cons (.call x.other_end (.cons (.var 0) (.cons (.var 4) (.cons (.op .idx (.cons (.var 3) (.cons (.op .neg (.cons (.cst (.int (1))) .nil)) .nil))) .nil)))) .nil)))
  .nil)))
  (.cons (.ret (.var 3))
  .nil)))
-- is_ring 6 [false, false] OK
def b_is_ring (x : Ix) : Ev.Ss :=
  (.cons (.ite (.or (.not (.val (.op (.isi .tuple) (.cons (.var 1) .nil)))) (.or (.cmp .lt (.op .len (.cons (.var 1) .nil)) (.cst (.int (2)))) (.not (.val (.gen .all [5] (.var 5) (.seq (.var 1)) .yes (.call x.is_number (.cons (.var 5) (.cons (.cst (.int (0))) (.cons (.op .sub (.cons (.op .len (.cons (.op .idx (.cons (.var 0) (.cons (.cst (.int (1))) .nil))) .nil)) (.cons (.cst (.int (1))) .nil))) .nil)))))))))
  (.cons (.ret (.cst (.bool false)))
  .nil)
  .nil)
  (.cons (.ite (.val (.gen .any [4] (.var 4) (.rng1 (.op .len (.cons (.var 1) .nil))) .yes (.op .inn (.cons (.op .idx (.cons (.var 1) (.cons (.var 4) .nil))) (.cons (.sl (.var 1) .none (.some (.var 4))) .nil)))))
  (.cons (.ret (.cst (.bool false)))
  .nil)
  .nil)
  (.cons (.for_ (.var 2) (.seq (.op .idx (.cons (.op .idx (.cons (.var 0) (.cons (.cst (.int (1))) .nil))) (.cons (.op .idx (.cons (.var 1) (.cons (.cst (.int (0))) .nil))) .nil))))
  (.cons (.set (.var 3) (.call x.nodes_along (.cons (.var 0) (.cons (.var 1) (.cons (.var 2) .nil)))))
  (.cons (.ite (.and (.val (.op .isnn (.cons (.var 3) .nil))) (.and (.cmp .eq (.op .idx (.cons (.var 3) (.cons (.op .neg (.cons (.cst (.int (1))) .nil)) .nil))) (.var 2)) (.not (.val (.gen .any [4] (.var 4) (.rng1 (.op .len (.cons (.var 1) .nil))) .yes (.op .inn (.cons (.op .idx (.cons (.var 3) (.cons (.var 4) .nil))) (.cons (.sl (.var 3) .none (.some (.var 4))) .nil))))))))
  (.cons (.ret (.cst (.bool true)))
  .nil)
  .nil)
  .nil)))
  (.cons (.ret (.cst (.bool false)))
  .nil))))
-- _law_ways 7 [false, false, false, false] OK
def b_law_ways (x : Ix) : Ev.Ss :=
  (.cons (.ite (.cmp .eq (.op .idx (.cons (.var 1) (.cons (.op .neg (.cons (.cst (.int (1))) .nil)) .nil))) (.var 2))
  (.cons (.ret (.lst (.cons (.op .tuple (.cons (.var 3) .nil)) .nil)))
  .nil)
  .nil)
  (.cons (.set (.var 4) (.lst .nil))
  (.cons (.for_ (.var 5) (.rng1 (.op .len (.cons (.op .idx (.cons (.var 0) (.cons (.cst (.int (1))) .nil))) .nil)))
  (.cons (.ite (.cmp .inn (.op .idx (.cons (.var 1) (.cons (.op .neg (.cons (.cst (.int (1))) .nil)) .nil))) (.op .idx (.cons (.op .idx (.cons (.var 0) (.cons (.cst (.int (1))) .nil))) (.cons (.var 5) .nil))))
  (.cons (.set (.var 6) (.op .sub (.cons (.op .sum (.cons (.op .idx (.cons (.op .idx (.cons (.var 0) (.cons (.cst (.int (1))) .nil))) (.cons (.var 5) .nil))) .nil)) (.cons (.op .idx (.cons (.var 1) (.cons (.op .neg (.cons (.cst (.int (1))) .nil)) .nil))) .nil))))
  (.cons (.ite (.cmp .nin (.var 6) (.var 1))
  (.cons (.set (.var 4) (.op .add (.cons (.var 4) (.cons (.call x.law_ways (.cons (.var 0) (.cons (.op .add (.cons (.var 1) (.cons (.lst (.cons (.var 6) .nil)) .nil))) (.cons (.var 2) (.cons (.op .add (.cons (.var 3) (.cons (.lst (.cons (.var 5) .nil)) .nil))) .nil))))) .nil))))
  .nil)
  .nil)
  .nil))
  .nil)
  .nil))
  (.cons (.ret (.var 4))
  .nil))))
-- _law_is_ring 5 [false, false] OK
def b_law_is_ring : Ev.Ss :=
  (.cons (.ite (.or (.cmp .lt (.op .len (.cons (.var 1) .nil)) (.cst (.int (2)))) (.or (.cmp .ne (.comp [4] (.var 4) (.seq (.var 1)) (.not (.chain .le .lt (.cst (.int (0))) (.var 4) (.op .len (.cons (.op .idx (.cons (.var 0) (.cons (.cst (.int (1))) .nil))) .nil)))) (.var 4)) (.lst .nil)) (.cmp .ne (.comp [4] (.var 4) (.rng1 (.op .len (.cons (.var 1) .nil))) (.cmp .inn (.op .idx (.cons (.var 1) (.cons (.var 4) .nil))) (.sl (.var 1) .none (.some (.var 4)))) (.var 4)) (.lst .nil))))
  (.cons (.ret (.cst (.bool false)))
  .nil)
  .nil)
  (.cons (.for_ (.var 2) (.seq (.op .idx (.cons (.op .idx (.cons (.var 0) (.cons (.cst (.int (1))) .nil))) (.cons (.op .idx (.cons (.var 1) (.cons (.cst (.int (0))) .nil))) .nil))))
  (.cons (.set (.var 3) (.lst (.cons (.var 2) .nil)))
  (.cons (.for_ (.var 4) (.seq (.var 1))
  (.cons (.ite (.and (.cmp .ne (.var 3) (.lst .nil)) (.cmp .inn (.op .idx (.cons (.var 3) (.cons (.op .neg (.cons (.cst (.int (1))) .nil)) .nil))) (.op .idx (.cons (.op .idx (.cons (.var 0) (.cons (.cst (.int (1))) .nil))) (.cons (.var 4) .nil)))))
  (.cons (.set (.var 3) (.op .add (.cons (.var 3) (.cons (.lst (.cons (.op .sub (.cons (.op .sum (.cons (.op .idx (.cons (.op .idx (.cons (.var 0) (.cons (.cst (.int (1))) .nil))) (.cons (.var 4) .nil))) .nil)) (.cons (.op .idx (.cons (.var 3) (.cons (.op .neg (.cons (.cst (.int (1))) .nil)) .nil))) .nil))) .nil)) .nil))))
  .nil)
  (.cons (.set (.var 3) (.lst .nil))
  .nil))
  .nil))
  (.cons (.ite (.and (.cmp .eq (.op .len (.cons (.var 3) .nil)) (.op .add (.cons (.op .len (.cons (.var 1) .nil)) (.cons (.cst (.int (1))) .nil)))) (.and (.cmp .eq (.op .idx (.cons (.var 3) (.cons (.op .neg (.cons (.cst (.int (1))) .nil)) .nil))) (.var 2)) (.cmp .eq (.comp [4] (.var 4) (.rng1 (.op .len (.cons (.var 1) .nil))) (.cmp .inn (.op .idx (.cons (.var 3) (.cons (.var 4) .nil))) (.sl (.var 3) .none (.some (.var 4)))) (.var 4)) (.lst .nil))))
  (.cons (.ret (.cst (.bool true)))
  .nil)
  .nil)
  .nil))))
  (.cons (.ret (.cst (.bool false)))
  .nil)))
-- _law_rings 6 [false] OK
def b_law_rings (x : Ix) : Ev.Ss :=
  (.cons (.set (.var 1) (.lst .nil))
  (.cons (.for_ (.var 2) (.rng1 (.op .len (.cons (.op .idx (.cons (.var 0) (.cons (.cst (.int (1))) .nil))) .nil)))
  (.cons (.set (.tup (.cons (.var 4) (.cons (.var 5) .nil))) (.op .idx (.cons (.op .idx (.cons (.var 0) (.cons (.cst (.int (1))) .nil))) (.cons (.var 2) .nil))))
  (.cons (.for_ (.var 3) (.seq (.call x.law_ways (.cons (.var 0) (.cons (.lst (.cons (.var 4) .nil)) (.cons (.var 5) (.cons (.lst .nil) .nil))))))
  (.cons (.ite (.cmp .nin (.var 2) (.var 3))
  (.cons (.ex (.mth .append 1 (.cons (.op .add (.cons (.tup (.cons (.var 2) .nil)) (.cons (.slr (.var 3)) .nil))) .nil)))
  .nil)
  .nil)
  .nil))
  .nil)))
  (.cons (.ret (.var 1))
  .nil)))
end M
end
section
set_option linter.all false
set_option maxRecDepth 100000
namespace M
open PySem Ev
variable (x : Ix)
theorem item_lastD (a : List Nat) (w : Nat) : item ((a ++ [w]).map nD) (-1) = some (nD w) := by
  have e1 : ¬ ((0 : Int) ≤ -1) := by omega
  have e2 : (-(((a ++ [w]).map nD).length : Int) ≤ -1) := by simp; omega
  have e3 : ((-1 : Int) + ((a ++ [w]).map nD).length).toNat = a.length := by simp; omega
  simp only [item, place, e1, if_false, e2, if_true, e3, Option.bind_some]
  simp
theorem inn_line2 (v : Nat) (l : Nat × Nat) : opNin [.int v, lineD l] = some (.shr (.bool (!touch v l))) := by
  have h := inn_line v l
  have e1 : opInn [.int v, lineD l] = b2o (flat (.int v) && flat (lineD l)) (rbool (anyEq (.int v) [.int l.1, .int l.2])) := rfl
  have e2 : opNin [.int v, lineD l] = b2o (flat (.int v) && flat (lineD l)) (rbool (!anyEq (.int v) [.int l.1, .int l.2])) := rfl
  have f : flat (lineD l) = true := by simp [flat, lineD, PyData.canLay0, PyData.canLayAll0, PyData.depth, PyData.depthAll]
  rw [e1, f] at h
  rw [e2, f]
  have h' : anyEq (.int v) [.int l.1, .int l.2] = touch v l := by simpa [b2o, rbool] using h
  rw [h']; rfl
theorem touch_at (ls : List (Nat × Nat)) (u k : Nat) : touch u (en ls k) = decide (at_ ls u k) := by
  by_cases q1 : (en ls k).1 = u <;> by_cases q2 : (en ls k).2 = u <;> simp [touch, at_, q1, q2]
def OtherOk (c : Calls) : Prop := ∀ (n : Nat) (ls : List (Nat × Nat)) (k : Nat) (hk : k < ls.length) (v : Nat), c x.other_end [meshD n ls, .int k, .int v] = .ok (.shr (.int (far ls v k : Nat))) []
theorem other_of {c : Calls} (h : EndOk x c) : OtherOk x c := by
  intro n ls k hk v
  rw [h n ls k hk v]
  simp [far, en, hk]
theorem along_app {ls : List (Nat × Nat)} {u : Nat} (ks js : List Nat) (h : along ls u ks = none) : along ls u (ks ++ js) = none := by
  induction ks generalizing u with
  | nil => cases h
  | cons k ks ih =>
    rw [List.cons_append, along]
    rw [along] at h
    by_cases q : at_ ls u k
    · rw [if_pos q] at h ⊢
      rw [ih (by simpa using h)]; rfl
    · rw [if_neg q]
theorem along_step {ls : List (Nat × Nat)} {u w k : Nat} {ks a : List Nat} (h : along ls u ks = some (a ++ [w])) : along ls u (ks ++ [k]) = if at_ ls w k then some (a ++ [w] ++ [far ls w k]) else none := by
  by_cases q : at_ ls w k
  · rw [if_pos q]; exact along_snoc h (by simp) q
  · rw [if_neg q]
    induction ks generalizing u a with
    | nil =>
      have h : [u] = a ++ [w] := by simpa [along] using h
      have : u = w := by
        have := congrArg List.getLast? h
        simpa using this
      subst this
      rw [List.nil_append, along, if_neg q]
    | cons j ks ih =>
      obtain ⟨h1, ws, h2, e⟩ := along_cons.1 h
      obtain ⟨z, hz⟩ := along_head h2
      cases a with
      | nil => rw [hz] at e; simp at e
      | cons b a =>
        simp at e
        rw [List.cons_append, along, if_pos h1, ih (a := a) (by rw [e.2]; exact h2)]; rfl
theorem run_nodes_along (c : Calls) (t : List Calls) (h9 : OtherOk x c) (n : Nat) (ls : List (Nat × Nat)) (ks : List Nat) (u : Nat) (hks : ∀ k ∈ ks, k < ls.length) (hl : ks.length ≤ 1000) :
    runDef (c :: t) ⟨5, [false, false, false], b_nodes_along x⟩ [meshD n ls, .tuple (ks.map nD), .int u] = match along ls u ks with
      | some vs => .ok (.own (.list (vs.map nD))) []
      | none => .ok (.shr .none) [] := by
  simp [run_eq, parS, b_nodes_along]
  refine for_ret (Q := fun o => fin [false, false, false] o = _) (fun j r => ∃ a w, along ls u (ks.take j) = some (a ++ [w]) ∧ r = [.shr (meshD n ls), .shr (.tuple (ks.map nD)), .shr (.int u), .hld false false (.list ((a ++ [w]).map nD)), .non])
    nD ks (by simp) ⟨[], u, rfl, rfl⟩ ?_ ?_
  · rintro j k _ hk ⟨a, w, ha, rfl⟩
    have hkl := hks k (List.mem_of_getElem? hk)
    have e2 : ks.take (j + 1) = ks.take j ++ [k] := by rw [List.take_add_one, hk]; rfl
    have hst := along_step (k := k) ha
    rw [← e2] at hst
    have i1 := item_lastD a w
    have i2 : item (ls.map lineD) (k : Int) = some (lineD (en ls k)) := by rw [item_n _ k (by simpa using hkl)]; simp [en, hkl]
    have i3 := inn_line2 w (en ls k)
    rw [touch_at] at i3
    simp only [nD] at i1
    by_cases q : at_ ls w k
    · rw [if_pos q] at hst
      have hb : (a ++ [w]).length < 16777216 := by
        have h1 := along_len ha
        have h2 : (ks.take j).length ≤ ks.length := by rw [List.length_take]; omega
        omega
      have i4 := app_nat (a ++ [w]) (far ls w k) hb
      simp only [nD] at i4
      simp [nD, i1, i2, i3, q, idx_mesh1, h9 n ls k hkl w, i4, -List.map_append]
      exact ⟨a ++ [w], far ls w k, by rw [hst], by simp⟩
    · rw [if_neg q] at hst
      have hno : along ls u ks = none := by
        have := along_app (ks.take (j + 1)) (ks.drop (j + 1)) hst
        rwa [List.take_append_drop] at this
      simp [nD, i1, i2, i3, q, idx_mesh1, hno, -List.map_append]
  · rintro _ ⟨a, w, ha, rfl⟩
    rw [List.take_length] at ha
    simp [ha]
end M
end
section
set_option linter.all false
set_option maxRecDepth 100000
namespace M
open PySem Ev
variable (x : Ix)
theorem flat_natsT (f : List Nat) : flat (.tuple (f.map nD)) = true := by
  have := flat_nats f
  simpa [flat, PyData.canLay0, PyData.depth] using this
theorem inn_natsT (a : Nat) (f : List Nat) : opInn [nD a, .tuple (f.map nD)] = some (.shr (.bool (decide (a ∈ f)))) := by
  have h := inn_nats a f
  have e1 : opInn [nD a, .list (f.map nD)] = b2o (flat (nD a) && flat (.list (f.map nD))) (rbool (anyEq (nD a) (f.map nD))) := rfl
  have e2 : opInn [nD a, .tuple (f.map nD)] = b2o (flat (nD a) && flat (.tuple (f.map nD))) (rbool (anyEq (nD a) (f.map nD))) := rfl
  rw [e1, show flat (nD a) = true from rfl, flat_nats] at h
  rw [e2, show flat (nD a) = true from rfl, flat_natsT]
  exact h
theorem nin_natsT (a : Nat) (f : List Nat) : opNin [nD a, .tuple (f.map nD)] = some (.shr (.bool (!decide (a ∈ f)))) := by
  have h := nin_nats a f
  have e1 : opNin [nD a, .list (f.map nD)] = b2o (flat (nD a) && flat (.list (f.map nD))) (rbool (!anyEq (nD a) (f.map nD))) := rfl
  have e2 : opNin [nD a, .tuple (f.map nD)] = b2o (flat (nD a) && flat (.tuple (f.map nD))) (rbool (!anyEq (nD a) (f.map nD))) := rfl
  rw [e1, show flat (nD a) = true from rfl, flat_nats] at h
  rw [e2, show flat (nD a) = true from rfl, flat_natsT]
  exact h
theorem cut_take {α : Type} (g : α → Ev.D) (ls : List α) (m : Nat) : cut (ls.map g) none (some (m : Int)) = (ls.take m).map g := by
  have e : ¬ ((m : Int) < 0) := by omega
  simp only [cut, six, e, if_false, Int.toNat_natCast, List.length_map, List.drop_zero, Nat.sub_zero]
  rw [List.map_take, List.take_eq_take_iff]
  simp
def dupB (ks : List Nat) (m : Nat) : Bool := (List.range m).any fun i => decide (ks.getD i 0 ∈ ks.take i)
theorem dup_any (ks : List Nat) (m : Nat) (hm : m ≤ ks.length) : dupB ks m = !decide (ks.take m).Nodup := by
  induction m with
  | zero => simp [dupB]
  | succ m ih =>
    have ih := ih (by omega)
    have hlt : m < ks.length := by omega
    have e : ks.take (m + 1) = ks.take m ++ [ks.getD m 0] := by
      rw [List.take_add_one, List.getElem?_eq_getElem hlt]; simp [hlt]
    have e1 : dupB ks (m + 1) = (dupB ks m || decide (ks.getD m 0 ∈ ks.take m)) := by
      simp [dupB, List.range_succ, List.any_append]
    rw [e1, ih, e]
    clear e1 e
    generalize ks.getD m 0 = z
    by_cases q1 : (ks.take m).Nodup
    · by_cases q2 : z ∈ ks.take m
      · have : ¬ (ks.take m ++ [z]).Nodup := fun h => (List.nodup_append.1 h).2.2 _ q2 _ (by simp) rfl
        simp [q1, q2, this]
      · have : (ks.take m ++ [z]).Nodup := List.nodup_append.2 ⟨q1, by simp, by intro a ha b hb; simp only [List.mem_singleton] at hb; subst hb; rintro rfl; exact q2 ha⟩
        simp [q1, q2, this]
    · have : ¬ (ks.take m ++ [z]).Nodup := fun h => q1 (List.nodup_append.1 h).1
      simp [q1, this]
def NoR (ls : List (Nat × Nat)) (ks us : List Nat) (j : Nat) : Prop := ∀ w ∈ us.take j, ringAt ls ks w = false
def NumOk (c : Calls) : Prop := ∀ d a b, noDic d → c x.is_number [d, .int a, .int b] = .ok (.shr (.bool (isNum d a b))) []
def AlongOk (c : Calls) : Prop := ∀ (n : Nat) (ls : List (Nat × Nat)) (ks : List Nat) (u : Nat), (∀ k ∈ ks, k < ls.length) → ks.length ≤ 1000 → c x.nodes_along [meshD n ls, .tuple (ks.map nD), .int u] = match along ls u ks with
      | some vs => .ok (.own (.list (vs.map nD))) []
      | none => .ok (.shr .none) []
theorem all_isNum (ls : List (Nat × Nat)) (ks : List Nat) (hks : ∀ k ∈ ks, k < ls.length) : (ks.all fun k => isNum (nD k) 0 ((ls.length : Int) - 1)) = true := by
  rw [List.all_eq_true]
  intro k hk
  have := hks k hk
  simp [isNum, nD]; omega
theorem run_is_ring (c c' : Calls) (t : List Calls) (hn : NumOk x c') (ha : AlongOk x c) (n : Nat) (ls : List (Nat × Nat)) (ks : List Nat) (hks : ∀ k ∈ ks, k < ls.length) (hl : ks.length ≤ 1000) :
    runDef (c :: c' :: t) ⟨6, [false, false], b_is_ring x⟩ [meshD n ls, .tuple (ks.map nD)] = .ok (.shr (.bool (ringB ls ks))) [] := by
  simp [run_eq, parS, b_is_ring, isTy]
  by_cases q : ks.length < 2
  · have : ringB ls ks = false := by
      have : ¬ 2 ≤ ks.length := by omega
      simp [ringB, this]
    have q2 : ((ks.length : Int) < 2) := by omega
    simp [q2, this]
  · have q2 : ¬ ((ks.length : Int) < 2) := by omega
    have q3 : 2 ≤ ks.length := by omega
    simp [q2]
    rw [all_val nD (fun k => isNum (nD k) 0 ((ls.length : Int) - 1)) ks (by simp) (by rfl) (by rfl) (by
      intro k hk
      simp [idx_mesh1, hn _ _ _ (show noDic (nD k) from trivial)])]
    simp [all_isNum ls ks hks]
    rw [any_val (fun k : Nat => .int (k : Nat)) (fun i => decide (ks.getD i 0 ∈ ks.take i)) (List.range ks.length) (by simp [show ks.length ≤ 1000000 by omega]) (by rfl) (by rfl) (by
      intro i hi
      have hi := List.mem_range.1 hi
      have e1 : item (ks.map nD) (i : Int) = some (nD (ks.getD i 0)) := by rw [item_n _ i (by simpa using hi)]; simp [hi]
      have e2 := cut_take nD ks i
      have e3 := inn_natsT (ks.getD i 0) (ks.take i)
      generalize ks.getD i 0 = w at *
      simp [e1, e2, e3, -List.map_take])]
    have ed := dup_any ks ks.length (Nat.le_refl _)
    rw [List.take_length, dupB] at ed
    rw [ed]
    by_cases q4 : ks.Nodup
    · simp [q4]
      have hall : (ks.all fun k => decide (k < ls.length)) = true := by
        rw [List.all_eq_true]; intro k hk; exact decide_eq_true (hks k hk)
      have hB : ringB ls ks = (ringAt ls ks (en ls (ks.headD 0)).1 || ringAt ls ks (en ls (ks.headD 0)).2) := by
        simp only [ringB, decide_eq_true q3, hall, decide_eq_true q4, Bool.true_and]
      rw [hB]
      obtain ⟨k0, kr, hk0⟩ : ∃ k0 kr, ks = k0 :: kr := by
        cases ks with
        | nil => simp at q3
        | cons a b => exact ⟨a, b, rfl⟩
      have hk0l : k0 < ls.length := hks k0 (by rw [hk0]; simp)
      have i0 : item (ks.map nD) 0 = some (.int (k0 : Nat)) := by rw [hk0, List.map_cons, item_0]; rfl
      have i1 : item (ls.map lineD) (k0 : Int) = some (lineD (en ls k0)) := by rw [item_n _ k0 (by simpa using hk0l)]; simp [en, hk0l]
      have hd0 : ks.headD 0 = k0 := by rw [hk0]; rfl
      rw [hd0]
      obtain ⟨u1, u2, hu⟩ : ∃ u1 u2, en ls k0 = (u1, u2) := ⟨_, _, rfl⟩
      rw [hu] at i1 ⊢
      clear hB hall ed hd0
      refine for_ret (Q := fun o => fin [false, false] o = .ok (.shr (.bool (ringAt ls ks u1 || ringAt ls ks u2))) []) (fun j r => NoR ls ks [u1, u2] j ∧ r = [.shr (meshD n ls), .shr (.tuple (ks.map nD)), .non, .non, .non, .non])
        (fun u : Nat => .int (u : Nat)) [u1, u2] (by simp [idx_mesh1, i0, i1, lineD]) ⟨by intro w hw; simp at hw, rfl⟩ ?_ ?_
      · rintro j u _ hu2 ⟨hj, rfl⟩
        have hmem : u = u1 ∨ u = u2 := by simpa using List.mem_of_getElem? hu2
        have e2 : [u1, u2].take (j + 1) = [u1, u2].take j ++ [u] := by rw [List.take_add_one, hu2]; rfl
        have hal := ha n ls ks u hks hl
        have hnext : ringAt ls ks u = false → NoR ls ks [u1, u2] (j + 1) := by
          intro h w hw
          rw [e2] at hw
          rcases List.mem_append.1 hw with hw | hw
          · exact hj w hw
          · rw [List.mem_singleton.1 hw]; exact h
        cases hv : along ls u ks with
        | none =>
          rw [hv] at hal
          have hr : ringAt ls ks u = false := by rw [ringAt, hv]
          simp [hal]
          exact hnext hr
        | some vs =>
          rw [hv] at hal
          have hlen := along_len hv
          obtain ⟨a, w, haw⟩ : ∃ a w, vs = a ++ [w] := ⟨vs.dropLast, vs.getLast (by intro e; rw [e] at hlen; simp at hlen), (List.dropLast_concat_getLast _).symm⟩
          have hr : ringAt ls ks u = (decide (w = u) && decide (vs.take ks.length).Nodup) := by
            have hla : ks.length = a.length := by rw [haw] at hlen; simp at hlen; omega
            rw [ringAt, hv, haw, hla]; simp
          have i2 : item (vs.map nD) (-1) = some (.int (w : Nat)) := by rw [haw]; exact item_lastD a w
          by_cases q5 : w = u
          · simp [hal, i2, q5]
            rw [any_val (fun k : Nat => .int (k : Nat)) (fun i => decide (vs.getD i 0 ∈ vs.take i)) (List.range ks.length) (by simp [show ks.length ≤ 1000000 by omega]) (by rfl) (by rfl) (by
              intro i hi
              have hi := List.mem_range.1 hi
              have e1 : item (vs.map nD) (i : Int) = some (nD (vs.getD i 0)) := by rw [item_n _ i (by simp; omega)]; simp [show i < vs.length by omega]
              have e2 := cut_take nD vs i
              have e3 := inn_nats (vs.getD i 0) (vs.take i)
              generalize vs.getD i 0 = z at *
              simp [e1, e2, e3, -List.map_take])]
            have ed := dup_any vs ks.length (by omega)
            rw [dupB] at ed
            rw [ed]
            by_cases q6 : (vs.take ks.length).Nodup
            · have hr' : ringAt ls ks u = true := by rw [hr]; simp [q5, q6]
              simp [q6]
              rcases hmem with rfl | rfl
              · simp [hr']
              · simp [hr']
            · have hr' : ringAt ls ks u = false := by rw [hr]; simp [q6]
              simp [q6]
              exact hnext hr'
          · have hr' : ringAt ls ks u = false := by rw [hr]; simp [q5]
            have q5' : ¬ (w : Int) = u := by omega
            simp [hal, i2, q5']
            exact hnext hr'
      · rintro _ ⟨hj, rfl⟩
        have h1 := hj u1 (by simp)
        have h2 := hj u2 (by simp)
        simp [h1, h2]
    · have : ringB ls ks = false := by simp [ringB, q4]
      simp [q4, this]
end M
end
section
set_option linter.all false
set_option maxRecDepth 100000
namespace M
open PySem Ev
variable (x : Ix)
def ringBad (L : Nat) : Ev.D → Bool
  | .tuple xs => xs.any fun v => !isNum v 0 ((L : Int) - 1)
  | _ => true
theorem run_is_ring_bad (c c' : Calls) (t : List Calls) (hn : NumOk x c') (n : Nat) (ls : List (Nat × Nat)) (v : Ev.D) (hv : v.canLay0 = true) (hb : ringBad ls.length v = true) :
    runDef (c :: c' :: t) ⟨6, [false, false], b_is_ring x⟩ [meshD n ls, v] = .ok (.shr (.bool false)) [] := by
  cases v with
  | dict k => exact (cl_noDic hv).elim
  | tuple xs =>
    have hx := cl_tup hv
    simp [run_eq, parS, b_is_ring, isTy]
    by_cases q : ((xs.length : Int) < 2)
    · simp [q]
    · simp [q]
      rw [all_val (fun v => v) (fun v => isNum v 0 ((ls.length : Int) - 1)) xs (by simp) (by rfl) (by rfl) (by
        intro v hv
        simp [idx_mesh1, hn _ _ _ (cl_noDic (hx v hv))])]
      have : (xs.all fun v => isNum v 0 ((ls.length : Int) - 1)) = false := by
        simp only [ringBad] at hb
        rw [List.any_eq_true] at hb
        obtain ⟨v, hv, hb⟩ := hb
        rw [List.all_eq_false]
        exact ⟨v, hv, by simpa using hb⟩
      simp [this]
  | _ => simp [run_eq, parS, b_is_ring, isTy]
theorem sum_line (p : Nat × Nat) : opSum [lineD p] = some (.shr (.int ((p.1 : Int) + p.2))) := by
  simp [opSum, lineD, intsOf]
theorem far_sum {ls : List (Nat × Nat)} {u k : Nat} (h : at_ ls u k) : ((en ls k).1 : Int) + (en ls k).2 - u = (far ls u k : Nat) := by
  simp only [at_, far] at *
  split <;> omega
/-- how many ways there can be -/
theorem ways_len (ls : List (Nat × Nat)) (goal : Nat) (hL : ls.length ≤ 9) : ∀ (m : Nat) (row lines : List Nat), (waysF ls goal m row lines).length ≤ 9 ^ (m - 1)
  | 0, _, _ => by simp [waysF]
  | m + 1, row, lines => by
    rw [waysF]
    split
    · simpa using Nat.one_le_pow _ _ (by omega)
    · rw [List.length_flatMap]
      have key : ∀ (l : List Nat) (f : Nat → List (List Nat)) (b : Nat), (∀ k, (f k).length ≤ b) → (l.map fun k => (f k).length).sum ≤ l.length * b := by
        intro l f b hb
        induction l with
        | nil => simp
        | cons a l ih => have := hb a; simp [Nat.add_mul]; omega
      cases m with
      | zero =>
        have := key (List.range ls.length) (fun k => if at_ ls (lastN row) k ∧ far ls (lastN row) k ∉ row then waysF ls goal 0 (row ++ [far ls (lastN row) k]) (lines ++ [k]) else []) 0 (by intro k; split <;> simp [waysF])
        simp at this ⊢
        omega
      | succ m =>
        have := key (List.range ls.length) (fun k => if at_ ls (lastN row) k ∧ far ls (lastN row) k ∉ row then waysF ls goal (m + 1) (row ++ [far ls (lastN row) k]) (lines ++ [k]) else []) (9 ^ m) (by
          intro k
          split
          · exact ways_len ls goal hL (m + 1) _ _
          · simp)
        simp only [List.length_range] at this
        have h2 : ls.length * 9 ^ m ≤ 9 * 9 ^ m := Nat.mul_le_mul_right _ hL
        have h3 : 9 ^ (m + 1 + 1 - 1) = 9 * 9 ^ m := by rw [show m + 1 + 1 - 1 = m + 1 by omega, Nat.pow_succ, Nat.mul_comm]
        rw [h3]
        exact Nat.le_trans this h2
def WaysOk (c : Calls) (m : Nat) : Prop := ∀ (n : Nat) (ls : List (Nat × Nat)) (goal : Nat) (pre : List Nat) (u : Nat) (lines : List Nat), n ≤ 6 → ls.length ≤ 9 → goodL n ls → (pre ++ [u]).Nodup → (∀ w ∈ pre ++ [u], w < n) → n ≤ m + pre.length → m ≤ 6 → lines.length ≤ 1000 - m →
  c x.law_ways [meshD n ls, .list ((pre ++ [u]).map nD), .int goal, .list (lines.map nD)] = .ok (.own (.list ((waysF ls goal m (pre ++ [u]) lines).map natsD))) []
theorem run_law_ways (c : Calls) (t : List Calls) (m : Nat) (hc : 0 < m → WaysOk x c (m - 1)) (n : Nat) (ls : List (Nat × Nat)) (goal : Nat) (pre : List Nat) (u : Nat) (lines : List Nat) (h6 : n ≤ 6) (hL : ls.length ≤ 9) (hg : goodL n ls) (hnd : (pre ++ [u]).Nodup) (hlt : ∀ w ∈ pre ++ [u], w < n) (hm : n ≤ m + pre.length) (hm6 : m ≤ 6) (hll : lines.length ≤ 1000 - m) :
    runDef (c :: t) ⟨7, [false, false, false, false], b_law_ways x⟩ [meshD n ls, .list ((pre ++ [u]).map nD), .int goal, .list (lines.map nD)] = .ok (.own (.list ((waysF ls goal m (pre ++ [u]) lines).map natsD))) [] := by
  have hb0 := nodup_bound hnd hlt
  have hb1 : pre.length + 1 ≤ n := by simpa using hb0
  obtain ⟨m, rfl⟩ : ∃ k, m = k + 1 := ⟨m - 1, by omega⟩
  have hc := hc (by omega)
  rw [show m + 1 - 1 = m by omega] at hc
  generalize hrow : pre ++ [u] = row at *
  have hlast : lastN row = u := by rw [← hrow]; exact lastN_snoc pre u
  have i1 : item (row.map nD) (-1) = some (.int (u : Nat)) := by rw [← hrow]; exact item_lastD pre u
  simp [run_eq, parS, b_law_ways]
  rw [waysF, hlast]
  by_cases q : u = goal
  · simp [i1, q, natsD, nD]
  · have q' : ¬ (u : Int) = goal := by omega
    simp [i1, q', q]
    refine for_inv (Q := fun o => fin [false, false, false, false] o = _) (fun j r => r = [.shr (meshD n ls), .shr (.list (row.map nD)), .shr (.int goal), .shr (.list (lines.map nD)), .hld false false (.list (((List.range j).flatMap fun k => if at_ ls u k ∧ far ls u k ∉ row then waysF ls goal m (row ++ [far ls u k]) (lines ++ [k]) else []).map natsD)), .non, .non])
      (fun k : Nat => .int (k : Nat)) (List.range ls.length) (by simp [idx_mesh1, show ls.length ≤ 1000000 by omega]) rfl ?_ ?_
    · rintro j k _ hk rfl
      obtain ⟨hk1, rfl⟩ : j < ls.length ∧ k = j := by
        obtain ⟨h1, h2⟩ := List.getElem?_eq_some_iff.1 hk; simp at h1 h2; exact ⟨h1, h2.symm⟩
      have i2 : item (ls.map lineD) (k : Int) = some (lineD (en ls k)) := by rw [item_n _ k (by simpa using hk1)]; simp [en, hk1]
      have i3 := inn_line u (en ls k)
      rw [touch_at] at i3
      have hlen : ((List.range k).flatMap fun k => if at_ ls u k ∧ far ls u k ∉ row then waysF ls goal m (row ++ [far ls u k]) (lines ++ [k]) else []).length ≤ 9 * 9 ^ 6 := by
        have key : ∀ (l : List Nat), (l.flatMap fun k => if at_ ls u k ∧ far ls u k ∉ row then waysF ls goal m (row ++ [far ls u k]) (lines ++ [k]) else []).length ≤ l.length * 9 ^ 6 := by
          intro l
          induction l with
          | nil => simp
          | cons a l ih =>
            rw [List.flatMap_cons, List.length_append, List.length_cons, Nat.add_mul]
            have h1 : (if at_ ls u a ∧ far ls u a ∉ row then waysF ls goal m (row ++ [far ls u a]) (lines ++ [a]) else []).length ≤ 9 ^ 6 := by
              split
              · exact Nat.le_trans (ways_len ls goal hL m _ _) (Nat.pow_le_pow_right (by omega) (by omega))
              · simp
            omega
        have := key (List.range k)
        rw [List.length_range] at this
        exact Nat.le_trans this (Nat.mul_le_mul_right _ (by omega))
      rw [List.range_succ, List.flatMap_append]
      generalize ((List.range k).flatMap fun k => if at_ ls u k ∧ far ls u k ∉ row then waysF ls goal m (row ++ [far ls u k]) (lines ++ [k]) else []) = acc at *
      by_cases q1 : at_ ls u k
      · have hs := far_sum q1
        have i4 := sum_line (en ls k)
        have i5 := nin_nats (far ls u k) row
        by_cases q2 : far ls u k ∈ row
        · simp only [nD] at i5
          simp [idx_mesh1, i1, i2, i3, q1, i4, hs, i5, q2]
        · have hnd2 : (row ++ [far ls u k]).Nodup := List.nodup_append.2 ⟨hnd, by simp, by intro a ha b hb; simp only [List.mem_singleton] at hb; subst hb; rintro rfl; exact q2 ha⟩
          have hw := hc n ls goal row (far ls u k) (lines ++ [k]) h6 hL hg hnd2 (by
            intro w hw
            rcases List.mem_append.1 hw with hw | hw
            · exact hlt w hw
            · rw [List.mem_singleton.1 hw]; exact far_lt hg hk1) (by rw [← hrow]; simp; omega) (by omega) (by simp; omega)
          have hrl : row.length ≤ 6 := by omega
          have hbw := ways_len ls goal hL m (row ++ [far ls u k]) (lines ++ [k])
          have hbw2 : (waysF ls goal m (row ++ [far ls u k]) (lines ++ [k])).length ≤ 9 ^ 6 := Nat.le_trans hbw (Nat.pow_le_pow_right (by omega) (by omega))
          generalize hW : waysF ls goal m (row ++ [far ls u k]) (lines ++ [k]) = W at *
          have a1 : opAdd [.list (row.map nD), .list [.int (far ls u k : Nat)]] = some (.own (.list ((row ++ [far ls u k]).map nD))) := by
            have : decide ((row.map nD).length + [PyData.int (far ls u k : Nat)].length ≤ mAx) = true := decide_eq_true (by simp [mAx]; omega)
            simp only [opAdd, this, b2o, if_true, List.map_append]; rfl
          have a2 : opAdd [.list (lines.map nD), .list [.int (k : Nat)]] = some (.own (.list ((lines ++ [k]).map nD))) := by
            have : decide ((lines.map nD).length + [PyData.int (k : Nat)].length ≤ mAx) = true := decide_eq_true (by simp [mAx]; omega)
            simp only [opAdd, this, b2o, if_true, List.map_append]; rfl
          have a3 : opAdd [.list (acc.map natsD), .list (W.map natsD)] = some (.own (.list ((acc ++ W).map natsD))) := by
            have : decide ((acc.map natsD).length + (W.map natsD).length ≤ mAx) = true := decide_eq_true (by
              have : 9 * 9 ^ 6 + 9 ^ 6 ≤ 16777216 := by decide
              simp only [List.length_map, mAx]; omega)
            simp only [opAdd, this, b2o, if_true, List.map_append]
          simp only [nD] at i5
          simp [idx_mesh1, i1, i2, i3, q1, i4, hs, i5, q2, a1, a2, hw, a3, hW, -List.map_append]
      · simp [idx_mesh1, i1, i2, i3, q1]
    · rintro _ rfl
      simp
end M
end
section
set_option linter.all false
set_option maxRecDepth 100000
namespace M
open PySem Ev
variable (x : Ix)
theorem fm_congr {α β : Type} {f g : α → Option β} {l : List α} (h : ∀ x ∈ l, f x = g x) : l.filterMap f = l.filterMap g := by
  induction l with
  | nil => rfl
  | cons x xs ih => rw [List.filterMap_cons, List.filterMap_cons, h x (by simp), ih fun y hy => h y (by simp [hy])]
theorem fm_filter {α β : Type} (p : α → Bool) (g : α → β) (l : List α) : (l.filterMap fun a => if p a = true then some (g a) else none) = (l.filter p).map g := by
  induction l with
  | nil => rfl
  | cons a l ih => cases q : p a <;> simp [q, ih]
theorem flatMap_len {α β : Type} (l : List α) (f : α → List β) (b : Nat) (h : ∀ a ∈ l, (f a).length ≤ b) : (l.flatMap f).length ≤ l.length * b := by
  induction l with
  | nil => simp
  | cons a l ih =>
    have h1 := h a (by simp)
    have h2 := ih fun c hc => h c (by simp [hc])
    rw [List.flatMap_cons, List.length_append, List.length_cons, Nat.add_mul]
    omega
def ringK (n : Nat) (ls : List (Nat × Nat)) (k : Nat) : List (List Nat) := ((waysF ls (en ls k).2 n [(en ls k).1] []).filter fun way => !decide (k ∈ way)).map fun way => k :: way.reverse
theorem ringK_len (n : Nat) (ls : List (Nat × Nat)) (k : Nat) (hL : ls.length ≤ 9) (hn : n ≤ 6) : (ringK n ls k).length ≤ 9 ^ 5 := by
  rw [ringK, List.length_map]
  refine Nat.le_trans (List.length_filter_le _ _) (Nat.le_trans (ways_len ls _ hL n _ _) (Nat.pow_le_pow_right (by omega) (by omega)))
theorem way_len {n : Nat} {ls : List (Nat × Nat)} (hg : goodL n ls) {k : Nat} (hk : k < ls.length) {way : List Nat} (h : way ∈ waysF ls (en ls k).2 n [(en ls k).1] []) : way.length ≤ n := by
  have hgk := en_good hg hk
  obtain ⟨js, vs, e, h3, _, h5, h6⟩ := (mem_ways hg (en ls k).2 n [] (en ls k).1 [] _ (by simp) (by simp; omega) (by simp)).1 h
  have e : way = js := by simpa using e
  subst e
  have h1 := along_len h3
  have h2 := nodup_bound (f := vs) (n := n) (by simpa using h5) (by
    intro w hw
    have : ∀ (ks : List Nat) (u : Nat) (vs : List Nat), u < n → (∀ k ∈ ks, k < ls.length) → along ls u ks = some vs → ∀ w ∈ vs, w < n := by
      intro ks
      induction ks with
      | nil => intro u vs hu _ ha w hw; cases ha; rw [List.mem_singleton.1 hw]; exact hu
      | cons k ks ih =>
        intro u vs hu hks ha w hw
        obtain ⟨_, ws, h2, rfl⟩ := along_cons.1 ha
        rcases List.mem_cons.1 hw with rfl | hw
        · exact hu
        · exact ih _ _ (far_lt hg (hks k (by simp))) (fun j hj => hks j (by simp [hj])) h2 w hw
    exact this way (en ls k).1 vs (by omega) h6 h3 w hw)
  omega
def accF (acc : List (List Nat)) (k : Nat) (W : List (List Nat)) (i : Nat) : List (List Nat) := acc ++ ((W.take i).filter fun way => !decide (k ∈ way)).map fun way => k :: way.reverse
theorem accF_0 (acc : List (List Nat)) (k : Nat) (W : List (List Nat)) : accF acc k W 0 = acc := by simp [accF]
theorem accF_s {acc : List (List Nat)} {k : Nat} {W : List (List Nat)} {i : Nat} {way : List Nat} (hi : W[i]? = some way) : accF acc k W (i + 1) = if k ∈ way then accF acc k W i else accF acc k W i ++ [k :: way.reverse] := by
  have e2 : W.take (i + 1) = W.take i ++ [way] := by rw [List.take_add_one, hi]; rfl
  rw [accF, e2, List.filter_append, List.map_append, ← List.append_assoc, ← accF]
  by_cases q : k ∈ way <;> simp [q]
theorem accF_len (acc : List (List Nat)) (k : Nat) (W : List (List Nat)) (i : Nat) : (accF acc k W i).length ≤ acc.length + W.length := by
  have h1 := List.length_filter_le (fun way => !decide (k ∈ way)) (W.take i)
  have h2 : (W.take i).length ≤ W.length := by rw [List.length_take]; omega
  rw [accF, List.length_append, List.length_map]; omega
theorem run_law_rings (c : Calls) (t : List Calls) (n : Nat) (hc : WaysOk x c n) (ls : List (Nat × Nat)) (h6 : n ≤ 6) (hL : ls.length ≤ 9) (hg : goodL n ls) :
    runDef (c :: t) ⟨6, [false], b_law_rings x⟩ [meshD n ls] = .ok (.own (.list ((ringsF n ls).map fun r => .tuple (r.map nD)))) [] := by
  simp [run_eq, parS, b_law_rings]
  refine for_inv (Q := fun o => fin [false] o = _) (fun j r => r = [.shr (meshD n ls), .hld false false (.list (((List.range j).flatMap (ringK n ls)).map fun r => .tuple (r.map nD))), .non, .non, .non, .non])
    (fun k : Nat => .int (k : Nat)) (List.range ls.length) (by simp [idx_mesh1, show ls.length ≤ 1000000 by omega]) rfl ?_ ?_
  · rintro j k _ hk rfl
    obtain ⟨hk1, rfl⟩ : j < ls.length ∧ k = j := by
      obtain ⟨h1, h2⟩ := List.getElem?_eq_some_iff.1 hk; simp at h1 h2; exact ⟨h1, h2.symm⟩
    have i2 : item (ls.map lineD) (k : Int) = some (.tuple [.int (en ls k).1, .int (en ls k).2]) := by rw [item_n _ k (by simpa using hk1)]; simp [en, hk1, lineD]
    have hgk := en_good hg hk1
    have hw := hc n ls (en ls k).2 [] (en ls k).1 [] h6 hL hg (by simp) (by simp; omega) (by simp) h6 (by simp)
    simp only [List.nil_append, List.map_cons, List.map_nil] at hw
    have hacc := flatMap_len (List.range k) (ringK n ls) (9 ^ 5) (fun a _ => ringK_len n ls a hL h6)
    rw [List.length_range] at hacc
    have hacc : ((List.range k).flatMap (ringK n ls)).length ≤ 9 * 9 ^ 5 := Nat.le_trans hacc (Nat.mul_le_mul_right _ (by omega))
    have hwl := ways_len ls (en ls k).2 hL n [(en ls k).1] []
    have hwl : (waysF ls (en ls k).2 n [(en ls k).1] []).length ≤ 9 ^ 5 := Nat.le_trans hwl (Nat.pow_le_pow_right (by omega) (by omega))
    have hwm := fun way (h : way ∈ waysF ls (en ls k).2 n [(en ls k).1] []) => way_len hg hk1 h
    rw [List.range_succ, List.flatMap_append]
    generalize (List.range k).flatMap (ringK n ls) = acc at *
    have hK : [k].flatMap (ringK n ls) = ((waysF ls (en ls k).2 n [(en ls k).1] []).filter fun way => !decide (k ∈ way)).map fun way => k :: way.reverse := by simp [ringK]
    rw [hK]
    simp only [nD] at hw
    generalize waysF ls (en ls k).2 n [(en ls k).1] [] = W at *
    generalize (en ls k).1 = u1 at *
    generalize (en ls k).2 = u2 at *
    have hK2 : (acc ++ (W.filter fun way => !decide (k ∈ way)).map fun way => k :: way.reverse) = accF acc k W W.length := by rw [accF, List.take_length]
    rw [hK2]
    have hw' : c x.law_ways [meshD n ls, .list [.int u1], .int u2, .list []] = .ok (.own (.list (W.map fun way => .tuple (way.map nD)))) [] := hw
    simp [idx_mesh1, i2]
    refine for_inv (Q := Trn _ _ _) (fun i r => r = [.shr (meshD n ls), .hld false false (.list ((accF acc k W i).map fun r => .tuple (r.map nD))), .shr (.int k), .non, .shr (.int u1), .shr (.int u2)])
      (fun way => .tuple (way.map nD)) W (by simp [hw']) (by rw [accF_0]) ?_ ?_
    · rintro i way _ hi rfl
      have hmem := List.mem_of_getElem? hi
      have hwl2 := hwm way hmem
      have i3 := nin_natsT k way
      have hb : (accF acc k W i).length < 16777216 := by
        have h1 := accF_len acc k W i
        have h3 : 9 * 9 ^ 5 + 9 ^ 5 < 16777216 := by decide
        omega
      rw [accF_s hi]
      generalize accF acc k W i = acc2 at *
      by_cases q : k ∈ way
      · simp only [nD] at i3
        simp [nD, i3, q]
      · have a1 : opAdd [.tuple [.int (k : Nat)], .tuple (way.map nD).reverse] = some (.shr (.tuple ((k :: way.reverse).map nD))) := by
          have : decide ([PyData.int (k : Nat)].length + (way.map nD).reverse.length ≤ mAx) = true := decide_eq_true (by simp [mAx]; omega)
          simp only [opAdd, this, b2o, if_true]; simp [nD]
        have a2 : mAppend (acc2.map fun r => PyData.tuple (r.map nD)) [.tuple ((k :: way.reverse).map nD)] = some (.none, (acc2 ++ [k :: way.reverse]).map fun r => PyData.tuple (r.map nD)) := by
          simp [mAppend, mAx, hb]
        simp only [nD] at i3
        simp [i3, q, a1, a2, -List.map_append, -List.map_cons, -List.map_reverse]
    · rintro _ rfl
      simp
  · rintro _ rfl
    simp
    rfl
end M
end
section
set_option linter.all false
set_option maxRecDepth 100000
namespace M
open PySem Ev
variable (x : Ix)
theorem eqv_nats (f g : List Nat) : PyData.eqvAll (f.map nD) (g.map nD) = decide (f = g) := by
  induction f generalizing g with
  | nil => cases g <;> simp [PyData.eqvAll]
  | cons x xs ih =>
    cases g with
    | nil => simp [PyData.eqvAll]
    | cons y ys =>
      simp only [List.map_cons, PyData.eqvAll, ih]
      by_cases q : x = y
      · simp [nD, PyData.eqv, q]
      · have q' : ¬ (x : Int) = y := by omega
        simp [nD, PyData.eqv, q, q']
theorem ne_natsL (f g : List Nat) : opNe [.list (f.map nD), .list (g.map nD)] = some (.shr (.bool (!decide (f = g)))) := by
  rw [ne_f, flat_nats, flat_nats]
  show some _ = _
  rw [show PyData.eqv (.list (f.map nD)) (.list (g.map nD)) = PyData.eqvAll (f.map nD) (g.map nD) from rfl, eqv_nats]
theorem eq_natsL (f g : List Nat) : opEq [.list (f.map nD), .list (g.map nD)] = some (.shr (.bool (decide (f = g)))) := by
  rw [eq_f, flat_nats, flat_nats]
  show some _ = _
  rw [show PyData.eqv (.list (f.map nD)) (.list (g.map nD)) = PyData.eqvAll (f.map nD) (g.map nD) from rfl, eqv_nats]
theorem ne_natsT (f g : List Nat) : opNe [.tuple (f.map nD), .tuple (g.map nD)] = some (.shr (.bool (!decide (f = g)))) := by
  rw [ne_f, flat_natsT, flat_natsT]
  show some _ = _
  rw [show PyData.eqv (.tuple (f.map nD)) (.tuple (g.map nD)) = PyData.eqvAll (f.map nD) (g.map nD) from rfl, eqv_nats]
theorem ne_nil (f : List Nat) : opNe [.list (f.map nD), .list []] = some (.shr (.bool (!decide (f = [])))) := ne_natsL f []
theorem eq_nil (f : List Nat) : opEq [.list (f.map nD), .list []] = some (.shr (.bool (decide (f = [])))) := eq_natsL f []
/-- where a row repeats itself -/
def dups (ks : List Nat) (m : Nat) : List Nat := (List.range m).filter fun i => decide (ks.getD i 0 ∈ ks.take i)
theorem dups_nil (ks : List Nat) (m : Nat) (hm : m ≤ ks.length) : decide (dups ks m = []) = decide (ks.take m).Nodup := by
  have h := dup_any ks m hm
  have e : dupB ks m = !decide (dups ks m = []) := by
    rw [Bool.eq_iff_iff]
    simp only [dupB, dups, List.any_eq_true, Bool.not_eq_true', decide_eq_false_iff_not, List.filter_eq_nil_iff]
    constructor
    · rintro ⟨i, hi, h⟩ hn; exact hn i hi h
    · intro hn
      exact Classical.byContradiction fun hc => hn fun i hi h => hc ⟨i, hi, h⟩
  rw [e] at h
  simpa using h
def rowOf (ls : List (Nat × Nat)) (u : Nat) (ks : List Nat) : List Nat := (along ls u ks).getD []
theorem run_law_is_ring (h : List Calls) (n : Nat) (ls : List (Nat × Nat)) (ks : List Nat) (hks : ∀ k ∈ ks, k < ls.length) (hl : ks.length ≤ 1000) :
    runDef h ⟨5, [false, false], b_law_is_ring⟩ [meshD n ls, .tuple (ks.map nD)] = .ok (.shr (.bool (ringB ls ks))) [] := by
  simp [run_eq, parS, b_law_is_ring]
  by_cases q : ks.length < 2
  · have : ringB ls ks = false := by
      have : ¬ 2 ≤ ks.length := by omega
      simp [ringB, this]
    have q2 : ((ks.length : Int) < 2) := by omega
    simp [q2, this]
  · have q2 : ¬ ((ks.length : Int) < 2) := by omega
    have q3 : 2 ≤ ks.length := by omega
    simp [q2]
    rw [comp_val nD (fun _ => none) ks (by simp) (by rfl) (by rfl) (by simp [mAx]; omega) (by
      intro k hk
      have hkl := hks k hk
      have h1 : (k : Int) < (ls.length : Int) := by omega
      simp [nD, idx_mesh1, h1, hkl])]
    simp [ne_f, PyData.eqv, PyData.eqvAll]
    have hcomp : ∀ (vs : List Nat) (i : Nat), i < vs.length → item (vs.map nD) (i : Int) = some (nD (vs.getD i 0)) := by
      intro vs i hi
      rw [item_n _ i (by simpa using hi)]; simp [hi]
    rw [comp_val (fun k : Nat => .int (k : Nat)) (fun i => if decide (ks.getD i 0 ∈ ks.take i) = true then some (nD i) else none) (List.range ks.length) (by simp [show ks.length ≤ 1000000 by omega]) (by rfl) (by rfl) (by simp [mAx]; omega) (by
      intro i hi
      have hi := List.mem_range.1 hi
      have e1 := hcomp ks i hi
      have e2 := cut_take nD ks i
      have e3 := inn_natsT (ks.getD i 0) (ks.take i)
      generalize ks.getD i 0 = w at *
      have e3' : opInn [.int (w : Nat), .tuple ((ks.take i).map nD)] = _ := e3
      simp [e1, e2, e3', nD, -List.map_take]
      split <;> rfl)]
    rw [fm_filter, ← dups]
    have ed := dups_nil ks ks.length (Nat.le_refl _)
    rw [List.take_length] at ed
    simp [ne_nil, ed]
    by_cases q4 : ks.Nodup
    · simp [q4]
      have hall : (ks.all fun k => decide (k < ls.length)) = true := by
        rw [List.all_eq_true]; intro k hk; exact decide_eq_true (hks k hk)
      have hB : ringB ls ks = (ringAt ls ks (en ls (ks.headD 0)).1 || ringAt ls ks (en ls (ks.headD 0)).2) := by
        simp only [ringB, decide_eq_true q3, hall, decide_eq_true q4, Bool.true_and]
      rw [hB]
      obtain ⟨k0, kr, hk0⟩ : ∃ k0 kr, ks = k0 :: kr := by
        cases ks with
        | nil => simp at q3
        | cons a b => exact ⟨a, b, rfl⟩
      have hk0l : k0 < ls.length := hks k0 (by rw [hk0]; simp)
      have i0 : item (ks.map nD) 0 = some (.int (k0 : Nat)) := by rw [hk0, List.map_cons, item_0]; rfl
      have i1 : item (ls.map lineD) (k0 : Int) = some (lineD (en ls k0)) := by rw [item_n _ k0 (by simpa using hk0l)]; simp [en, hk0l]
      have hd0 : ks.headD 0 = k0 := by rw [hk0]; rfl
      rw [hd0]
      obtain ⟨u1, u2, hu⟩ : ∃ u1 u2, en ls k0 = (u1, u2) := ⟨_, _, rfl⟩
      rw [hu] at i1 ⊢
      clear hB hall ed hd0
      refine for_ret (Q := fun o => fin [false, false] o = .ok (.shr (.bool (ringAt ls ks u1 || ringAt ls ks u2))) []) (fun j r => NoR ls ks [u1, u2] j ∧ r = [.shr (meshD n ls), .shr (.tuple (ks.map nD)), .non, .non, .non])
        (fun u : Nat => .int (u : Nat)) [u1, u2] (by simp [idx_mesh1, i0, i1, lineD]) ⟨by intro w hw; simp at hw, rfl⟩ ?_ ?_
      · rintro j u _ hu2 ⟨hj, rfl⟩
        have hmem : u = u1 ∨ u = u2 := by simpa using List.mem_of_getElem? hu2
        have e2 : [u1, u2].take (j + 1) = [u1, u2].take j ++ [u] := by rw [List.take_add_one, hu2]; rfl
        have hnext : ringAt ls ks u = false → NoR ls ks [u1, u2] (j + 1) := by
          intro h w hw
          rw [e2] at hw
          rcases List.mem_append.1 hw with hw | hw
          · exact hj w hw
          · rw [List.mem_singleton.1 hw]; exact h
        simp
        refine for_inv (Q := Trn _ _ _) (fun i r => r = [.shr (meshD n ls), .shr (.tuple (ks.map nD)), .shr (.int u), .hld false false (.list ((rowOf ls u (ks.take i)).map nD)), .non])
          nD ks (by simp) (by simp [rowOf, along, nD]) ?_ ?_
        · rintro i k _ hk rfl
          have hkl := hks k (List.mem_of_getElem? hk)
          have e3 : ks.take (i + 1) = ks.take i ++ [k] := by rw [List.take_add_one, hk]; rfl
          rw [e3]
          have hlen : ∀ vs, along ls u (ks.take i) = some vs → vs.length ≤ 1001 := by
            intro vs hv
            have h1 := along_len hv
            have h2 : (ks.take i).length ≤ ks.length := by rw [List.length_take]; omega
            omega
          generalize ks.take i = pk at *
          cases hv : along ls u pk with
          | none =>
            have h1 : rowOf ls u pk = [] := by rw [rowOf, hv]; rfl
            have h2 : rowOf ls u (pk ++ [k]) = [] := by rw [rowOf, along_app pk [k] hv]; rfl
            simp [h1, h2, ne_f, PyData.eqv, PyData.eqvAll]
          | some vs =>
            have hl2 := along_len hv
            obtain ⟨a, w, haw⟩ : ∃ a w, vs = a ++ [w] := ⟨vs.dropLast, vs.getLast (by intro e; rw [e] at hl2; simp at hl2), (List.dropLast_concat_getLast _).symm⟩
            have h1 : rowOf ls u pk = vs := by rw [rowOf, hv]; rfl
            have hst : rowOf ls u (pk ++ [k]) = if at_ ls w k then vs ++ [far ls w k] else [] := by
              rw [rowOf, along_step (by rw [hv, haw])]
              by_cases q : at_ ls w k <;> simp [q, haw]
            have hne : ¬ vs = [] := by rw [haw]; simp
            have i2 : item (vs.map nD) (-1) = some (.int (w : Nat)) := by rw [haw]; exact item_lastD a w
            have i3 : item (ls.map lineD) (k : Int) = some (lineD (en ls k)) := by rw [item_n _ k (by simpa using hkl)]; simp [en, hkl]
            have i4 := inn_line w (en ls k)
            rw [touch_at] at i4
            have i5 := ne_nil vs
            rw [h1]
            by_cases q : at_ ls w k
            · have hs := far_sum q
              have i6 := sum_line (en ls k)
              have a1 : opAdd [.list (vs.map nD), .list [.int (far ls w k : Nat)]] = some (.own (.list ((vs ++ [far ls w k]).map nD))) := by
                have hb := hlen vs hv
                have : decide ((vs.map nD).length + [PyData.int (far ls w k : Nat)].length ≤ mAx) = true := decide_eq_true (by simp [mAx]; omega)
                simp only [opAdd, this, b2o, if_true, List.map_append]; rfl
              simp [i5, hne, nD, idx_mesh1, i2, i3, i4, q, i6, hs, a1, hst, -List.map_append]
            · simp [i5, hne, nD, idx_mesh1, i2, i3, i4, q, hst]
        · rintro _ rfl
          rw [List.take_length]
          cases hv : along ls u ks with
          | none =>
            have h1 : rowOf ls u ks = [] := by rw [rowOf, hv]; rfl
            have hr : ringAt ls ks u = false := by rw [ringAt, hv]
            have h3 : ¬ (0 : Int) = (ks.length : Int) + 1 := by omega
            simp [h1, h3]
            exact hnext hr
          | some vs =>
            have hlen := along_len hv
            have h1 : rowOf ls u ks = vs := by rw [rowOf, hv]; rfl
            obtain ⟨a, w, haw⟩ : ∃ a w, vs = a ++ [w] := ⟨vs.dropLast, vs.getLast (by intro e; rw [e] at hlen; simp at hlen), (List.dropLast_concat_getLast _).symm⟩
            have hr : ringAt ls ks u = (decide (w = u) && decide (vs.take ks.length).Nodup) := by
              have hla : ks.length = a.length := by rw [haw] at hlen; simp at hlen; omega
              rw [ringAt, hv, haw, hla]; simp
            have i2 : item (vs.map nD) (-1) = some (.int (w : Nat)) := by rw [haw]; exact item_lastD a w
            have h3 : ((vs.length : Nat) : Int) = (ks.length : Int) + 1 := by omega
            rw [h1]
            by_cases q5 : w = u
            · simp [h3, i2, q5]
              rw [comp_val (fun k : Nat => .int (k : Nat)) (fun i => if decide (vs.getD i 0 ∈ vs.take i) = true then some (nD i) else none) (List.range ks.length) (by simp [show ks.length ≤ 1000000 by omega]) (by rfl) (by rfl) (by simp [mAx]; omega) (by
                intro i hi
                have hi := List.mem_range.1 hi
                have e1 := hcomp vs i (by omega)
                have e2 := cut_take nD vs i
                have e3 := inn_nats (vs.getD i 0) (vs.take i)
                generalize vs.getD i 0 = z at *
                have e3' : opInn [.int (z : Nat), .list ((vs.take i).map nD)] = _ := e3
                simp [e1, e2, e3', nD, -List.map_take]
                split <;> rfl)]
              rw [fm_filter, ← dups]
              have ed := dups_nil vs ks.length (by omega)
              have i6 := eq_nil (dups vs ks.length)
              rw [ed] at i6
              by_cases q6 : (vs.take ks.length).Nodup
              · have hr' : ringAt ls ks u = true := by rw [hr]; simp [q5, q6]
                simp [i6, q6]
                rcases hmem with rfl | rfl
                · simp [hr']
                · simp [hr']
              · have hr' : ringAt ls ks u = false := by rw [hr]; simp [q6]
                simp [i6, q6]
                exact hnext hr'
            · have hr' : ringAt ls ks u = false := by rw [hr]; simp [q5]
              have q5' : ¬ (w : Int) = u := by omega
              simp [h3, i2, q5']
              exact hnext hr'
      · rintro _ ⟨hj, rfl⟩
        have h1 := hj u1 (by simp)
        have h2 := hj u2 (by simp)
        simp [h1, h2]
    · have : ringB ls ks = false := by simp [ringB, q4]
      simp [q4, this]
end M
end
section
set_option linter.all false
set_option maxRecDepth 100000
namespace M
open PySem Ev
variable (x : Ix)
theorem fm_some {α β : Type} (f : α → β) (l : List α) : l.filterMap (fun x => some (f x)) = l.map f := by induction l <;> simp_all
theorem listr_n (L : Nat) (h : L ≤ 1000000) : opListr1 [.int (L : Nat)] = some (.own (.list ((List.range L).map nD))) := by
  have a : decide ((0 : Int) ≤ (L : Int)) = true := decide_eq_true (by omega)
  have b : decide ((L : Int) ≤ 10000000) = true := decide_eq_true (by omega)
  simp only [opListr1, a, b, Bool.and_self, b2o, if_true, Int.toNat_natCast, range_n]
  rfl
def mkD (L : Nat) (lab : Nat → Nat) : Ev.D := .list ((List.range L).map fun a => nD (lab a))
theorem item_mk (L : Nat) (lab : Nat → Nat) (a : Nat) (h : a < L) : item ((List.range L).map fun a => nD (lab a)) (a : Int) = some (nD (lab a)) := by
  rw [item_n _ a (by simpa using h)]; simp
theorem idx_mk (L : Nat) (lab : Nat → Nat) (a : Nat) (h : a < L) : opIdx [mkD L lab, .int (a : Nat)] = some (.shr (.int (lab a : Nat))) := by
  rw [mkD, idx_l, item_mk L lab a h]; rfl
theorem pairsU_s (n : Nat) (ls : List (Nat × Nat)) (u e : Nat) (fs : List Nat) (f : Nat) : pairsU n ls u e (fs ++ [f]) = if sameU n ls u e f then pairsU n ls u e fs ++ [(e, f)] else pairsU n ls u e fs := by
  rw [pairsU, List.filter_append, List.map_append, ← pairsU]
  cases q : sameU n ls u e f <;> simp [q]
theorem atNode_len (ls : List (Nat × Nat)) (u : Nat) : (atNode ls u).length ≤ ls.length := by
  rw [atNode, List.length_map]
  exact Nat.le_trans (List.length_filter_le _ _) (by simp)
theorem run_blocks (c : Calls) (t : List Calls) (h4 : LabOk x c) (h8 : AtOk x c) (h9 : OtherOk x c) (n : Nat) (ls : List (Nat × Nat)) (hn : n ≤ 1000) (hl : ls.length ≤ 1000) (hg : goodL n ls) :
    runDef (c :: t) ⟨13, [false], b_blocks x⟩ [meshD n ls] = .ok (.shr (.tuple ((heads n ls).map fun h => .tuple ((block n ls h).map nD)))) [] := by
  have e8 : ∀ u : Nat, c x.lines_at [meshD n ls, .int (u : Nat)] = .ok (.shr (.tuple ((atNode ls u).map nD))) [] := by
    intro u
    rw [h8 n ls u hl, linesOf_at, intsD, List.map_map]; rfl
  have e4 : ∀ u : Nat, c x.labels_of [meshD n ls, .tuple ((atNode ls u).map nD)] = .ok (.shr (intsD (labels n ls ((atNode ls u).map Int.ofNat)))) [] := by
    intro u
    have := h4 n ls ((atNode ls u).map Int.ofNat) hn hg
    rw [intsD, List.map_map] at this
    exact this
  simp [run_eq, parS, b_blocks, idx_mesh1, listr_n ls.length (by omega)]
  have e0 : (.list ((List.range ls.length).map nD) : Ev.D) = mkD ls.length (labF (pairsN n ls [])) := rfl
  rw [e0]
  refine for_inv (Q := fun o => fin [false] o = _) (fun j r => r = [.shr (meshD n ls), .hld false false (mkD ls.length (labF (pairsN n ls (List.range j)))), .non, .non, .non, .non, .non, .non, .non, .non, .non, .non, .non])
    (fun k : Nat => .int (k : Nat)) (List.range n) (by simp [idx_mesh0, show n ≤ 1000000 by omega]) rfl ?_ ?_
  · rintro j u _ hu rfl
    obtain ⟨hu1, rfl⟩ : j < n ∧ u = j := by
      obtain ⟨h1, h2⟩ := List.getElem?_eq_some_iff.1 hu; simp at h1 h2; exact ⟨h1, h2.symm⟩
    have hpn : pairsN n ls (List.range (u + 1)) = pairsN n ls (List.range u) ++ pairsE n ls u (atNode ls u) := by
      rw [pairsN, List.range_succ, List.flatMap_append, ← pairsN]; simp
    have hal := atNode_len ls u
    rw [hpn]
    generalize pairsN n ls (List.range u) = PN at *
    simp [e8, e4]
    refine for_inv (Q := Trn _ _ _) (fun i r => r = [.shr (meshD n ls), .hld false false (mkD ls.length (labF (PN ++ pairsE n ls u ((atNode ls u).take i)))), .shr (.int u), .non, .shr (intsD (labels n ls ((atNode ls u).map Int.ofNat))), .shr (.tuple ((atNode ls u).map nD)), .non, .non, .non, .non, .non, .non, .non])
      nD (atNode ls u) (by simp) (by simp [pairsE]) ?_ ?_
    · rintro i e _ he rfl
      have hem := List.mem_of_getElem? he
      obtain ⟨hel, hea⟩ := mem_atNode.1 hem
      have hpe : pairsE n ls u ((atNode ls u).take (i + 1)) = pairsE n ls u ((atNode ls u).take i) ++ pairsU n ls u e (atNode ls u) := by
        have e3 : (atNode ls u).take (i + 1) = (atNode ls u).take i ++ [e] := by rw [List.take_add_one, he]; rfl
        rw [e3, pairsE, List.flatMap_append, ← pairsE]; simp
      rw [hpe]
      generalize pairsE n ls u ((atNode ls u).take i) = PE at *
      simp
      refine for_inv (Q := Trn _ _ _) (fun i r => r = [.shr (meshD n ls), .hld false false (mkD ls.length (labF (PN ++ (PE ++ pairsU n ls u e ((atNode ls u).take i))))), .shr (.int u), .non, .shr (intsD (labels n ls ((atNode ls u).map Int.ofNat))), .shr (.tuple ((atNode ls u).map nD)), .shr (nD e), .non, .non, .non, .non, .non, .non])
        nD (atNode ls u) (by simp) (by simp [pairsU]) ?_ ?_
      · rintro i2 f _ hf rfl
        have hfm := List.mem_of_getElem? hf
        obtain ⟨hfl, hfa⟩ := mem_atNode.1 hfm
        have e3 : (atNode ls u).take (i2 + 1) = (atNode ls u).take i2 ++ [f] := by rw [List.take_add_one, hf]; rfl
        rw [e3, pairsU_s]
        have g1 := h9 n ls e hel u
        have g2 := h9 n ls f hfl u
        have g3 := idx_lab n ls ((atNode ls u).map Int.ofNat) (far ls u e) (far_lt hg hel)
        have g4 := idx_lab n ls ((atNode ls u).map Int.ofNat) (far ls u f) (far_lt hg hfl)
        have gs : sameU n ls u e f = decide (lab1 n ls ((atNode ls u).map Int.ofNat) (far ls u e) = lab1 n ls ((atNode ls u).map Int.ofNat) (far ls u f)) := rfl
        by_cases q : lab1 n ls ((atNode ls u).map Int.ofNat) (far ls u e) = lab1 n ls ((atNode ls u).map Int.ofNat) (far ls u f)
        · have gs' : sameU n ls u e f = true := by rw [gs]; exact decide_eq_true q
          rw [if_pos gs', ← List.append_assoc PE, ← List.append_assoc PN, labF_snoc]
          generalize PN ++ (PE ++ pairsU n ls u e ((atNode ls u).take i2)) = PP at *
          generalize labF PP = lab at *
          have m1 := idx_mk ls.length lab e hel
          have m2 := idx_mk ls.length lab f hfl
          obtain ⟨old, new, ho, hn2, hon⟩ : ∃ old new : Nat, (if (lab f : Int) > lab e then (lab f : Int) else lab e) = old ∧ (if (lab f : Int) < lab e then (lab f : Int) else lab e) = new ∧ (old = max (lab e) (lab f) ∧ new = min (lab e) (lab f)) := by
            refine ⟨max (lab e) (lab f), min (lab e) (lab f), ?_, ?_, rfl, rfl⟩
            · split <;> omega
            · split <;> omega
          simp only [Int.ofNat_lt, gt_iff_lt] at ho hn2
          simp [nD, g1, g2, g3, g4, q, m1, m2, ho, hn2]
          rw [comp_lk 1 (fun a : Nat => nD (lab a)) (fun a => some (nD (labF1 lab (e, f) a))) (List.range ls.length) (by simp [mkD]) (by rfl) (by rfl) (by rfl) (by simp [mAx]; omega) (by
            intro a ha
            have hl1 : labF1 lab (e, f) a = if lab a = old then new else lab a := by
              obtain ⟨h1, h2⟩ := hon
              simp only [labF1]
              split <;> split <;> omega
            by_cases q3 : lab a = old
            · simp [nD, q3, hl1]
            · have q3' : ¬ (lab a : Int) = old := by omega
              simp [nD, q3, q3', hl1]) (by rfl)]
          rw [fm_some]
          simp
          rfl
        · have gs' : ¬ sameU n ls u e f = true := by rw [gs]; simpa using q
          rw [if_neg gs']
          simp [nD, g1, g2, g3, g4, q]
      · rintro _ rfl
        rw [List.take_length]
        simp
    · rintro _ rfl
      rw [List.take_length]
      simp
  · rintro _ rfl
    rw [List.length_range, ← pairsB]
    have hc : ∀ k, labF (pairsB n ls) k = cls n ls k := fun k => rfl
    have hmk : mkD ls.length (labF (pairsB n ls)) = mkD ls.length (cls n ls) := rfl
    rw [hmk]
    have hlen : opLen [mkD ls.length (cls n ls)] = some (.shr (.int (ls.length : Nat))) := by rw [mkD, len_l]; simp
    have hix := fun k (hk : k < ls.length) => idx_mk ls.length (cls n ls) k hk
    simp
    rw [comp_val (fun k : Nat => .int (k : Nat)) (fun k => if decide (cls n ls k = k) = true then some (nD k) else none) (List.range ls.length) (by simp [hlen, show ls.length ≤ 1000000 by omega]) (by rfl) (by rfl) (by simp [mAx]; omega) (by
      intro k hk
      have hk := List.mem_range.1 hk
      by_cases q : cls n ls k = k
      · simp [hix k hk, q, nD]
      · have q' : ¬ (cls n ls k : Int) = k := by omega
        simp [hix k hk, q, q', nD])]
    rw [fm_filter, ← heads]
    simp
    rw [comp_lk 3 nD (fun h => some (.tuple ((block n ls h).map nD))) (heads n ls) (by simp) (by rfl) (by rfl) (by rfl) (by
        have := List.length_filter_le (fun k => decide (cls n ls k = k)) (List.range ls.length)
        rw [List.length_range] at this
        simp only [heads, mAx]; omega) (by
      intro h hh
      simp [nD]
      rw [comp_val (fun k : Nat => .int (k : Nat)) (fun k => if decide (cls n ls k = h) = true then some (nD k) else none) (List.range ls.length) (by simp [hlen, show ls.length ≤ 1000000 by omega]) (by rfl) (by rfl) (by simp [mAx]; omega) (by
        intro k hk
        have hk := List.mem_range.1 hk
        by_cases q : cls n ls k = h
        · simp [hix k hk, q, nD]
        · have q' : ¬ (cls n ls k : Int) = h := by omega
          simp [hix k hk, q, q', nD])]
      rw [fm_filter, ← block]
      simp [nD]) (by rfl)]
    rw [fm_some]
    simp
end M
end
section
set_option linter.all false
set_option maxRecDepth 100000
namespace K82
open PySem Ev M
def ix : Ix := { is_number := 0, joined := 1, labels_of := 2, hold_together := 3, bridges := 4, lines_at := 5, other_end := 6, cut_nodes := 7, blocks := 8, nodes_along := 9, is_ring := 10, law_draws := 11, law_take := 12, law_alike := 13, law_mesh := 14, law_ways := 15, law_is_ring := 16, law_rings := 17 }
-- law 17 [false] OK
def b_law (x : Ix) : Ev.Ss :=
  (.cons (.set (.var 1) (.call x.law_draws (.cons (.var 0) .nil)))
  (.cons (.set (.var 2) (.call x.law_mesh (.cons (.ref 1) (.cons (.cst (.int (6))) (.cons (.cst (.int (9))) .nil)))))
  (.cons (.set (.var 3) (.op .listr1 (.cons (.op .len (.cons (.op .idx (.cons (.var 2) (.cons (.cst (.int (1))) .nil))) .nil)) .nil)))
  (.cons (.set (.var 4) (.call x.law_rings (.cons (.var 2) .nil)))
  (.cons (.set (.var 5) (.op .list (.cons (.var 3) .nil)))
  (.cons (.for_ (.var 6) (.seq (.var 3))
  (.cons (.for_ (.var 10) (.seq (.var 4))
  (.cons (.set (.var 13) (.op .minl (.cons (.comp [11] (.var 11) (.seq (.var 10)) .yes (.op .idx (.cons (.var 5) (.cons (.var 11) .nil)))) .nil)))
  (.cons (.set (.var 5) (.comp [11] (.var 11) (.seq (.var 3)) .yes (.cond (.cmp .inn (.var 11) (.var 10)) (.var 13) (.op .idx (.cons (.var 5) (.cons (.var 11) .nil))))))
  .nil)))
  .nil))
  (.cons (.set (.var 7) (.op .tuple (.cons (.comp [15] (.var 15) (.seq (.var 3)) (.cmp .eq (.op .idx (.cons (.var 5) (.cons (.var 15) .nil))) (.var 15)) (.op .tuple (.cons (.comp [11] (.var 11) (.seq (.var 3)) (.cmp .eq (.op .idx (.cons (.var 5) (.cons (.var 11) .nil))) (.var 15)) (.var 11)) .nil))) .nil)))
  (.cons (.ite (.or (.not (.val (.call x.law_alike (.cons (.call x.blocks (.cons (.var 2) .nil)) (.cons (.var 7) .nil))))) (.cmp .ne (.call x.bridges (.cons (.var 2) .nil)) (.op .tuple (.cons (.comp [16] (.var 16) (.seq (.var 7)) (.cmp .eq (.op .len (.cons (.var 16) .nil)) (.cst (.int (1)))) (.op .idx (.cons (.var 16) (.cons (.cst (.int (0))) .nil)))) .nil))))
  (.cons (.ret (.cst (.bool false)))
  .nil)
  .nil)
  (.cons (.set (.var 8) (.comp [14] (.var 14) (.rng1 (.op .idx (.cons (.var 2) (.cons (.cst (.int (0))) .nil)))) (.cmp .gt (.op .len (.cons (.comp [16] (.var 16) (.seq (.var 7)) (.cmp .ne (.comp [11] (.var 11) (.seq (.var 16)) (.cmp .inn (.var 14) (.op .idx (.cons (.op .idx (.cons (.var 2) (.cons (.cst (.int (1))) .nil))) (.cons (.var 11) .nil)))) (.var 11)) (.lst .nil)) (.var 16)) .nil)) (.cst (.int (1)))) (.var 14)))
  (.cons (.ite (.cmp .ne (.call x.cut_nodes (.cons (.var 2) .nil)) (.op .tuple (.cons (.var 8) .nil)))
  (.cons (.ret (.cst (.bool false)))
  .nil)
  .nil)
  (.cons (.set (.var 9) (.op .add (.cons (.sl (.var 4) .none (.some (.cst (.int (6))))) (.cons (.comp [6] (.var 6) (.rng1 (.op .mul (.cons (.op .int (.cons (.op .ne (.cons (.op .idx (.cons (.var 2) (.cons (.cst (.int (1))) .nil))) (.cons (.tup .nil) .nil))) .nil)) (.cons (.cst (.int (6))) .nil)))) .yes (.op .tuple (.cons (.comp [11] (.var 11) (.rng1 (.op .add (.cons (.cst (.int (1))) (.cons (.call x.law_take (.cons (.ref 1) (.cons (.cst (.int (4))) .nil))) .nil)))) .yes (.call x.law_take (.cons (.ref 1) (.cons (.op .len (.cons (.op .idx (.cons (.var 2) (.cons (.cst (.int (1))) .nil))) .nil)) .nil)))) .nil))) .nil))))
  (.cons (.for_ (.var 10) (.seq (.var 9))
  (.cons (.ite (.and (.cmp .inn (.var 10) (.var 4)) (.cmp .isnt (.call x.is_ring (.cons (.var 2) (.cons (.var 10) .nil))) (.cst (.bool true))))
  (.cons (.ret (.cst (.bool false)))
  .nil)
  .nil)
  (.cons (.set (.var 11) (.call x.law_take (.cons (.ref 1) (.cons (.op .len (.cons (.var 10) .nil)) .nil))))
  (.cons (.for_ (.var 12) (.seq (.lst (.cons (.var 10) (.cons (.slr (.var 10)) (.cons (.op .add (.cons (.sl (.var 10) (.some (.var 11)) .none) (.cons (.sl (.var 10) .none (.some (.var 11))) .nil))) (.cons (.sl (.var 10) (.some (.cst (.int (1)))) .none) (.cons (.op .add (.cons (.var 10) (.cons (.sl (.var 10) .none (.some (.cst (.int (1))))) .nil))) (.cons (.op .add (.cons (.op .add (.cons (.sl (.var 10) .none (.some (.var 11))) (.cons (.tup (.cons (.call x.law_take (.cons (.ref 1) (.cons (.op .len (.cons (.op .idx (.cons (.var 2) (.cons (.cst (.int (1))) .nil))) .nil)) .nil))) .nil)) .nil))) (.cons (.sl (.var 10) (.some (.op .add (.cons (.var 11) (.cons (.cst (.int (1))) .nil)))) .none) .nil))) (.cons (.sl (.var 10) .none (.some (.cst (.int (1))))) .nil)))))))))
  (.cons (.ite (.not (.val (.call x.law_alike (.cons (.call x.is_ring (.cons (.var 2) (.cons (.var 12) .nil))) (.cons (.call x.law_is_ring (.cons (.var 2) (.cons (.var 12) .nil))) .nil)))))
  (.cons (.ret (.cst (.bool false)))
  .nil)
  .nil)
  .nil))
  (.cons (.ite (.cmp .ne (.comp [12] (.var 12) (.seq (.lst (.cons (.op .list (.cons (.var 10) .nil)) (.cons (.op .add (.cons (.var 10) (.cons (.tup (.cons (.cst .none) .nil)) .nil))) (.cons (.op .add (.cons (.var 10) (.cons (.tup (.cons (.op .len (.cons (.op .idx (.cons (.var 2) (.cons (.cst (.int (1))) .nil))) .nil)) .nil)) .nil))) (.cons (.op .add (.cons (.tup (.cons (.cst (.bool true)) .nil)) (.cons (.var 10) .nil))) (.cons (.cst .none) (.cons (.cst (.str "ring")) (.cons (.op .add (.cons (.var 10) (.cons (.tup (.cons (.op .neg (.cons (.cst (.int (1))) .nil)) .nil)) .nil))) .nil))))))))) (.cmp .isnt (.call x.is_ring (.cons (.var 2) (.cons (.var 12) .nil))) (.cst (.bool false))) (.var 12)) (.lst .nil))
  (.cons (.ret (.cst (.bool false)))
  .nil)
  .nil)
  .nil)))))
  (.cons (.ret (.op .ist (.cons (.call x.is_ring (.cons (.var 2) (.cons (.tup .nil) .nil))) (.cons (.cst (.bool false)) .nil))))
  .nil)))))))))))))
def defs : List Def := [⟨3, [false, false, false], b_is_number⟩, ⟨6, [false, false], b_joined⟩, ⟨5, [false, false], b_labels_of ix⟩, ⟨5, [false, false, false, false], b_hold_together ix⟩, ⟨3, [false], b_bridges ix⟩,
  ⟨4, [false, false], b_lines_at⟩, ⟨5, [false, false, false], b_other_end⟩, ⟨7, [false], b_cut_nodes ix⟩, ⟨13, [false], b_blocks ix⟩, ⟨5, [false, false, false], b_nodes_along ix⟩, ⟨6, [false, false], b_is_ring ix⟩,
  ⟨7, [false], b_law_draws⟩, ⟨2, [true, false], b_law_take⟩, ⟨3, [false, false], b_law_alike ix⟩, ⟨9, [true, false, false], b_law_mesh ix⟩, ⟨7, [false, false, false, false], b_law_ways ix⟩, ⟨5, [false, false], b_law_is_ring⟩, ⟨6, [false], b_law_rings ix⟩, ⟨17, [false], b_law ix⟩]
/-- the calls of a level -/
def C (m : Nat) : Calls := fun f ds => match defs[f]? with
    | some d => runDef (hist defs m) d ds
    | none => .fail
section
variable (m : Nat)
theorem c_number : NumOk ix (C m) := fun d a b hd => run_is_number (hist defs m) d a b (by rintro k rfl; exact hd)
theorem c_joined (ls : List Int) (a b : Nat) (ha : a < ls.length) (hb : b < ls.length) (hl : ls.length ≤ 1000) : C m ix.joined [.tuple (ls.map .int), .tuple [.int a, .int b]] = .ok (.shr (.tuple ((joinL ls ls[a] ls[b]).map .int))) [] :=
  run_joined (hist defs m) ls a b ha hb hl
theorem c_lab : LabOk ix (C (m + 1)) := fun n ls fs hn hg => run_labels_of ix (C m) (hist defs m) (c_joined m) n ls fs hn hg
theorem c_hold : HoldOk ix (C (m + 2)) := fun n ls fs a b hn hg ha hb => run_hold_together ix (C (m + 1)) (hist defs (m + 1)) (c_lab m) n ls fs a b hn hg ha hb
theorem c_bridges (n : Nat) (ls : List (Nat × Nat)) (hn : n ≤ 1000) (hg : goodL n ls) (hl : ls.length ≤ 1000) : C (m + 3) ix.bridges [meshD n ls] = .ok (.shr (intsD (linesOf ls fun l k => !decide (lab1 n ls [(k : Int)] l.1 = lab1 n ls [(k : Int)] l.2)))) [] :=
  run_bridges ix (C (m + 2)) (hist defs (m + 2)) (c_hold m) n ls hn hg hl
theorem c_at : AtOk ix (C m) := fun n ls v hl => run_lines_at (hist defs m) n ls v hl
theorem c_end : EndOk ix (C m) := fun n ls k hk v => run_other_end (hist defs m) n ls k hk v
theorem c_other : OtherOk ix (C m) := other_of ix (c_end m)
theorem c_cut (n : Nat) (ls : List (Nat × Nat)) (hg : goodL n ls) (hl : ls.length ≤ 1000) (hn : n ≤ 1000) : C (m + 2) ix.cut_nodes [meshD n ls] = .ok (.shr (natsD (nodesOf n (isCut n ls)))) [] :=
  run_cut_nodes ix (C (m + 1)) (hist defs (m + 1)) (c_lab m) (c_at (m + 1)) (c_end (m + 1)) n ls hg hl hn
theorem c_blocks (n : Nat) (ls : List (Nat × Nat)) (hg : goodL n ls) (hl : ls.length ≤ 1000) (hn : n ≤ 1000) : C (m + 2) ix.blocks [meshD n ls] = .ok (.shr (.tuple ((heads n ls).map fun h => .tuple ((block n ls h).map nD)))) [] :=
  run_blocks ix (C (m + 1)) (hist defs (m + 1)) (c_lab m) (c_at (m + 1)) (c_other (m + 1)) n ls hn hl hg
theorem c_along : AlongOk ix (C (m + 1)) := fun n ls ks u hks hl => run_nodes_along ix (C m) (hist defs m) (c_other m) n ls ks u hks hl
theorem c_ring (n : Nat) (ls : List (Nat × Nat)) (ks : List Nat) (hks : ∀ k ∈ ks, k < ls.length) (hl : ks.length ≤ 1000) : C (m + 3) ix.is_ring [meshD n ls, .tuple (ks.map nD)] = .ok (.shr (.bool (ringB ls ks))) [] :=
  run_is_ring ix (C (m + 2)) (C (m + 1)) (hist defs (m + 1)) (c_number (m + 1)) (c_along (m + 1)) n ls ks hks hl
theorem c_ring_bad (n : Nat) (ls : List (Nat × Nat)) (v : Ev.D) (hv : v.canLay0 = true) (hb : ringBad ls.length v = true) : C (m + 2) ix.is_ring [meshD n ls, v] = .ok (.shr (.bool false)) [] :=
  run_is_ring_bad ix (C (m + 1)) (C m) (hist defs m) (c_number m) n ls v hv hb
theorem c_draws (ns : List Int) (hl : ns.length ≤ 63) : ∃ ds : List Int, C m ix.law_draws [.dict [(.none, .list (ns.map .int))]] = .ok (.own (drD ds)) [] := run_draws (hist defs m) ns hl
theorem c_take : TakeOk ix (C m) := fun ds b hb => run_takeV (hist defs m) ds b hb
def Ht : Nat → Ev.D → Prop
  | 0, d => flat d = true ∧ kids d = []
  | k + 1, d => flat d = true ∧ (kids d).length ≤ 1000 ∧ ∀ x ∈ kids d, Ht k x
theorem c_alike (k : Nat) (d : Ev.D) (hd : Ht k d) : C (m + k + 1) ix.law_alike [d, d] = .ok (.shr (.bool true)) [] := by
  induction k generalizing d with
  | zero => exact run_alike ix (C m) (hist defs m) d hd.1 (by rw [hd.2]; simp) (by rw [hd.2]; simp)
  | succ k ih => exact run_alike ix (C (m + k + 1)) (hist defs (m + k + 1)) d hd.1 hd.2.1 (fun x hx => ih x (hd.2.2 x hx))
theorem c_law_mesh (ds : List Int) (N L : Nat) (hN : 2 ≤ N) (hN2 : N ≤ 1000) (hL : L ≤ 1000) : MeshPost N L (C (m + 1) ix.law_mesh [drD ds, .int N, .int L]) := run_law_mesh ix (C m) (hist defs m) (c_take m) ds N L hN hN2 hL
theorem c_ways (k : Nat) : WaysOk ix (C (m + 1 + k)) k := by
  induction k with
  | zero =>
    intro n ls goal pre u lines h6 hL hg hnd hlt hm hm6 hll
    exact run_law_ways ix (C m) (hist defs m) 0 (by intro h; omega) n ls goal pre u lines h6 hL hg hnd hlt hm hm6 hll
  | succ k ih =>
    intro n ls goal pre u lines h6 hL hg hnd hlt hm hm6 hll
    exact run_law_ways ix (C (m + 1 + k)) (hist defs (m + 1 + k)) (k + 1) (fun _ => ih) n ls goal pre u lines h6 hL hg hnd hlt hm hm6 hll
theorem c_rings (n : Nat) (ls : List (Nat × Nat)) (h6 : n ≤ 6) (hL : ls.length ≤ 9) (hg : goodL n ls) : C (m + 8) ix.law_rings [meshD n ls] = .ok (.own (.list ((ringsF n ls).map fun r => .tuple (r.map nD)))) [] := by
  have h : WaysOk ix (C (m + 7)) n := by
    have := c_ways (m + 6 - n) n
    rwa [show m + 6 - n + 1 + n = m + 7 by omega] at this
  exact run_law_rings ix (C (m + 7)) (hist defs (m + 7)) n h ls h6 hL hg
theorem c_law_is_ring (n : Nat) (ls : List (Nat × Nat)) (ks : List Nat) (hks : ∀ k ∈ ks, k < ls.length) (hl : ks.length ≤ 1000) : C m ix.law_is_ring [meshD n ls, .tuple (ks.map nD)] = .ok (.shr (.bool (ringB ls ks))) [] :=
  run_law_is_ring (hist defs m) n ls ks hks hl
end
end K82
end
section
set_option linter.all false
set_option maxRecDepth 100000
namespace K82
open PySem Ev M
@[simp 1100] theorem asg_mesh (ts : Tgs) (n : Nat) (ls : List (Nat × Nat)) (r : Sl) : asg (.tup ts) (.shr (meshD n ls)) r = if 2 = ts.len then asgs ts [.int n, .tuple (ls.map lineD)] r else none := by
  rw [asg]; rfl
def tupD (r : List Nat) : Ev.D := .tuple (r.map nD)
theorem intsOf_nats (f : List Nat) : intsOf (f.map nD) = some (f.map Int.ofNat) := by
  induction f with
  | nil => rfl
  | cons a f ih => simp only [List.map_cons, nD, intsOf, ih]; rfl
theorem min_nats (f : List Nat) (h : f ≠ []) : opMinl [.list (f.map nD)] = some (.shr (.int (f.min?.getD 0 : Nat))) := by
  simp only [opMinl, intsOf_nats, Option.bind_some]
  cases f with
  | nil => exact absurd rfl h
  | cons a f =>
    have key : ∀ (f : List Nat) (a : Nat), (f.map Int.ofNat).foldl min (Int.ofNat a) = Int.ofNat (f.foldl min a) := by
      intro f
      induction f with
      | nil => intro a; rfl
      | cons b f ih =>
        intro a
        rw [List.map_cons, List.foldl_cons, List.foldl_cons, ← ih]
        congr 1
        simp; omega
    simp only [List.map_cons, List.min?_cons', Option.bind_some, key, Option.getD_some]
    rfl
theorem along_lt {n : Nat} {ls : List (Nat × Nat)} (hg : goodL n ls) : ∀ {ks : List Nat} {u : Nat} {vs : List Nat}, u < n → (∀ k ∈ ks, k < ls.length) → along ls u ks = some vs → ∀ w ∈ vs, w < n := by
  intro ks
  induction ks with
  | nil => intro u vs hu _ ha w hw; cases ha; rw [List.mem_singleton.1 hw]; exact hu
  | cons k ks ih =>
    intro u vs hu hks ha w hw
    obtain ⟨_, ws, h2, rfl⟩ := along_cons.1 ha
    rcases List.mem_cons.1 hw with rfl | hw
    · exact hu
    · exact ih (far_lt hg (hks k (by simp))) (fun j hj => hks j (by simp [hj])) h2 w hw
theorem lay_nats (f : List Nat) : (tupD f).canLay0 = true := by
  have := flat_natsT f
  simp only [flat, Bool.and_eq_true] at this
  exact this.1
theorem depth_nats (f : List Nat) : PyData.depthAll (f.map nD) ≤ 1 := by
  induction f with
  | nil => simp [PyData.depthAll]
  | cons x xs ih => simp [PyData.depthAll, PyData.depth, nD, ih]
theorem ht_nats (f : List Nat) (h : f.length ≤ 1000) : Ht 1 (tupD f) := by
  refine ⟨flat_natsT f, by simpa [tupD, kids] using h, ?_⟩
  intro x hx
  obtain ⟨k, _, rfl⟩ := List.mem_map.1 (show x ∈ f.map nD from hx)
  exact ⟨rfl, rfl⟩
theorem flat_rows (fss : List (List Nat)) : flat (.tuple (fss.map tupD)) = true ∧ flat (.list (fss.map tupD)) = true := by
  have a : PyData.canLayAll0 (fss.map tupD) = true := by
    induction fss with
    | nil => rfl
    | cons x xs ih => simp [PyData.canLayAll0, lay_nats, ih]
  have b : PyData.depthAll (fss.map tupD) ≤ 2 := by
    clear a
    induction fss with
    | nil => simp [PyData.depthAll]
    | cons x xs ih =>
      have := depth_nats x
      have e : PyData.depth (tupD x) = PyData.depthAll (x.map nD) + 1 := rfl
      simp only [List.map_cons, PyData.depthAll, e]; omega
  constructor
  · have c : PyData.depth (.tuple (fss.map tupD)) = PyData.depthAll (fss.map tupD) + 1 := rfl
    rw [flat, show PyData.canLay0 (.tuple (fss.map tupD)) = true from a, c, Bool.true_and]
    exact decide_eq_true (by omega)
  · have c : PyData.depth (.list (fss.map tupD)) = PyData.depthAll (fss.map tupD) + 1 := rfl
    rw [flat, show PyData.canLay0 (.list (fss.map tupD)) = true from a, c, Bool.true_and]
    exact decide_eq_true (by omega)
theorem ht_rows (fss : List (List Nat)) (h : fss.length ≤ 1000) (h2 : ∀ f ∈ fss, f.length ≤ 1000) : Ht 2 (.tuple (fss.map tupD)) := by
  refine ⟨(flat_rows fss).1, by simpa [kids] using h, ?_⟩
  intro x hx
  obtain ⟨f, hf, rfl⟩ := List.mem_map.1 (show x ∈ fss.map tupD from hx)
  exact ht_nats f (h2 f hf)
theorem eqv_empty (xs : List Ev.D) : PyData.eqvAll xs [] = decide (xs = []) := by
  cases xs <;> simp [PyData.eqvAll]
theorem ne_lines (ls : List (Nat × Nat)) : opNe [.tuple (ls.map lineD), .tuple []] = some (.shr (.bool (!decide (ls = [])))) := by
  have a : PyData.canLayAll0 (ls.map lineD) = true := by
    induction ls with
    | nil => rfl
    | cons x xs ih => simp [PyData.canLayAll0, PyData.canLay0, lineD, ih]
  have b : PyData.depthAll (ls.map lineD) ≤ 2 := by
    clear a
    induction ls with
    | nil => simp [PyData.depthAll]
    | cons x xs ih => simp [PyData.depthAll, PyData.depth, lineD]; omega
  have f : flat (.tuple (ls.map lineD)) = true := by
    have c : PyData.depth (.tuple (ls.map lineD)) = PyData.depthAll (ls.map lineD) + 1 := rfl
    rw [flat, show PyData.canLay0 (.tuple (ls.map lineD)) = true from a, c, Bool.true_and]
    exact decide_eq_true (by omega)
  rw [ne_f, f, show flat (.tuple []) = true from rfl]
  have : PyData.eqv (.tuple (ls.map lineD)) (.tuple []) = decide (ls = []) := by
    show PyData.eqvAll (ls.map lineD) [] = _
    rw [eqv_empty]; cases ls <;> simp
  rw [this]; rfl
theorem inn_rows (s : List Nat) (fss : List (List Nat)) : opInn [tupD s, .list (fss.map tupD)] = some (.shr (.bool (decide (s ∈ fss)))) := by
  have f1 : flat (tupD s) = true := flat_natsT s
  have f2 := (flat_rows fss).2
  have e1 : opInn [tupD s, .list (fss.map tupD)] = b2o (flat (tupD s) && flat (.list (fss.map tupD))) (rbool (anyEq (tupD s) (fss.map tupD))) := rfl
  have e2 : anyEq (tupD s) (fss.map tupD) = decide (s ∈ fss) := by
    clear e1 f2
    induction fss with
    | nil => rfl
    | cons y ys ih =>
      have h1 : anyEq (tupD s) ((y :: ys).map tupD) = (PyData.eqv (tupD y) (tupD s) || anyEq (tupD s) (ys.map tupD)) := rfl
      have h2 : PyData.eqv (tupD y) (tupD s) = decide (y = s) := eqv_nats y s
      rw [h1, h2, ih]
      by_cases q : y = s
      · simp [q]
      · have q' : ¬ s = y := fun e => q e.symm
        simp [q, q']
  rw [e1, f1, f2, e2]; rfl
theorem cut_drop {α : Type} (g : α → Ev.D) (ls : List α) (m : Nat) : cut (ls.map g) (some (m : Int)) none = (ls.drop m).map g := by
  have e : ¬ ((m : Int) < 0) := by omega
  simp only [cut, six, e, if_false, Int.toNat_natCast, List.length_map]
  rw [List.take_of_length_le (by simp), ← List.map_drop]
  congr 1
  by_cases q : m ≤ ls.length
  · rw [Nat.min_eq_left q]
  · rw [Nat.min_eq_right (by omega), List.drop_of_length_le (Nat.le_refl _), List.drop_of_length_le (by omega)]
theorem add_nats (x y : List Nat) (h : x.length + y.length ≤ 1000) : opAdd [.tuple (x.map nD), .tuple (y.map nD)] = some (.shr (.tuple ((x ++ y).map nD))) := by
  have : decide ((x.map nD).length + (y.map nD).length ≤ mAx) = true := decide_eq_true (by simp only [List.length_map, mAx]; omega)
  simp only [opAdd, this, b2o, if_true, List.map_append]
theorem layAll_append (xs ys : List Ev.D) : PyData.canLayAll0 (xs ++ ys) = (PyData.canLayAll0 xs && PyData.canLayAll0 ys) := by
  induction xs with
  | nil => simp [PyData.canLayAll0]
  | cons x xs ih => simp [PyData.canLayAll0, ih, Bool.and_assoc]
def oddR (L : Nat) (s : List Nat) : List Ev.D := [.list (s.map nD), .tuple (s.map nD ++ [.none]), .tuple (s.map nD ++ [.int L]), .tuple (.bool true :: s.map nD), .none, .str "ring", .tuple (s.map nD ++ [.int (-1)])]
theorem oddR_ok (L : Nat) (s : List Nat) : ∀ v ∈ oddR L s, v.canLay0 = true ∧ ringBad L v = true := by
  have hl : PyData.canLayAll0 (s.map nD) = true := lay_nats s
  intro v hv
  simp only [oddR, List.mem_cons, List.not_mem_nil, or_false] at hv
  rcases hv with rfl | rfl | rfl | rfl | rfl | rfl | rfl
  · exact ⟨hl, rfl⟩
  · exact ⟨by simp [PyData.canLay0, PyData.canLayAll0, layAll_append, hl], by simp [ringBad, isNum]⟩
  · refine ⟨by simp [PyData.canLay0, PyData.canLayAll0, layAll_append, hl], ?_⟩
    have : isNum (.int (L : Int)) 0 ((L : Int) - 1) = false := by simp [isNum]; omega
    simp [ringBad, this]
  · exact ⟨by simp [PyData.canLay0, PyData.canLayAll0, hl], by simp [ringBad, isNum]⟩
  · exact ⟨rfl, rfl⟩
  · exact ⟨by decide +kernel, rfl⟩
  · exact ⟨by simp [PyData.canLay0, PyData.canLayAll0, layAll_append, hl], by simp [ringBad, isNum]⟩
def OkS (ls : List (Nat × Nat)) (s : List Nat) : Prop := s ≠ [] ∧ s.length ≤ 100 ∧ ∀ k ∈ s, k < ls.length
theorem run_law (ns : List Int) (hl : ns.length ≤ 63) : runDef (C 13 :: hist defs 13) ⟨17, [false], b_law ix⟩ [.dict [(.none, .list (ns.map .int))]] = .ok (.shr (.bool true)) [] := by
  rw [run_fin (ρ := [.shr (.dict [(.none, .list (ns.map .int))])]) (hp := rfl)]
  obtain ⟨ds0, e1⟩ := c_draws 13 ns hl
  obtain ⟨n, ls, ds, e2, h2, h6, hg, hL⟩ := c_law_mesh 12 ds0 6 9 (by omega) (by omega) (by omega)
  generalize hscr : PyData.dict [(.none, .list (ns.map .int))] = scr at *
  have e3 : C 13 ix.law_rings [meshD n ls] = .ok (.own (.list ((ringsF n ls).map tupD))) [] := c_rings 5 n ls h6 hL hg
  have hlt : ∀ r ∈ ringsF n ls, ∀ a ∈ r, a < ls.length := by
    intro r hr a ha
    obtain ⟨k, ws, vs, rfl, c⟩ := (mem_rings hg).1 hr
    rcases List.mem_cons.1 ha with rfl | ha
    · exact c.lt
    · exact c.lts a (List.mem_reverse.1 ha)
  have hlen : ∀ r ∈ ringsF n ls, r.length ≤ 100 := by
    intro r hr
    obtain ⟨k, ws, vs, rfl, c⟩ := (mem_rings hg).1 hr
    have h1 := along_len c.way
    have h2 := nodup_bound c.nodup (fun w hw => along_lt hg (by have := en_good hg c.lt; omega) c.lts c.way w hw)
    simp; omega
  simp only [Int.cast_ofNat_Int] at e2
  simp [b_law, e1, e2, idx_mesh1, listr_n ls.length (by omega), e3]
  -- the marks
  refine for_lki (Q := fun o => fin [false] o = .ok (.shr (.bool true)) []) 3 (fun j r => r = [.shr scr, .hld false false (drD ds), .shr (meshD n ls), .hld false true (.list ((List.range ls.length).map nD)), .hld false false (.list ((ringsF n ls).map tupD)), .hld false false (mkD ls.length (marksN (ringsF n ls) j)), .non, .non, .non, .non, .non, .non, .non, .non, .non, .non, .non])
    nD (List.range ls.length) [.shr scr, .hld false false (drD ds), .shr (meshD n ls), .hld false true (.list ((List.range ls.length).map nD)), .hld false false (.list ((ringsF n ls).map tupD)), .hld false false (mkD ls.length id), .non, .non, .non, .non, .non, .non, .non, .non, .non, .non, .non] (by simp) (by rfl) rfl ?_ ?_
  · rintro j t _ _ rfl
    simp
    refine for_lki (Q := Trn _ _ _) 4 (fun i r => r = [.shr scr, .hld false false (drD ds), .shr (meshD n ls), .hld false true (.list ((List.range ls.length).map nD)), .hld false true (.list ((ringsF n ls).map tupD)), .hld false false (mkD ls.length (((ringsF n ls).take i).foldl markStep (marksN (ringsF n ls) j))), .shr (nD t), .non, .non, .non, .non, .non, .non, .non, .non, .non, .non])
      tupD (ringsF n ls) [.shr scr, .hld false false (drD ds), .shr (meshD n ls), .hld false true (.list ((List.range ls.length).map nD)), .hld false true (.list ((ringsF n ls).map tupD)), .hld false false (mkD ls.length (marksN (ringsF n ls) j)), .shr (nD t), .non, .non, .non, .non, .non, .non, .non, .non, .non, .non] (by simp) (by rfl) (by simp) ?_ ?_
    · rintro i r _ hr rfl
      have hrm := List.mem_of_getElem? hr
      have hra := hlt r hrm
      have e4 : (ringsF n ls).take (i + 1) = (ringsF n ls).take i ++ [r] := by rw [List.take_add_one, hr]; rfl
      rw [e4, List.foldl_append]
      generalize ((ringsF n ls).take i).foldl markStep (marksN (ringsF n ls) j) = mk at *
      have hne : r ≠ [] := by
        obtain ⟨k, ws, vs, rfl, _⟩ := (mem_rings hg).1 hrm; simp
      have hr7 : r.length ≤ 100 := hlen r hrm
      simp
      rw [comp_val nD (fun k => some (nD (mk k))) r (by simp [tupD]) (by rfl) (by rfl) (by simp [mAx]; omega) (by
        intro k hk
        have e5 := idx_mk ls.length mk k (hra k hk)
        simp [nD, e5])]
      have e6 : (r.filterMap fun k => some (nD (mk k))) = (r.map mk).map nD := by rw [fm_some, List.map_map]; rfl
      rw [e6]
      have e7 := min_nats (r.map mk) (by simpa using hne)
      simp [e7, -List.map_map]
      rw [comp_lk 3 nD (fun a => some (nD (markStep mk r a))) (List.range ls.length) (by simp) (by rfl) (by rfl) (by rfl) (by simp [mAx]; omega) (by
        intro a ha
        have ha := List.mem_range.1 ha
        have e8 := inn_natsT a r
        have e8' : opInn [.int (a : Nat), tupD r] = _ := e8
        have e9 := idx_mk ls.length mk a ha
        by_cases q : a ∈ r
        · simp [nD, e8', q, markStep, leastOf]
        · simp [nD, e8', q, e9, markStep]) (by rfl)]
      rw [fm_some]
      simp [unlockS]
      rfl
    · rintro _ rfl
      rw [List.take_length]
      simp [unlockS]
      rfl
  · rintro _ rfl
    have hmk : mkD ls.length (marksN (ringsF n ls) ls.length) = mkD ls.length (cls n ls) := by
      rw [mkD, mkD]
      congr 1
      apply List.map_congr_left
      intro a ha
      rw [marks_cls hg a (List.mem_range.1 ha)]
    rw [List.length_range, hmk]
    have hix := fun k (hk : k < ls.length) => idx_mk ls.length (cls n ls) k hk
    simp [unlockS]
    rw [comp_lk 3 nD (fun k => if decide (cls n ls k = k) = true then some (tupD (block n ls k)) else none) (List.range ls.length) (by simp) (by rfl) (by rfl) (by rfl) (by simp [mAx]; omega) (by
      intro k hk
      have hk := List.mem_range.1 hk
      by_cases q : cls n ls k = k
      · simp [nD, hix k hk, q]
        rw [comp_lk 3 nD (fun j => if decide (cls n ls j = k) = true then some (nD j) else none) (List.range ls.length) (by simp [nD]) (by rfl) (by rfl) (by rfl) (by simp [mAx]; omega) (by
          intro j hj
          have hj := List.mem_range.1 hj
          by_cases q2 : cls n ls j = k
          · simp [nD, hix j hj, q2]
          · have q2' : ¬ (cls n ls j : Int) = k := by omega
            simp [nD, hix j hj, q2, q2']) (by rfl)]
        rw [fm_filter, ← block]
        simp [tupD, nD]
      · have q' : ¬ (cls n ls k : Int) = k := by omega
        simp [nD, hix k hk, q, q']) (by rfl)]
    rw [fm_filter, ← heads]
    have hHl : (heads n ls).length ≤ 9 := by
      have := List.length_filter_le (fun k => decide (cls n ls k = k)) (List.range ls.length)
      rw [List.length_range] at this
      simp only [heads]; omega
    have hBl : ∀ h, (block n ls h).length ≤ 9 := by
      intro h
      have := List.length_filter_le (fun k => decide (cls n ls k = h)) (List.range ls.length)
      rw [List.length_range] at this
      simp only [block]; omega
    -- the blocks, the bridges
    have f1 := c_blocks 11 n ls hg (by omega) (by omega)
    have f1' : C 13 ix.blocks [meshD n ls] = .ok (.shr (.tuple ((heads n ls).map fun h => tupD (block n ls h)))) [] := f1
    have f2 := c_alike 10 2 (.tuple ((heads n ls).map fun h => tupD (block n ls h))) (by
      have := ht_rows ((heads n ls).map (block n ls)) (by rw [List.length_map]; omega) (by
        intro f hf
        obtain ⟨h, _, rfl⟩ := List.mem_map.1 hf
        have := hBl h; omega)
      rw [List.map_map] at this
      exact this)
    have f3 : C 13 ix.bridges [meshD n ls] = .ok (.shr (tupD ((heads n ls).filter fun h => decide ((block n ls h).length = 1)))) [] := by
      have := c_bridges 10 n ls (by omega) hg (by omega)
      rw [bridges_due hg, intsD, List.map_map] at this
      exact this
    generalize hdue : PyData.tuple ((heads n ls).map fun h => tupD (block n ls h)) = due at *
    simp [hdue, f1', f2, f3]
    have hone : ∀ h ∈ heads n ls, (block n ls h).length = 1 → block n ls h = [h] := by
      intro h hh h1
      obtain ⟨a, ha⟩ := List.length_eq_one_iff.1 h1
      have hm : h ∈ block n ls h := mem_block.2 (mem_heads.1 hh)
      rw [ha] at hm ⊢
      rw [List.mem_singleton.1 hm]
    rw [comp_val (fun h => tupD (block n ls h)) (fun h => if decide ((block n ls h).length = 1) = true then some (nD h) else none) (heads n ls) (by simp [← hdue]) (by rfl) (by rfl) (by simp only [mAx]; omega) (by
      intro h hh
      by_cases q : (block n ls h).length = 1
      · have := hone h hh q
        simp [this, tupD, nD]
      · have q' : ¬ ((block n ls h).length : Int) = 1 := by omega
        simp [tupD, q, q'])]
    rw [fm_filter]
    have g1 : opNe [tupD ((heads n ls).filter fun h => decide ((block n ls h).length = 1)), .tuple (((heads n ls).filter fun h => decide ((block n ls h).length = 1)).map nD)] = some (.shr (.bool false)) := by
      have := ne_natsT ((heads n ls).filter fun h => decide ((block n ls h).length = 1)) ((heads n ls).filter fun h => decide ((block n ls h).length = 1))
      simpa [tupD] using this
    simp [g1]
    -- the cut nodes
    rw [comp_val (fun k : Nat => .int (k : Nat)) (fun u => if several n ls u = true then some (nD u) else none) (List.range n) (by simp [idx_mesh0, show n ≤ 1000000 by omega]) (by rfl) (by rfl) (by simp [mAx]; omega) (by
      intro u hu
      simp
      rw [comp_val (fun h => tupD (block n ls h)) (fun h => if (!decide ((block n ls h).filter (fun k => decide (at_ ls u k)) = [])) = true then some (tupD (block n ls h)) else none) (heads n ls) (by simp [← hdue]) (by rfl) (by rfl) (by simp only [mAx]; omega) (by
        intro h hh
        simp
        rw [comp_val nD (fun k => if decide (at_ ls u k) = true then some (nD k) else none) (block n ls h) (by simp [tupD]) (by rfl) (by rfl) (by have := hBl h; simp only [mAx]; omega) (by
          intro k hk
          have hkl := (mem_block.1 hk).1
          have i2 : item (ls.map lineD) (k : Int) = some (lineD (en ls k)) := by rw [item_n _ k (by simpa using hkl)]; simp [en, hkl]
          have i3 := inn_line u (en ls k)
          rw [touch_at] at i3
          simp [nD, idx_mesh1, i2, i3]
          split <;> rfl)]
        rw [fm_filter]
        have i4 := ne_nil ((block n ls h).filter fun k => decide (at_ ls u k))
        simp [i4]
        split <;> rfl)]
      rw [fm_filter]
      have hsev : several n ls u = decide (1 < ((heads n ls).filter fun h => !decide ((block n ls h).filter (fun k => decide (at_ ls u k)) = [])).length) := rfl
      rw [hsev]
      generalize ((heads n ls).filter fun h => !decide ((block n ls h).filter (fun k => decide (at_ ls u k)) = [])) = X
      by_cases q : 1 < X.length
      · have q' : (1 : Int) < (X.length : Int) := by omega
        simp [nD, q, q']
      · have q' : ¬ (1 : Int) < (X.length : Int) := by omega
        simp [nD, q, q'])]
    rw [fm_filter]
    have g2 : C 13 ix.cut_nodes [meshD n ls] = .ok (.shr (tupD ((List.range n).filter (several n ls)))) [] := by
      have h := c_cut 11 n ls hg (by omega) (by omega)
      have e : (List.range n).filter (several n ls) = nodesOf n (isCut n ls) := by
        rw [nodesOf]; exact List.filter_congr fun u _ => several_iff hg u
      rw [e]; exact h
    have g3 : opNe [tupD ((List.range n).filter (several n ls)), .tuple (((List.range n).filter (several n ls)).map nD)] = some (.shr (.bool false)) := by
      have := ne_natsT ((List.range n).filter (several n ls)) ((List.range n).filter (several n ls))
      simpa [tupD] using this
    generalize (List.range n).filter (several n ls) = sev at *
    simp [g2, g3]
    -- some rings, and some rows
    have e20 := ne_lines ls
    obtain ⟨b, hb⟩ : ∃ b, b = !decide (ls = []) := ⟨_, rfl⟩
    rw [← hb] at e20
    obtain ⟨T, hT⟩ : ∃ T, T = if b = true then 6 else 0 := ⟨_, rfl⟩
    have hT6 : T ≤ 6 := by rw [hT]; split <;> omega
    refine comp_q (Q := fun x => fin [false] ((((((x.bnd _).bnd _).bnd _).bnd _).brn _).seq _) = .ok (.shr (.bool true)) []) (fun j ys r => ∃ (S : List (List Nat)) (ds : List Int), S.length ≤ j ∧ (∀ s ∈ S, OkS ls s) ∧ ys = S.map tupD ∧ r = [.shr scr, .hld false false (drD ds), .shr (meshD n ls), .hld false false (.list ((List.range ls.length).map nD)), .hld false false (.list ((ringsF n ls).map tupD)), .hld false false (mkD ls.length (cls n ls)), .non, .shr due, .hld false false (.list (sev.map nD)), .non, .non, .non, .non, .non, .non, .non, .non])
      (fun k : Nat => .int (k : Nat)) (List.range T) (by
        clear hb
        cases b <;> simp [idx_mesh1, e20, hT]) (by rfl) (by simp [mAx]; omega) ⟨[], ds, by simp, by simp, rfl, rfl⟩ ?_ ?_
    · rintro j z ys _ hz ⟨S, ds, hS1, hS2, rfl, rfl⟩
      have hne : ls ≠ [] := by
        intro hls
        have := List.mem_of_getElem? hz
        simp [hT, hb, hls] at this
      have hLp : (0 : Int) < (ls.length : Int) := by
        have := List.length_pos_iff.2 hne; omega
      have e21 := c_take 13 ds 4 (by omega)
      have h4 := takeV_lt ds 4 (by omega)
      obtain ⟨m, hm⟩ : ∃ m, m = 1 + takeV ds 4 := ⟨_, rfl⟩
      have hm2 : (1 : Int) + (takeV ds 4 : Nat) = (m : Nat) := by omega
      simp
      refine comp_qx [.shr scr, .hld false false (drD ds.dropLast), .shr (meshD n ls), .hld false false (.list ((List.range ls.length).map nD)), .hld false false (.list ((ringsF n ls).map tupD)), .hld false false (mkD ls.length (cls n ls)), .shr (.int (z : Nat)), .shr due, .hld false false (.list (sev.map nD)), .non, .non, .non, .non, .non, .non, .non, .non]
        (Q := fun x => TrnC _ (((((x.bnd _).bnd _).bnd _).bnd _).bnd _)) (fun i ys r => ∃ (s : List Nat) (ds : List Int), s.length = i ∧ (∀ k ∈ s, k < ls.length) ∧ ys = s.map nD ∧ r = [.shr scr, .hld false false (drD ds), .shr (meshD n ls), .hld false false (.list ((List.range ls.length).map nD)), .hld false false (.list ((ringsF n ls).map tupD)), .hld false false (mkD ls.length (cls n ls)), .shr (.int (z : Nat)), .shr due, .hld false false (.list (sev.map nD)), .non, .non, .non, .non, .non, .non, .non, .non])
        (fun k : Nat => .int (k : Nat)) (List.range m) ?_ (by rfl) ?_ ⟨[], ds.dropLast, rfl, by simp, rfl, rfl⟩ ?_ ?_
      · simp [e21, hm2, show m ≤ 1000000 by omega]
      · simp [mAx]; omega
      · rintro i k ys _ _ ⟨s, ds, hs1, hs2, rfl, rfl⟩
        have e22 := c_take 13 ds ls.length hLp
        have h5 := takeV_lt ds ls.length hLp
        simp [idx_mesh1, e22]
        refine ⟨s ++ [takeV ds ls.length], by simp [hs1], ?_, by simp [nD], _, rfl⟩
        intro k hk
        rcases List.mem_append.1 hk with hk | hk
        · exact hs2 k hk
        · rw [List.mem_singleton.1 hk]; omega
      · rintro ys r' ⟨s, ds, hs1, hs2, rfl, rfl⟩
        rw [List.length_range] at hs1
        simp
        refine ⟨S ++ [s], by simp; omega, ?_, by simp [tupD], _, rfl⟩
        intro q hq
        rcases List.mem_append.1 hq with hq | hq
        · exact hS2 q hq
        · rw [List.mem_singleton.1 hq]
          exact ⟨by intro e; rw [e] at hs1; simp at hs1; omega, by omega, hs2⟩
    · rintro ys r' ⟨S, ds, hS1, hS2, rfl, rfl⟩
      have e30 : cut ((ringsF n ls).map tupD) none (some 6) = ((ringsF n ls).take 6).map tupD := by
        have := cut_take tupD (ringsF n ls) 6
        simpa only [Int.cast_ofNat_Int] using this
      have hrows : ∀ s ∈ (ringsF n ls).take 6 ++ S, OkS ls s := by
        intro s hs
        rcases List.mem_append.1 hs with hs | hs
        · have hm := List.mem_of_mem_take hs
          refine ⟨?_, hlen s hm, hlt s hm⟩
          obtain ⟨k, ws, vs, rfl, _⟩ := (mem_rings hg).1 hm
          simp
        · exact hS2 s hs
      have a30 : opAdd [.list (((ringsF n ls).take 6).map tupD), .list (S.map tupD)] = some (.own (.list (((ringsF n ls).take 6 ++ S).map tupD))) := by
        have h1 : ((ringsF n ls).take 6).length ≤ 6 := by rw [List.length_take]; omega
        have : decide ((((ringsF n ls).take 6).map tupD).length + (S.map tupD).length ≤ mAx) = true := decide_eq_true (by
          rw [List.length_range] at hS1
          simp only [List.length_map, mAx]; omega)
        simp only [opAdd, this, b2o, if_true, List.map_append]
      generalize (ringsF n ls).take 6 ++ S = rows at *
      simp [e30, a30, -List.map_take, -List.map_append]
      refine for_lki (Q := fun o => fin [false] o = .ok (.shr (.bool true)) []) 9 (fun j r => ∃ ds, r = [.shr scr, .hld false false (drD ds), .shr (meshD n ls), .hld false false (.list ((List.range ls.length).map nD)), .hld false false (.list ((ringsF n ls).map tupD)), .hld false false (mkD ls.length (cls n ls)), .non, .shr due, .hld false false (.list (sev.map nD)), .hld false true (.list (rows.map tupD)), .non, .non, .non, .non, .non, .non, .non])
        tupD rows [.shr scr, .hld false false (drD ds), .shr (meshD n ls), .hld false false (.list ((List.range ls.length).map nD)), .hld false false (.list ((ringsF n ls).map tupD)), .hld false false (mkD ls.length (cls n ls)), .non, .shr due, .hld false false (.list (sev.map nD)), .hld false true (.list (rows.map tupD)), .non, .non, .non, .non, .non, .non, .non] (by simp) (by rfl) ⟨_, rfl⟩ ?_ ?_
      · rintro j s _ hs ⟨ds, rfl⟩
        obtain ⟨hs1, hs2, hs3⟩ := hrows s (List.mem_of_getElem? hs)
        have hsp : (0 : Int) < (s.length : Int) := by have := List.length_pos_iff.2 hs1; omega
        have hLp : (0 : Int) < (ls.length : Int) := by
          obtain ⟨k, hk⟩ := List.exists_mem_of_ne_nil _ hs1
          have := hs3 k hk; omega
        have e31 := inn_rows s (ringsF n ls)
        have e32 : C 13 ix.is_ring [meshD n ls, tupD s] = .ok (.shr (.bool (ringB ls s))) [] := c_ring 10 n ls s hs3 (by omega)
        refine join (Q := Trn _ _ _) (fun r => r = [.shr scr, .hld false false (drD ds), .shr (meshD n ls), .hld false false (.list ((List.range ls.length).map nD)), .hld false false (.list ((ringsF n ls).map tupD)), .hld false false (mkD ls.length (cls n ls)), .non, .shr due, .hld false false (.list (sev.map nD)), .hld false true (.list (rows.map tupD)), .shr (tupD s), .non, .non, .non, .non, .non, .non]) (by simp) ?_
        rintro _ rfl
        rw [w_cons]
        refine join (Q := Trn _ _ _) (fun r => r = [.shr scr, .hld false false (drD ds), .shr (meshD n ls), .hld false false (.list ((List.range ls.length).map nD)), .hld false false (.list ((ringsF n ls).map tupD)), .hld false false (mkD ls.length (cls n ls)), .non, .shr due, .hld false false (.list (sev.map nD)), .hld false true (.list (rows.map tupD)), .shr (tupD s), .non, .non, .non, .non, .non, .non]) ?_ ?_
        · by_cases q : s ∈ ringsF n ls
          · have := rings_ok hg q
            simp [e31, q, e32, this]
          · simp [e31, q]
        rintro _ rfl
        have e33 := c_take 13 ds s.length hsp
        have hK := takeV_lt ds s.length hsp
        generalize hKd : takeV ds s.length = K at *
        have e34 := c_take 13 ds.dropLast ls.length hLp
        have ht := takeV_lt ds.dropLast ls.length hLp
        generalize htd : takeV ds.dropLast ls.length = t at *
        have len1 : opLen [tupD s] = some (.shr (.int (s.length : Nat))) := by rw [tupD, len_t]; simp
        simp [len1, e33]
        have c1 : cut (s.map nD) (some (K : Int)) none = (s.drop K).map nD := cut_drop nD s K
        have c2 : cut (s.map nD) none (some (K : Int)) = (s.take K).map nD := cut_take nD s K
        have c3 : cut (s.map nD) (some 1) none = (s.drop 1).map nD := by
          have := cut_drop nD s 1
          simpa only [Int.cast_ofNat_Int] using this
        have c4 : cut (s.map nD) none (some 1) = (s.take 1).map nD := by
          have := cut_take nD s 1
          simpa only [Int.cast_ofNat_Int] using this
        have c5 : cut (s.map nD) (some ((K : Int) + 1)) none = (s.drop (K + 1)).map nD := by
          have := cut_drop nD s (K + 1)
          simpa only [Int.natCast_add, Int.cast_ofNat_Int] using this
        have c6 : (s.map nD).reverse = s.reverse.map nD := by rw [List.map_reverse]
        have l1 : (s.take K).length ≤ 100 := by rw [List.length_take]; omega
        have l2 : (s.drop K).length ≤ 100 := by rw [List.length_drop]; omega
        have l3 : (s.take 1).length ≤ 1 := by rw [List.length_take]; omega
        have l4 : (s.drop (K + 1)).length ≤ 100 := by rw [List.length_drop]; omega
        have l5 : (s.drop 1).length ≤ 100 := by rw [List.length_drop]; omega
        have a1 := add_nats (s.drop K) (s.take K) (by omega)
        have a2 := add_nats s (s.take 1) (by omega)
        have a3 := add_nats (s.take K) [t] (by simp only [List.length_cons, List.length_nil]; omega)
        have a4 := add_nats (s.take K ++ [t]) (s.drop (K + 1)) (by simp only [List.length_append, List.length_cons, List.length_nil]; omega)
        have a3' : opAdd [.tuple ((s.take K).map nD), .tuple [.int (t : Nat)]] = some (.shr (.tuple ((s.take K ++ [t]).map nD))) := a3
        obtain ⟨V, hV⟩ : ∃ V, V = [s, s.reverse, s.drop K ++ s.take K, s.drop 1, s ++ s.take 1, s.take K ++ [t] ++ s.drop (K + 1), s.take 1] := ⟨_, rfl⟩
        have hVok : ∀ v ∈ V, v.length ≤ 1000 ∧ ∀ k ∈ v, k < ls.length := by
          have hd := fun m k (h : k ∈ s.drop m) => hs3 k (List.mem_of_mem_drop h)
          have htk := fun m k (h : k ∈ s.take m) => hs3 k (List.mem_of_mem_take h)
          intro v hv
          rw [hV] at hv
          simp only [List.mem_cons, List.not_mem_nil, or_false] at hv
          rcases hv with rfl | rfl | rfl | rfl | rfl | rfl | rfl
          · exact ⟨by omega, hs3⟩
          · exact ⟨by rw [List.length_reverse]; omega, fun k hk => hs3 k (List.mem_reverse.1 hk)⟩
          · exact ⟨by rw [List.length_append]; omega, fun k hk => (List.mem_append.1 hk).elim (hd _ k) (htk _ k)⟩
          · exact ⟨by omega, hd 1⟩
          · exact ⟨by rw [List.length_append]; omega, fun k hk => (List.mem_append.1 hk).elim (hs3 k) (htk _ k)⟩
          · refine ⟨by simp only [List.length_append, List.length_cons, List.length_nil]; omega, fun k hk => ?_⟩
            rcases List.mem_append.1 hk with hk | hk
            · rcases List.mem_append.1 hk with hk | hk
              · exact htk _ k hk
              · rw [List.mem_singleton.1 hk]; omega
            · exact hd _ k hk
          · exact ⟨by omega, htk 1⟩
        refine for_invx [.shr scr, .hld false false (drD ds.dropLast.dropLast), .shr (meshD n ls), .hld false false (.list ((List.range ls.length).map nD)), .hld false false (.list ((ringsF n ls).map tupD)), .hld false false (mkD ls.length (cls n ls)), .non, .shr due, .hld false false (.list (sev.map nD)), .hld false true (.list (rows.map tupD)), .shr (tupD s), .shr (.int (K : Nat)), .non, .non, .non, .non, .non]
          (Q := Trn _ _ _) (fun i r => r = [.shr scr, .hld false false (drD ds.dropLast.dropLast), .shr (meshD n ls), .hld false false (.list ((List.range ls.length).map nD)), .hld false false (.list ((ringsF n ls).map tupD)), .hld false false (mkD ls.length (cls n ls)), .non, .shr due, .hld false false (.list (sev.map nD)), .hld false true (.list (rows.map tupD)), .shr (tupD s), .shr (.int (K : Nat)), .non, .non, .non, .non, .non])
          (fun v => .tuple (v.map nD)) V ?_ rfl ?_ ?_
        · simp [tupD, c1, c2, c3, c4, c5, c6, a1, a2, a3', a4, e34, idx_mesh1, hV, -List.map_append, -List.map_drop, -List.map_take, -List.map_reverse, -List.append_assoc]
        · rintro i v _ hv rfl
          obtain ⟨v1, v2⟩ := hVok v (List.mem_of_getElem? hv)
          have r1 := c_ring 10 n ls v v2 v1
          have r2 := c_law_is_ring 13 n ls v v2 v1
          have r3 := c_alike 12 0 (.bool (ringB ls v)) ⟨rfl, rfl⟩
          simp [r1, r2, r3]
        · rintro _ rfl
          simp
          have p1 (y : Ev.D) : opAdd [.tuple (s.map nD), .tuple [y]] = some (.shr (.tuple (s.map nD ++ [y]))) := by
            have : decide ((s.map nD).length + [y].length ≤ mAx) = true := decide_eq_true (by simp only [List.length_map, List.length_cons, List.length_nil, mAx]; omega)
            simp only [opAdd, this, b2o, if_true]
          have p2 (y : Ev.D) : opAdd [.tuple [y], .tuple (s.map nD)] = some (.shr (.tuple (y :: s.map nD))) := by
            have : decide ([y].length + (s.map nD).length ≤ mAx) = true := decide_eq_true (by simp only [List.length_map, List.length_cons, List.length_nil, mAx]; omega)
            simp only [opAdd, this, b2o, if_true]; rfl
          rw [comp_val (fun v => v) (fun _ => none) (oddR ls.length s) (by simp [tupD, oddR, p1, p2, idx_mesh1]) (by rfl) (by rfl) (by simp [oddR, mAx]) (by
            intro v hv
            obtain ⟨v1, v2⟩ := oddR_ok ls.length s v hv
            have r1 := c_ring_bad 11 n ls v v1 v2
            simp [r1])]
          simp [ne_f, PyData.eqv, PyData.eqvAll]
          exact ⟨_, rfl⟩
      · rintro _ ⟨ds, rfl⟩
        have e35 : C 13 ix.is_ring [meshD n ls, .tuple []] = .ok (.shr (.bool false)) [] := by
          have := c_ring 10 n ls [] (by simp) (by simp)
          simpa [ringB] using this
        simp [unlockS, e35]
end K82
end
section
set_option Elab.async false
set_option maxRecDepth 100000
theorem K82.defs_eq : Law.srcs.map (Ev.Src.d Law.B) = K82.defs := by kernel_rfl
theorem K82.word : Law.Word := by
  intro ns hl hb
  rw [K82.defs_eq]
  exact K82.run_law ns hl
theorem PySem.Challenge.cw_packetsheld_k82_whole_rings_and_blocks_holds : PySem.Challenge.rw_packetsheld_k82_whole_rings_and_blocks.Holds :=
  Law.holds K82.word
end
