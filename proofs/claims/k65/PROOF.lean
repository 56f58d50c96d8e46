import PyProof.Rows.All
import Wide.All
import OpenK.AllK
import Wide.FinOn
import KE.SortData
import KE.DataMinMax
import KE.DataEq
import KE.DataFind
import KE.DataIsa
import HandS.ForMost
import HandS.Lambda
import PyProof.ReprRoads
import PyProof.CallFns
import HandS.TupAny
import HandS.TupMul
import HandS.Style
import HandS.IsInst
import KE.KEqDict
import KE.KTupSum
import HandS.Conv
import HandS.Walk
import KE.KRevSl
import HandS.Codes
import HandS.Iter
import HandS.Zip
import KE.GoesEnum
import KE.GoesMore
import KE.GoesZip
import HandS.DictComp
import HandS.SetFor
import HandS.Strs
import HandS.SetBool
import HandS.Exc
import HandS.ExcOwn
import HandS.Ends
import HandS.HeadEnd
import HandS.Defaults
import HandS.HotCalls
import HandS.ExcIs
import KE.SortKeyHeap
import KE.SortUse
import HandS.EndBits
import HandS.EndTab
import HandS.ClsMeth
import HandS.Head0
import HandS.Head1
import HandS.Head2
import HandS.HeadHook1
import HandS.HeadHook2
import HandS.HeadHook3
import HandS.HeadHook4
import PyProof.ReprLen
import PyProof.FitsInt
import Lean
import PySem.Challenge.RW_nightsheld_k65_coins_shared
set_option Elab.async false
set_option linter.all false
set_option maxRecDepth 100000
set_option maxHeartbeats 0
/-! a small evaluator over pure data: values, stores, expressions, statements -/
namespace Ev
open PySem

/-- a value: pure data, an object of the global store, one of the call's own store, the script -/
inductive Val where
  | d (x : PyData)
  | g (n : Nat)
  | l (n : Nat)
  | s (ns : List Int)
  | e (a : Nat)

/-- what a store holds -/
inductive SO where
  | lst (xs : List Val)
  | dct (kvs : List (PyData × PyData))
  | frz (x : PyData)
  | ins (c : Nat) (fs : List (Str × Val))

structure Sto where
  L : List SO
  G : List SO

abbrev Lv := List (Option Val)
abbrev M (α : Type) := Sto → Option (α × Sto)
def rt {α : Type} (a : α) : M α := fun s => some (a, s)
def no {α : Type} : M α := fun _ => none
def bd {α β : Type} (m : M α) (f : α → M β) : M β := fun s => match m s with
  | none => none
  | some (a, s') => f a s'
def ofO {α : Type} : Option α → M α
  | some a => rt a
  | none => no
theorem bd_rt {α β : Type} (a : α) (f : α → M β) : bd (rt a) f = f a := rfl
theorem bd_some {α β : Type} {m : M α} {f : α → M β} {s s' : Sto} {a : α} (h : m s = some (a, s')) : bd m f s = f a s' := by
  unfold bd; rw [h]
theorem bd_inv {α β : Type} {m : M α} {f : α → M β} {s s2 : Sto} {b : β} (h : bd m f s = some (b, s2)) : ∃ a s1, m s = some (a, s1) ∧ f a s1 = some (b, s2) := by
  unfold bd at h
  split at h
  · cases h
  · rename_i a s1 e
    exact ⟨a, s1, e, h⟩

/-! ### pure data -/
def valD : Val → Option PyData
  | .d x => some x
  | _ => none
def valsD : List Val → Option (List PyData)
  | [] => some []
  | v :: vs => match valD v, valsD vs with
    | some x, some xs => some (x :: xs)
    | _, _ => none
def readO : SO → Option PyData
  | .lst xs => (valsD xs).map .list
  | .dct kvs => some (.dict kvs)
  | .frz x => some x
  | .ins _ _ => none
def ints? : List PyData → Option (List Int)
  | [] => some []
  | .int i :: r => (ints? r).map (i :: ·)
  | _ => none
def bools? : List PyData → Option (List Bool)
  | [] => some []
  | .bool b :: r => (bools? r).map (b :: ·)
  | _ => none
/-- the place that an index names -/
def ixP (n : Nat) (i : Int) : Option Nat := L2.ixN n i
def atP {α : Type} (xs : List α) (i : Int) : Option α := L2.atI xs i
def small (i : Int) : Bool := decide (-(2 ^ 64) < i) && decide (i < 2 ^ 64)
def binD : Operator → PyData → PyData → Option PyData
  | .Add, .int a, .int b => some (.int (a + b))
  | .Add, .str a, .str b => if a.length + b.length ≤ 16777216 then some (.str (a ++ b)) else none
  | .Add, .tuple a, .tuple b => if a.length + b.length ≤ 16777216 then some (.tuple (a ++ b)) else none
  | .Add, .list a, .list b => if a.length + b.length ≤ 16777216 then some (.list (a ++ b)) else none
  | .Sub, .int a, .int b => some (.int (a - b))
  | .Mult, .int a, .int b => if small a || small b then some (.int (a * b)) else none
  | .Mult, .tuple a, .int k => if 2 ≤ k ∧ k ≤ 1000 ∧ 1 ≤ a.length ∧ a.length ≤ 1000 then some (.tuple (List.replicate k.toNat a).flatten) else none
  | .Mult, .list a, .int k => if 0 ≤ k ∧ k < 1000 ∧ a.length * k.toNat ≤ 16777216 then some (.list (List.replicate k.toNat a).flatten) else none
  | .FloorDiv, .int a, .int b => if 0 < b ∧ b < 1073741824 then some (.int (a / b)) else none
  | .Mod, .int a, .int b => if 0 < b then some (.int (a % b)) else none
  | .Pow, .int a, .int b => if 0 ≤ b ∧ b ≤ 1000000 ∧ small a = true then some (.int (a ^ b.toNat)) else none
  | _, _, _ => none
def negD : PyData → Option PyData
  | .int a => some (.int (-a))
  | _ => none
def isEmp : PyData → Option Bool
  | .dict kvs => some kvs.isEmpty
  | _ => none
def eqD (a b : PyData) : Option Bool :=
  if a.plain && b.plain && decide (min a.depth b.depth ≤ 64) then some (PyData.eqv a b) else
    match a, b with
    | .dict kvs, .dict [] => some kvs.isEmpty
    | _, _ => none
def inD (a : PyData) : PyData → Option Bool
  | .list xs => if a.plain && PyData.plainAll xs && decide (min (PyData.depthAll xs) a.depth ≤ 64) then some (xs.any fun y => PyData.eqv y a) else none
  | .tuple xs => if a.plain && PyData.plainAll xs && decide (min (PyData.depthAll xs) a.depth ≤ 64) then some (xs.any fun y => PyData.eqv y a) else none
  | _ => none
def ltD (a b : PyData) : Option Bool := if PySem.W.alike a b && !(match a with | .none => true | _ => false) then some (PySem.W.dataLt a b) else none
def isNone : PyData → Bool
  | .none => true
  | _ => false
def cmpD : CmpOp → PyData → PyData → Option Bool
  | .Eq, a, b => eqD a b
  | .NotEq, a, b => (eqD a b).map (!·)
  | .Lt, .int a, .int b => some (decide (a < b))
  | .LtE, .int a, .int b => some (decide (a ≤ b))
  | .Gt, .int a, .int b => some (decide (b < a))
  | .GtE, .int a, .int b => some (decide (b ≤ a))
  | .In, a, b => inD a b
  | .NotIn, a, b => (inD a b).map (!·)
  | .Is, a, .none => some (isNone a)
  | .IsNot, a, .none => some (!isNone a)
  | .Is, .bool a, .bool b => some (decide (a = b))
  | .IsNot, .bool a, .bool b => some (!decide (a = b))
  | _, _, _ => none
def truthD : PyData → Option Bool
  | .none => some false
  | .bool b => some b
  | .int i => some (i != 0)
  | .str x => if x.length ≤ 16777216 then some (x.length != 0) else none
  | .list xs => some !xs.isEmpty
  | .tuple xs => some !xs.isEmpty
  | .dict kvs => some !kvs.isEmpty
def lookD (k : PyData) : List (PyData × PyData) → Option PyData
  | [] => none
  | (a, v) :: r => if PyData.eqv a k then some v else lookD k r
def putD (k v : PyData) : List (PyData × PyData) → List (PyData × PyData)
  | [] => [(k, v)]
  | (a, u) :: r => if PyData.eqv a k then (a, v) :: r else (a, u) :: putD k v r
def isKey : PyData → Bool
  | .int _ => true
  | .str _ => true
  | _ => false
def idxD : PyData → PyData → Option PyData
  | .list xs, .int i => atP xs i
  | .tuple xs, .int i => atP xs i
  | .str z, .int i => if z.length ≤ 16777216 then (atP z.cps.toList i).map fun c => .str ⟨#[c]⟩ else none
  | .dict kvs, k => if isKey k then lookD k kvs else none
  | _, _ => none
/-- xs[lo:hi] -/
def cutP {α : Type} (xs : List α) (lo hi : Option Int) : List α := (xs.drop (HT.sIx xs.length 0 lo)).take (HT.sIx xs.length xs.length hi - HT.sIx xs.length 0 lo)
def sliceD (lo hi : Option Int) : PyData → Option PyData
  | .list xs => some (.list (cutP xs lo hi))
  | .tuple xs => some (.tuple (cutP xs lo hi))
  | _ => none
def revD : PyData → Option PyData
  | .list xs => some (.list xs.reverse)
  | .tuple xs => some (.tuple xs.reverse)
  | _ => none
inductive B1 where
  | len | sum | all | any | tuple | list | abs | maxs | mins | sorted | intb | strs | repr | setlen | uniq | bool
  deriving DecidableEq
inductive B2 where
  | max | min
  deriving DecidableEq
def isTup1 : PyData → Bool
  | .tuple (_ :: _) => true
  | _ => false
def noTup : PyData → Bool
  | .none => false
  | .tuple _ => false
  | _ => true
/-- items that can be sorted -/
def canSort (xs : List PyData) : Bool := (xs.all fun a => xs.all fun b => PySem.W.alike a b) && (xs.all isTup1 || xs.all noTup) && xs.all (fun a => decide (a.depth ≤ 64)) && decide (xs.length ≤ 16777216)
/-- items of which the least and the greatest can be told -/
def canMm (xs : List PyData) : Bool := (xs.all fun a => xs.all fun b => PySem.W.alike a b) && xs.all (fun a => decide (a.depth ≤ 64) && !(match a with
  | .none => true
  | .dict _ => true
  | _ => false)) && decide (xs.length ≤ 16777216)
def sortD (xs : List PyData) : List PyData := xs.mergeSort (PySem.W.dataLe false fun x => x)
/-- data whose repr the model tells -/
def okR (x : PyData) : Bool := x.showable && decide (x.shown.length ≤ 16777216) && decide (x.depth ≤ 64)
def insU (x : Int) : List Int → List Int
  | [] => [x]
  | y :: ys => if x < y then x :: y :: ys else if x = y then y :: ys else y :: insU x ys
/-- sorted(set(ns)) -/
def usort (ns : List Int) : List Int := ns.foldr insU []
def ssD : PyData → Option PyData
  | .list xs => (ints? xs).bind fun ns => if ns.length < 64 then some (.list ((usort ns).map .int)) else none
  | _ => none
def b1D : B1 → PyData → Option PyData
  | .len, .list xs => some (.int xs.length)
  | .len, .tuple xs => some (.int xs.length)
  | .len, .str x => if x.length ≤ 16777216 then some (.int x.length) else none
  | .sum, .list xs => (ints? xs).map fun ns => .int ns.sum
  | .sum, .tuple xs => (ints? xs).map fun ns => .int ns.sum
  | .all, .list xs => (bools? xs).map fun bs => .bool (bs.all id)
  | .any, .list xs => (bools? xs).map fun bs => .bool (bs.any id)
  | .tuple, .list xs => some (.tuple xs)
  | .tuple, .tuple xs => some (.tuple xs)
  | .list, .list xs => some (.list xs)
  | .list, .tuple xs => some (.list xs)
  | .list, .dict kvs => some (.list (kvs.map (·.1)))
  | .abs, .int i => some (.int (if i < 0 then -i else i))
  | .sorted, .list xs => if canSort xs then some (.list (sortD xs)) else none
  | .intb, .bool b => some (.int (if b then 1 else 0))
  | .intb, .int i => some (.int i)
  | .maxs, .list (x :: xs) => if canMm (x :: xs) then some (PySem.W.maxD x xs) else none
  | .mins, .list (x :: xs) => if canMm (x :: xs) then some (PySem.W.minD x xs) else none
  | .repr, x => if okR x then some (.str x.shown) else none
  | _, _ => none
/-- list.count, list.index, items without own equality -/
inductive LM where
  | count | index
def flF : PyData → Bool
  | .none => true
  | .bool _ => true
  | .int _ => true
  | .str _ => true
  | _ => false
def eqF : PyData → PyData → Bool
  | .none, .none => true
  | .bool a, .bool b => a == b
  | .bool a, .int b => (if a then 1 else 0) == b
  | .int a, .bool b => a == (if b then 1 else 0)
  | .int a, .int b => a == b
  | .str a, .str b => a == b
  | _, _ => false
def lmD : LM → PyData → PyData → Option PyData
  | .count, .list ds, x => if ds.all flF && flF x && decide (ds.length ≤ 16777216) then some (.int (ds.countP fun d => eqF d x : Nat)) else none
  | .index, .list ds, x => if ds.all flF && flF x && decide (ds.length ≤ 16777216) then (ds.findIdx? fun d => eqF d x).map fun i => .int (i : Nat) else none
  | _, _, _ => none
def b2D : B2 → PyData → PyData → Option PyData
  | .max, .int a, .int b => some (.int (if b > a then b else a))
  | .min, .int a, .int b => some (.int (if b < a then b else a))
  | _, _, _ => none
inductive Ty where
  | int | bool | str | tuple | list | dict
  deriving DecidableEq
def isiD : Ty → PyData → Bool
  | .int, x => x.isInt
  | .bool, x => x.isBool
  | .str, x => x.isStr
  | .tuple, x => x.isTuple
  | .list, x => x.isList
  | .dict, x => x.isDict

/-! ### stores -/
def getO (v : Val) (s : Sto) : Option SO := match v with
  | .d _ => none
  | .s _ => none
  | .e _ => none
  | .l n => s.L[n]?
  | .g n => s.G[n]?
/-- what a value reads as, now -/
def peek (v : Val) : M PyData := fun s => match v with
  | .d x => some (x, s)
  | v => ((getO v s).bind readO).map fun x => (x, s)
/-- what a value reads as, for good: an object of the call's own store is written no more -/
def keep (v : Val) : M PyData := fun s => match v with
  | .d x => some (x, s)
  | .l n => (s.L[n]?.bind readO).map fun x => (x, { s with L := s.L.set n (.frz x) })
  | .g _ => none
  | .s _ => none
  | .e _ => none
/-- a value that may leave the call -/
def keepV (v : Val) : M Val := match v with
  | .g n => rt (.g n)
  | .s ns => rt (.s ns)
  | .e a => rt (.e a)
  | v => bd (keep v) fun x => rt (.d x)
def keeps : List Val → M (List PyData)
  | [] => rt []
  | v :: vs => bd (keep v) fun x => bd (keeps vs) fun xs => rt (x :: xs)
def keepVs : List Val → M (List Val)
  | [] => rt []
  | v :: vs => bd (keepV v) fun x => bd (keepVs vs) fun xs => rt (x :: xs)
/-- where a new list goes -/
inductive Wh where
  | pure | loc | glob
  deriving DecidableEq
def place (w : Wh) (vs : List Val) : M Val := match w with
  | .pure => bd (keeps vs) fun xs => rt (.d (.list xs))
  | .loc => fun s => some (.l s.L.length, { s with L := s.L ++ [.lst vs] })
  | .glob => bd (keepVs vs) fun vs => fun s => some (.g s.G.length, { s with G := s.G ++ [.lst vs] })
def idxV (c i : Val) : M Val := bd (peek i) fun k => match c with
  | .d x => ofO ((idxD x k).map .d)
  | .s ns => match k with
    | .int j => ofO ((atP ns j).map fun n => .d (.int n))
    | _ => no
  | c => fun s => match getO c s, k with
    | some (.lst vs), .int j => (atP vs j).map fun v => (v, s)
    | some (.frz x), k => (idxD x k).map fun y => (.d y, s)
    | some (.dct kvs), k => (idxD (.dict kvs) k).map fun y => (.d y, s)
    | _, _ => none
def putO (v : Val) (o : SO) (s : Sto) : Option Sto := match v with
  | .d _ => none
  | .s _ => none
  | .e _ => none
  | .l n => some { s with L := s.L.set n o }
  | .g n => some { s with G := s.G.set n o }
/-- c[i] = x -/
def setV (c i x : Val) : M Unit := bd (peek i) fun k => bd (match c with | .l _ => rt x | _ => keepV x) fun x => fun s => match getO c s, k with
  | some (.lst vs), .int j => match ixP vs.length j with
    | some m => (putO c (.lst (vs.set m x)) s).map fun s' => ((), s')
    | none => none
  | some (.dct kvs), k => match x with
    | .d y => if isKey k && decide (kvs.length < 16777216) then (putO c (.dct (putD k y kvs)) s).map fun s' => ((), s') else none
    | _ => none
  | _, _ => none
/-- c.append(x) -/
def appV (c x : Val) : M Unit := bd (match c with | .l _ => rt x | _ => keepV x) fun x => fun s => match getO c s with
  | some (.lst vs) => if vs.length < 16777216 then (putO c (.lst (vs ++ [x])) s).map fun s' => ((), s') else none
  | _ => none
/-- f(v) -/
def b1V (f : B1) (v : Val) : M Val := match v with
  | .s ns => match f with
    | .len => rt (.d (.int ns.length))
    | _ => no
  | v => bd (peek v) fun x => ofO ((b1D f x).map .d)
/-- it is a list of a store now | data that is a dict now -/
def lstV (v : Val) : M Unit := fun s => match getO v s with
  | some (.lst _) => some ((), s)
  | _ => none
def lisV (v : Val) : M Unit := bd (peek v) fun x => match x with
  | .list _ => rt ()
  | _ => no
def dctV (v : Val) : M Unit := bd (peek v) fun x => match x with
  | .dict _ => rt ()
  | _ => no
/-- d.get(k, x) -/
def getV (d k x : Val) : M Val := bd (peek k) fun k => bd (keep x) fun x => bd (peek d) fun d => match d with
  | .dict kvs => if isKey k then rt (.d ((lookD k kvs).getD x)) else no
  | _ => no

/-! ### the text -/
mutual
inductive Tg where
  | nm (i : Nat)
  | tp (ts : Tgs)
inductive Tgs where
  | nil
  | cons (t : Tg) (ts : Tgs)
end
mutual
inductive Ex where
  | var (i : Nat)
  | lit (x : PyData)
  | glo (k : Nat)
  | bin (o : Operator) (a b : Ex)
  | neg (a : Ex)
  | cmp (o : CmpOp) (a b : Ex)
  | chn (o1 o2 : CmpOp) (a b c : Ex)
  | and (es : Exs)
  | or (es : Exs)
  | not (a : Ex)
  | ife (c : Ct) (a b : Ex)
  | tup (es : Exs)
  | lst (w : Wh) (es : Exs)
  | dct0
  | idx (a b : Ex)
  | slc (a : Ex) (lo hi : Xo)
  | rev (a : Ex)
  | call (f : Nat) (es : Exs)
  | b1 (f : B1) (a : Ex)
  | ss (a : Ex)
  | b2 (f : B2) (a b : Ex)
  | isi (a : Ex) (t : Ty)
  | get (d k x : Ex)
  | app (o a : Ex)
  | comp (w : Wh) (elt : Ex) (tg : Tg) (it : Ix) (cd : Co) (own : List Nat)
  | compi (w : Wh) (elt : Ex) (tg : Tg) (src : Ex) (cd : Co) (own : List Nat)
  | dcomp (k v : Ex) (tg : Tg) (it : Ix) (cd : Co) (own : List Nat)
  | ssc (elt : Ex) (tg : Tg) (it : Ix) (cd : Co) (own : List Nat)
  | comp2 (w : Wh) (elt : Ex) (tg : Tg) (it : Ix) (tg1 : Tg) (it1 : Ix) (cd1 : Co) (own own1 : List Nat)
  | binl (w : Wh) (o : Operator) (a b : Ex)
  | said (ws : List Str) (f : Nat) (es : Exs)
  | lm (f : LM) (o a : Ex)
  | isx (i k : Nat)
  | dctp
  | sk (rng : Bool) (a : Ex) (i : Nat) (b : Ex)
inductive Exs where
  | nil
  | cons (e : Ex) (es : Exs)
inductive Xo where
  | none
  | some (e : Ex)
/-- a condition -/
inductive Ct where
  | v (a : Ex)
  | not (a : Ct)
  | and (cs : Cts)
  | or (cs : Cts)
  | ife (c a b : Ct)
inductive Cts where
  | nil
  | cons (c : Ct) (cs : Cts)
inductive Co where
  | none
  | some (c : Ct)
inductive Ix where
  | seq (e : Ex)
  | rng1 (a : Ex)
  | rng2 (a b : Ex)
  | enum (a : Ex)
  | zip (strict : Bool) (a b : Ex)
  | ezip (a b : Ex)
end
inductive Flow where
  | nx | bk | ct
  | rt (v : Val)
  | xc (c : Nat)
mutual
inductive St where
  | ex (e : Ex)
  | set (i : Nat) (e : Ex)
  | par (i j : Nat) (a b : Ex)
  | par3 (i j k : Nat) (a b c : Ex)
  | asg (tg : Tg) (e : Ex)
  | sub (o i v : Ex)
  | augs (c i : Ex) (o : Operator) (e : Ex)
  | iff (c : Ct) (a b : Sts)
  | forr (tg : Tg) (it : Ix) (body : Sts)
  | whl (fuel : Nat) (c : Ct) (body : Sts)
  | ret (e : Ex)
  | ret0
  | rse
  | pass
  | rsx (c : Nat)
  | exx (f : Nat) (es : Exs)
  | retx (f : Nat) (es : Exs)
  | setx (i f : Nat) (es : Exs)
inductive Sts where
  | nil
  | cons (s : St) (ss : Sts)
end

/-! ### keys -/
mutual
/-- an expression that only reads data -/
def kyE : Ex → List (Option PyData) → Option PyData
  | .var i, e => (e[i]?).bind id
  | .lit (.int k), _ => some (.int k)
  | .bin o a b, e => match o, kyE a e, kyE b e with
    | .Add, some (.int x), some (.int y) => some (.int (x + y))
    | .Sub, some (.int x), some (.int y) => some (.int (x - y))
    | .Mult, some (.int x), some (.int y) => binD .Mult (.int x) (.int y)
    | .Mod, some (.int x), some (.int y) => if 0 < y then some (.int (x % y)) else none
    | _, _, _ => none
  | .idx a b, e => match kyE a e, kyE b e with
    | some (.tuple ds), some (.int j) => if ds.length ≤ 16777216 then atP ds j else none
    | _, _ => none
  | .tup es, e => (kyEs es e).bind fun ds => if ds.length ≤ 16777216 then some (.tuple ds) else none
  | .b1 .len a, e => match kyE a e with
    | some (.tuple ds) => if ds.length ≤ 16777216 then some (.int ds.length) else none
    | _ => none
  | _, _ => none
  termination_by structural a => a
def kyEs : Exs → List (Option PyData) → Option (List PyData)
  | .nil, _ => some []
  | .cons a es, e => match kyE a e, kyEs es e with
    | some x, some xs => some (x :: xs)
    | _, _ => none
  termination_by structural a => a
end
mutual
/-- data without lists and dicts -/
def flatD : PyData → Bool
  | .list _ => false
  | .dict _ => false
  | .tuple ds => flatDs ds
  | _ => true
  termination_by structural a => a
def flatDs : List PyData → Bool
  | [] => true
  | d :: ds => flatD d && flatDs ds
  termination_by structural a => a
end
/-- the slots that hold data -/
def dLv (e : List (Option Val)) : List (Option PyData) := e.map fun o => o.bind valD
def keyD (b : Ex) (i : Nat) (lv : List (Option PyData)) (d : PyData) : PyData := (kyE b (lv.set i (some d))).getD .none
/-- sorted(ds, key=lambda x: b) -/
def skD (b : Ex) (i : Nat) (lv : List (Option PyData)) (ds : List PyData) : Option PyData :=
  if (ds.all fun d => (kyE b (lv.set i (some d))).isSome && flatD (keyD b i lv d)) && canSort (ds.map (keyD b i lv)) && decide (ds.length ≤ 16777216) then some (.list (ds.mergeSort (PySem.W.dataLe false (keyD b i lv)))) else none
/-! ### evaluation -/
abbrev FT := Nat → List Val → List SO → Option (Val × List SO)
def noV : List Val → Bool
  | [] => true
  | .l _ :: _ => false
  | _ :: r => noV r
def noF : List (Str × Val) → Bool
  | [] => true
  | (_, .l _) :: _ => false
  | _ :: r => noF r
/-- no object of the global store holds one of a call's own -/
def noG : List SO → Bool
  | [] => true
  | .lst vs :: r => noV vs && noG r
  | .ins _ fs :: r => noF fs && noG r
  | _ :: r => noG r
/-- what a def gives: a value, or the number of a class that is raised -/
abbrev XT := Nat → List Val → List SO → Option ((Val ⊕ Nat) × List SO)
def valO : Option ((Val ⊕ Nat) × List SO) → Option (Val × List SO)
  | some (.inl v, g) => some (v, g)
  | _ => none
def normT (x : XT) : FT := fun f vs g => valO (x f vs g)
structure Tx where
  cs : Nat → Option PyData
  xr : XT
def Tx.fn (T : Tx) : FT := normT T.xr
def callV (T : Tx) (f : Nat) (vs : List Val) : M Val := fun s => if noG s.G then (T.fn f vs s.G).map fun p => (p.1, { s with G := p.2 }) else none
/-- isinstance of what stands in a slot and no data is -/
def isxV (T : Tx) (i k : Nat) (e : Lv) : M Val := fun s => match e[i]? with
  | some (some (.e a)) => (match T.xr k [.e a] [] with
    | some (.inl (.d d), _) => some (.d d, s)
    | _ => none)
  | _ => none
def resV (ws : List Str) : Val ⊕ Nat → Option PyData
  | .inl (.d x) => some (.tuple [.str "told", x])
  | .inr c => (ws[c]?).map fun w => .tuple [.str w]
  | _ => none
/-- said(lambda: f(..)) -/
def saidV (T : Tx) (ws : List Str) (f : Nat) (vs : List Val) : M Val := fun s => if noG s.G then (T.xr f vs s.G).bind fun p => (resV ws p.1).map fun x => (.d x, { s with G := p.2 }) else none
mutual
def asgT : Tg → Val → Lv → Option Lv
  | .nm i, v, e => some (e.set i (some v))
  | .tp ts, .d (.tuple xs), e => asgTs ts xs e
  | .tp _, _, _ => none
def asgTs : Tgs → List PyData → Lv → Option Lv
  | .nil, [], e => some e
  | .cons t ts, x :: xs, e => (asgT t (.d x) e).bind fun e1 => asgTs ts xs e1
  | _, _, _ => none
end
def wipeL (e : Lv) : List Nat → Lv
  | [] => e
  | v :: vs => (wipeL e vs).set v none
def itemsD : PyData → Option (List PyData)
  | .list xs => some xs
  | .tuple xs => some xs
  | _ => none
def rngD (lo hi : Int) : Option (List PyData) := if -(2 ^ 62) ≤ lo ∧ lo < 2 ^ 62 ∧ -(2 ^ 62) ≤ hi ∧ hi < 2 ^ 62 then some ((List.range (hi - lo).toNat).map fun (i : Nat) => .int (lo + (i : Int))) else none
def enumD (k : Nat) : List PyData → List PyData
  | [] => []
  | x :: xs => .tuple [.int k, x] :: enumD (k + 1) xs
def zipD : List PyData → List PyData → List PyData
  | x :: xs, y :: ys => .tuple [x, y] :: zipD xs ys
  | _, _ => []
def compL (f : PyData → M (Option Val)) : List PyData → M (List Val)
  | [] => rt []
  | x :: xs => bd (f x) fun o => bd (compL f xs) fun vs => rt (match o with | some v => v :: vs | none => vs)
/-- over a list that may be written later: its items by their places, its length looked at each turn -/
def compI (f : PyData → M (Option Val)) (v : Val) (n : Nat) : Nat → M (List Val)
  | 0 => bd (peek v) fun x => match x with
    | .list ds => if ds.length = n then rt [] else no
    | _ => no
  | k + 1 => bd (peek v) fun x => match x with
    | .list ds => if ds.length = n then (match ds[n - (k + 1)]? with
      | some d => bd (f d) fun o => bd (compI f v n k) fun vs => rt (match o with | some v => v :: vs | none => vs)
      | none => no) else no
    | _ => no
def compJ (f : PyData → M (Option Val)) (v : Val) : M (List Val) := bd (peek v) fun x => match x with
  | .list ds => compI f v ds.length ds.length
  | _ => no
def dcompL (f : PyData → M (Option (PyData × PyData))) : List PyData → List (PyData × PyData) → M (List (PyData × PyData))
  | [], acc => rt acc
  | x :: xs, acc => bd (f x) fun o => dcompL f xs (match o with | some (k, v) => putD k v acc | none => acc)
def compF (wh : Wh) (tgt : Tg) (own : List Nat) (mc : Lv → M Bool) (me : Lv → M Val) (e : Lv) (x : PyData) : M (Option Val) := match asgT tgt (.d x) (wipeL e own) with
  | some e1 => bd (mc e1) fun k => if k then bd (me e1) fun v => (match wh with | .pure => bd (keep v) fun x => rt (some (.d x)) | _ => rt (some v)) else rt none
  | none => no
def dcompF (tgt : Tg) (own : List Nat) (mc : Lv → M Bool) (mk mv : Lv → M Val) (e : Lv) (x : PyData) : M (Option (PyData × PyData)) := match asgT tgt (.d x) (wipeL e own) with
  | some e1 => bd (mc e1) fun c => if c then bd (mk e1) fun kv => bd (mv e1) fun vv => bd (peek kv) fun kx => bd (keep vv) fun vx => if isKey kx then rt (some (kx, vx)) else no else rt none
  | none => no
def scompL (f : PyData → M (Option Int)) : List PyData → M (List Int)
  | [] => rt []
  | x :: xs => bd (f x) fun o => bd (scompL f xs) fun vs => rt (match o with | some v => v :: vs | none => vs)
def scompF (tgt : Tg) (own : List Nat) (mc : Lv → M Bool) (me : Lv → M Val) (e : Lv) (x : PyData) : M (Option Int) := match asgT tgt (.d x) (wipeL e own) with
  | some e1 => bd (mc e1) fun k => if k then bd (me e1) fun v => bd (peek v) fun x => (match x with | .int i => rt (some i) | _ => no) else rt none
  | none => no
/-- two clauses: the inner one's turns for each turn of the outer one -/
def comp2F (wh : Wh) (tgt : Tg) (own : List Nat) (mi1 : Lv → M (List PyData)) (tg1 : Tg) (own1 : List Nat) (mc1 : Lv → M Bool) (me : Lv → M Val) (e : Lv) (x : PyData) : M (List Val) := match asgT tgt (.d x) (wipeL e own) with
  | some e1 => bd (mi1 e1) fun ys => compL (compF wh tg1 own1 mc1 me e1) ys
  | none => no
def comp2L (f : PyData → M (List Val)) : List PyData → M (List Val)
  | [] => rt []
  | x :: xs => bd (f x) fun us => bd (comp2L f xs) fun vs => rt (us ++ vs)
def catD : Operator → PyData → PyData → Option (List PyData)
  | .Add, .list a, .list b => some (a ++ b)
  | .Mult, .list a, .int k => if 0 ≤ k ∧ k < 1000 ∧ a.length * k.toNat ≤ 16777216 then some (List.replicate k.toNat a).flatten else none
  | _, _, _ => none
def varE (i : Nat) (e : Lv) : M Val := match e[i]? with
  | some (some v) => rt v
  | _ => no
def skI (rng : Bool) (x : PyData) : Option (List PyData) := if rng then (match x with
  | .int j => if 0 ≤ j ∧ j ≤ 16777216 then some ((List.range j.toNat).map fun (i : Nat) => .int (i : Int)) else none
  | _ => none) else (match x with
  | .list ds => some ds
  | _ => none)
mutual
def evE (T : Tx) : Ex → Lv → M Val
  | .var i, e => varE i e
  | .lit x, _ => rt (.d x)
  | .glo k, _ => ofO ((T.cs k).map .d)
  | .bin o a b, e => bd (evE T a e) fun v => bd (evE T b e) fun u => bd (peek v) fun x => bd (peek u) fun y => ofO ((binD o x y).map .d)
  | .neg a, e => bd (evE T a e) fun v => bd (peek v) fun x => ofO ((negD x).map .d)
  | .cmp o a b, e => bd (evE T a e) fun v => bd (evE T b e) fun u => bd (peek v) fun x => bd (peek u) fun y => ofO ((cmpD o x y).map fun c => .d (.bool c))
  | .chn o1 o2 a b c, e => bd (evE T a e) fun v => bd (evE T b e) fun u => bd (peek v) fun x => bd (peek u) fun y => bd (ofO (cmpD o1 x y)) fun k =>
      if k then bd (evE T c e) fun w => bd (peek u) fun y => bd (peek w) fun z => ofO ((cmpD o2 y z).map fun c => .d (.bool c)) else rt (.d (.bool false))
  | .and es, e => evA T es e
  | .or es, e => evO T es e
  | .not a, e => bd (evE T a e) fun v => bd (peek v) fun x => bd (ofO (truthD x)) fun k => rt (.d (.bool !k))
  | .ife c a b, e => bd (evT T c e) fun k => if k then evE T a e else evE T b e
  | .tup es, e => bd (evEs T es e) fun vs => bd (keeps vs) fun xs => if xs.length ≤ 16777216 then rt (.d (.tuple xs)) else no
  | .lst w es, e => bd (evEs T es e) fun vs => if vs.length ≤ 16777216 then place w vs else no
  | .dct0, _ => fun s => some (.l s.L.length, { s with L := s.L ++ [.dct []] })
  | .idx a b, e => bd (evE T a e) fun v => bd (evE T b e) fun u => idxV v u
  | .slc a lo hi, e => bd (evE T a e) fun v => bd (evP T lo e) fun i => bd (evP T hi e) fun j => bd (peek v) fun x => ofO ((sliceD i j x).map .d)
  | .rev a, e => bd (evE T a e) fun v => bd (peek v) fun x => ofO ((revD x).map .d)
  | .call f es, e => bd (evEs T es e) fun vs => bd (keepVs vs) fun vs => callV T f vs
  | .b1 f a, e => bd (evE T a e) fun v => b1V f v
  | .ss a, e => bd (evE T a e) fun v => bd (peek v) fun x => ofO ((ssD x).map .d)
  | .b2 f a b, e => bd (evE T a e) fun v => bd (evE T b e) fun u => bd (peek v) fun x => bd (peek u) fun y => ofO ((b2D f x y).map .d)
  | .isi a t, e => bd (evE T a e) fun v => bd (peek v) fun x => rt (.d (.bool (isiD t x)))
  | .get d k x, e => bd (evE T d e) fun d => bd (dctV d) fun _ => bd (evE T k e) fun k => bd (evE T x e) fun x => getV d k x
  | .app o a, e => bd (evE T o e) fun o => bd (lstV o) fun _ => bd (evE T a e) fun a => bd (appV o a) fun _ => rt (.d .none)
  | .comp w elt tg it cd own, e => bd (evI T it e) fun xs => bd (compL (compF w tg own (evC T cd) (evE T elt) e) xs) fun vs => if vs.length ≤ 16777216 then place w vs else no
  | .compi w elt tg src cd own, e => bd (evE T src e) fun u => bd (compJ (compF w tg own (evC T cd) (evE T elt) e) u) fun vs => if vs.length ≤ 16777216 then place w vs else no
  | .dcomp k v tg it cd own, e => bd (evI T it e) fun xs => bd (dcompL (dcompF tg own (evC T cd) (evE T k) (evE T v) e) xs []) fun kvs => if kvs.length < 16777216 then rt (.d (.dict kvs)) else no
  | .ssc elt tg it cd own, e => bd (evI T it e) fun xs => bd (scompL (scompF tg own (evC T cd) (evE T elt) e) xs) fun ns => if ns.length < 63 then rt (.d (.list ((usort ns).map .int))) else no
  | .comp2 w elt tg it tg1 it1 cd1 own own1, e => bd (evI T it e) fun xs => bd (comp2L (comp2F w tg own (evI T it1) tg1 own1 (evC T cd1) (evE T elt) e) xs) fun vs => if vs.length ≤ 16777216 then place w vs else no
  | .binl w o a b, e => bd (evE T a e) fun v => bd (evE T b e) fun u => bd (peek v) fun x => bd (peek u) fun y => bd (ofO (catD o x y)) fun ds => if ds.length ≤ 16777216 then place w (ds.map .d) else no
  | .lm f o a, e => bd (evE T o e) fun v => bd (lisV v) fun _ => bd (evE T a e) fun u => bd (peek v) fun x => bd (peek u) fun y => ofO ((lmD f x y).map .d)
  | .isx i k, e => isxV T i k e
  | .dctp, _ => rt (.d (.dict []))
  | .sk rng a i b, e => bd (evE T a e) fun v => bd (peek v) fun x => bd (ofO (skI rng x)) fun ds => ofO ((skD b i (dLv e) ds).map .d)
  | .said ws f es, e => bd (evEs T es e) fun vs => bd (keepVs vs) fun vs => saidV T ws f vs
  termination_by structural a => a
def evEs (T : Tx) : Exs → Lv → M (List Val)
  | .nil, _ => rt []
  | .cons a es, e => bd (evE T a e) fun v => bd (evEs T es e) fun vs => rt (v :: vs)
  termination_by structural a => a
def evA (T : Tx) : Exs → Lv → M Val
  | .nil, _ => no
  | .cons a .nil, e => evE T a e
  | .cons a es, e => bd (evE T a e) fun v => bd (peek v) fun x => bd (ofO (truthD x)) fun k => if k then evA T es e else rt v
  termination_by structural a => a
def evO (T : Tx) : Exs → Lv → M Val
  | .nil, _ => no
  | .cons a .nil, e => evE T a e
  | .cons a es, e => bd (evE T a e) fun v => bd (peek v) fun x => bd (ofO (truthD x)) fun k => if k then rt v else evO T es e
  termination_by structural a => a
def evP (T : Tx) : Xo → Lv → M (Option Int)
  | .none, _ => rt none
  | .some a, e => bd (evE T a e) fun v => bd (peek v) fun x => match x with
    | .int i => rt (some i)
    | _ => no
  termination_by structural a => a
def evC (T : Tx) : Co → Lv → M Bool
  | .none, _ => rt true
  | .some a, e => evT T a e
  termination_by structural a => a
def evI (T : Tx) : Ix → Lv → M (List PyData)
  | .seq a, e => bd (evE T a e) fun v => bd (keep v) fun x => ofO (itemsD x)
  | .rng1 a, e => bd (evE T a e) fun v => bd (peek v) fun x => match x with
    | .int j => ofO (rngD 0 j)
    | _ => no
  | .rng2 a b, e => bd (evE T a e) fun v => bd (evE T b e) fun u => bd (peek v) fun x => bd (peek u) fun y => match x, y with
    | .int i, .int j => ofO (rngD i j)
    | _, _ => no
  | .enum a, e => bd (evE T a e) fun v => bd (keep v) fun x => bd (ofO (itemsD x)) fun xs => rt (enumD 0 xs)
  | .zip st a b, e => bd (evE T a e) fun v => bd (evE T b e) fun u => bd (keep v) fun x => bd (keep u) fun y => bd (ofO (itemsD x)) fun xs => bd (ofO (itemsD y)) fun ys =>
      if st && xs.length != ys.length then no else rt (zipD xs ys)
  | .ezip a b, e => bd (evE T a e) fun v => bd (evE T b e) fun u => bd (keep v) fun x => bd (keep u) fun y => bd (ofO (itemsD x)) fun xs => bd (ofO (itemsD y)) fun ys => rt (enumD 0 (zipD xs ys))
  termination_by structural a => a
def evT (T : Tx) : Ct → Lv → M Bool
  | .v a, e => bd (evE T a e) fun v => bd (peek v) fun x => ofO (truthD x)
  | .not a, e => bd (evT T a e) fun k => rt !k
  | .and cs, e => evTA T cs e
  | .or cs, e => evTO T cs e
  | .ife c a b, e => bd (evT T c e) fun k => if k then evT T a e else evT T b e
  termination_by structural a => a
def evTA (T : Tx) : Cts → Lv → M Bool
  | .nil, _ => rt true
  | .cons a cs, e => bd (evT T a e) fun k => if k then evTA T cs e else rt false
  termination_by structural a => a
def evTO (T : Tx) : Cts → Lv → M Bool
  | .nil, _ => rt false
  | .cons a cs, e => bd (evT T a e) fun k => if k then rt true else evTO T cs e
  termination_by structural a => a
end
abbrev Out := Option (Flow × Lv × Sto)
def stp {α : Type} (m : M α) (f : α → Sto → Out) (s : Sto) : Out := match m s with
  | none => none
  | some (a, s') => f a s'
def sq (o : Out) (f : Lv → Sto → Out) : Out := match o with
  | some (.nx, e, s) => f e s
  | o => o
/-- a loop's body ended so: on, or out -/
def loopN (k : Lv → Sto → Out) : Out → Out
  | some (.nx, e, s) => k e s
  | some (.ct, e, s) => k e s
  | some (.bk, e, s) => some (.nx, e, s)
  | o => o
def forL (f : PyData → Lv → Sto → Out) : List PyData → Lv → Sto → Out
  | [], e, s => some (.nx, e, s)
  | x :: xs, e, s => loopN (forL f xs) (f x e s)
def whlL (c : Lv → M Bool) (f : Lv → Sto → Out) : Nat → Lv → Sto → Out
  | 0, _, _ => none
  | n + 1, e, s => stp (c e) (fun k s => if k then loopN (whlL c f n) (f e s) else some (.nx, e, s)) s
def forF (tg : Tg) (f : Lv → Sto → Out) (x : PyData) (e : Lv) (s : Sto) : Out := match asgT tg (.d x) e with
  | some e1 => f e1 s
  | none => none
/-- the item of a list of a store that is to be written anew -/
def augG (c i : Val) : M Val := bd (peek i) fun k => fun s => match getO c s with
  | some (.lst vs) => (match k with
    | .int j => if 0 ≤ j then (vs[j.toNat]?).map fun v => (v, s) else none
    | _ => none)
  | _ => none
def augI (o : Operator) (x y : PyData) : Option Val := match x, y with
  | .int _, .int _ => (binD o x y).map .d
  | _, _ => none
/-- a call whose exception goes on -/
def callX (T : Tx) (f : Nat) (vs : List Val) (k : Val → Sto → Out) (e : Lv) (s : Sto) : Out := if noG s.G then (match T.xr f vs s.G with
  | some (.inl v, g) => k v { s with G := g }
  | some (.inr c, g) => some (.xc c, e, { s with G := g })
  | none => none) else none
mutual
def evS (T : Tx) : St → Lv → Sto → Out
  | .ex a, e, s => stp (evE T a e) (fun _ s => some (.nx, e, s)) s
  | .set i a, e, s => stp (evE T a e) (fun v s => some (.nx, e.set i (some v), s)) s
  | .par i j a b, e, s => stp (evE T a e) (fun v s => stp (evE T b e) (fun u s => some (.nx, (e.set i (some v)).set j (some u), s)) s) s
  | .par3 i j k a b c, e, s => stp (evE T a e) (fun v s => stp (evE T b e) (fun u s => stp (evE T c e) (fun w s => some (.nx, ((e.set i (some v)).set j (some u)).set k (some w), s)) s) s) s
  | .asg tg a, e, s => stp (evE T a e) (fun v s => (asgT tg v e).map fun e1 => (.nx, e1, s)) s
  | .sub o i v, e, s => stp (evE T v e) (fun x s => stp (evE T o e) (fun c s => stp (evE T i e) (fun k s => stp (setV c k x) (fun _ s => some (.nx, e, s)) s) s) s) s
  | .augs c i o a, e, s => stp (evE T c e) (fun cv s => stp (evE T i e) (fun iv s => stp (augG cv iv) (fun v s => stp (evE T a e) (fun u s => stp (bd (peek v) fun x => bd (peek u) fun y => ofO (augI o x y)) (fun w s =>
      stp (setV cv iv w) (fun _ s => some (.nx, e, s)) s) s) s) s) s) s
  | .iff c a b, e, s => stp (evT T c e) (fun k s => if k then evSs T a e s else evSs T b e s) s
  | .forr tg it body, e, s => stp (evI T it e) (fun xs s => forL (forF tg (evSs T body)) xs e s) s
  | .whl n c body, e, s => whlL (evT T c) (evSs T body) n e s
  | .ret a, e, s => stp (evE T a e) (fun v s => stp (keepV v) (fun w s => some (.rt w, e, s)) s) s
  | .ret0, e, s => some (.rt (.d .none), e, s)
  | .rse, _, _ => none
  | .pass, e, s => some (.nx, e, s)
  | .rsx c, e, s => some (.xc c, e, s)
  | .exx f es, e, s => stp (evEs T es e) (fun vs s => stp (keepVs vs) (fun vs s => callX T f vs (fun _ s => some (.nx, e, s)) e s) s) s
  | .retx f es, e, s => stp (evEs T es e) (fun vs s => stp (keepVs vs) (fun vs s => callX T f vs (fun v s => stp (keepV v) (fun w s => some (.rt w, e, s)) s) e s) s) s
  | .setx i f es, e, s => stp (evEs T es e) (fun vs s => stp (keepVs vs) (fun vs s => callX T f vs (fun v s => some (.nx, e.set i (some v), s)) e s) s) s
  termination_by structural a => a
def evSs (T : Tx) : Sts → Lv → Sto → Out
  | .nil, e, s => some (.nx, e, s)
  | .cons a as, e, s => sq (evS T a e s) (evSs T as)
  termination_by structural a => a
end
/-- a def: its parameters, its slots, its body -/
structure Df where
  ar : Nat
  sl : Nat
  body : Sts
def startL (ar sl : Nat) (vs : List Val) : Lv := vs.map some ++ List.replicate (sl - ar) none
def endD : Out → Option (Val × List SO)
  | some (.rt v, _, s) => if noG s.G && noV [v] then some (v, s.G) else none
  | some (.nx, _, s) => if noG s.G then some (.d .none, s.G) else none
  | _ => none
def runD (T : Tx) (d : Df) (vs : List Val) (g : List SO) : Option (Val × List SO) := if vs.length = d.ar then endD (evSs T d.body (startL d.ar d.sl vs) ⟨[], g⟩) else none
def endX : Out → Option ((Val ⊕ Nat) × List SO)
  | some (.rt v, _, s) => if noG s.G && noV [v] then some (.inl v, s.G) else none
  | some (.nx, _, s) => if noG s.G then some (.inl (.d .none), s.G) else none
  | some (.xc c, _, s) => if noG s.G then some (.inr c, s.G) else none
  | _ => none
def runX (T : Tx) (d : Df) (vs : List Val) (g : List SO) : Option ((Val ⊕ Nat) × List SO) := if vs.length = d.ar then endX (evSs T d.body (startL d.ar d.sl vs) ⟨[], g⟩) else none
theorem end_val (o : Out) : valO (endX o) = endD o := by
  cases o with
  | none => rfl
  | some p =>
    obtain ⟨fl, e, s⟩ := p
    cases fl with
    | nx => show valO (if noG s.G then _ else none) = (if noG s.G then _ else none); split <;> rfl
    | bk => rfl
    | ct => rfl
    | rt v => show valO (if (noG s.G && noV [v]) then _ else none) = (if (noG s.G && noV [v]) then _ else none); split <;> rfl
    | xc c => show valO (if noG s.G then _ else none) = none; split <;> rfl
theorem run_val (T : Tx) (d : Df) (vs : List Val) (g : List SO) : valO (runX T d vs g) = runD T d vs g := by
  unfold runX runD
  split
  · exact end_val _
  · rfl
/-- the defs of a program, called to a depth -/
def xi (cs : Nat → Option PyData) (ds : List Df) : Nat → XT
  | 0 => fun _ _ _ => none
  | n + 1 => fun f vs g => match ds[f]? with
    | some d => runX ⟨cs, xi cs ds n⟩ d vs g
    | none => none
def phi (cs : Nat → Option PyData) (ds : List Df) (n : Nat) : FT := normT (xi cs ds n)
theorem phi_succ (cs : Nat → Option PyData) (ds : List Df) (n f : Nat) (vs : List Val) (g : List SO) : phi cs ds (n + 1) f vs g = match ds[f]? with
    | some d => runD ⟨cs, xi cs ds n⟩ d vs g
    | none => none := by
  show valO (match ds[f]? with | some d => runX ⟨cs, xi cs ds n⟩ d vs g | none => none) = _
  cases ds[f]? with
  | none => rfl
  | some d => exact run_val _ _ _ _
end Ev

/-! how the evaluator's values lie in the hand layer's heap -/
namespace Ev
open PySem PySem.Spec PyProof.Rows L2 LamX

/-! ### two lists, item by item -/
inductive All2 {α β : Type} (R : α → β → Prop) : List α → List β → Prop where
  | nil : All2 R [] []
  | cons {a b as bs} : R a b → All2 R as bs → All2 R (a :: as) (b :: bs)
namespace All2
variable {α β γ : Type} {R S : α → β → Prop}
theorem len {as : List α} {bs : List β} (h : All2 R as bs) : as.length = bs.length := by
  induction h with
  | nil => rfl
  | cons _ _ ih => simp [ih]
theorem imp {as : List α} {bs : List β} (h : All2 R as bs) (f : ∀ a b, R a b → S a b) : All2 S as bs := by
  induction h with
  | nil => exact .nil
  | cons x _ ih => exact .cons (f _ _ x) ih
theorem at_ {as : List α} {bs : List β} (h : All2 R as bs) : ∀ {i : Nat} {a : α}, as[i]? = some a → ∃ b, bs[i]? = some b ∧ R a b := by
  induction h with
  | nil => intro i a e; simp at e
  | cons x _ ih =>
    intro i a e
    cases i with
    | zero => simp at e; subst e; exact ⟨_, rfl, x⟩
    | succ i => simp at e; obtain ⟨b, h1, h2⟩ := ih e; exact ⟨b, by simpa using h1, h2⟩
theorem atR {as : List α} {bs : List β} (h : All2 R as bs) : ∀ {i : Nat} {b : β}, bs[i]? = some b → ∃ a, as[i]? = some a ∧ R a b := by
  induction h with
  | nil => intro i a e; simp at e
  | cons x _ ih =>
    intro i a e
    cases i with
    | zero => simp at e; subst e; exact ⟨_, rfl, x⟩
    | succ i => simp at e; obtain ⟨b, h1, h2⟩ := ih e; exact ⟨b, by simpa using h1, h2⟩
theorem app {as as' : List α} {bs bs' : List β} (h : All2 R as bs) (h' : All2 R as' bs') : All2 R (as ++ as') (bs ++ bs') := by
  induction h with
  | nil => exact h'
  | cons x _ ih => exact .cons x ih
theorem take {as : List α} {bs : List β} (h : All2 R as bs) : ∀ n, All2 R (as.take n) (bs.take n) := by
  induction h with
  | nil => intro n; cases n <;> exact .nil
  | cons x _ ih => intro n; cases n with
    | zero => exact .nil
    | succ n => exact .cons x (ih n)
theorem drop {as : List α} {bs : List β} (h : All2 R as bs) : ∀ n, All2 R (as.drop n) (bs.drop n) := by
  induction h with
  | nil => intro n; cases n <;> exact .nil
  | cons x y ih => intro n; cases n with
    | zero => exact .cons x y
    | succ n => exact ih n
theorem set {as : List α} {bs : List β} {a : α} {b : β} (h : All2 R as bs) (r : R a b) : ∀ n, All2 R (as.set n a) (bs.set n b) := by
  induction h with
  | nil => intro n; exact .nil
  | cons x y ih => intro n; cases n with
    | zero => exact .cons r y
    | succ n => exact .cons x (ih n)
theorem rev {as : List α} {bs : List β} (h : All2 R as bs) : All2 R as.reverse bs.reverse := by
  induction h with
  | nil => exact .nil
  | cons x _ ih => rw [List.reverse_cons, List.reverse_cons]; exact ih.app (.cons x .nil)
theorem rep {as : List α} {bs : List β} (h : All2 R as bs) : ∀ k : Nat, All2 R (List.replicate k as).flatten (List.replicate k bs).flatten
  | 0 => .nil
  | k + 1 => by
    rw [List.replicate_succ, List.replicate_succ, List.flatten_cons, List.flatten_cons]
    exact h.app (rep h k)
theorem emp {as : List α} {bs : List β} (h : All2 R as bs) : as.isEmpty = bs.isEmpty := by
  cases h <;> rfl
end All2

/-! ### pure data -/
def kP : Key → PyData
  | .inl i => .int i
  | .inr x => .str x
/-- all that F tells H tells, too -/
def Sub (F H : Hp) : Prop := ∀ a o, F a = some o → H a = some o
theorem Sub.refl (F : Hp) : Sub F F := fun _ _ h => h
theorem Sub.trans {F G H : Hp} (a : Sub F G) (b : Sub G H) : Sub F H := fun c o h => b c o (a c o h)
section
variable (K : PySem.W.Frag) (F : Hp)
mutual
def Rp : PyData → V → Prop
  | .none, v => v = .non
  | .bool b, v => v = .bl b
  | .int i, v => v = .int i
  | .str x, v => v = .str x
  | .list ds, v => ∃ a xs, v = .ref a ∧ F a = some (.lst xs) ∧ RpA ds xs
  | .tuple ds, v => ∃ a xs, v = .ref a ∧ SqT K F a xs ∧ RpA ds xs
  | .dict kds, v => ∃ a ks, v = .ref a ∧ F a = some (.dK ks) ∧ RpK kds ks
def RpA : List PyData → List V → Prop
  | [], vs => vs = []
  | d :: ds, vs => ∃ x xs, vs = x :: xs ∧ Rp d x ∧ RpA ds xs
def RpK : List (PyData × PyData) → List (Key × V) → Prop
  | [], ks => ks = []
  | (k, d) :: kds, ks => ∃ q x xs, ks = (q, x) :: xs ∧ k = kP q ∧ Rp d x ∧ RpK kds xs
end
end
section
variable {K : PySem.W.Frag} {F G H : Hp}
theorem sqL_mono (s : Sub F G) {a : Addr} {xs : List V} (h : SqL K F a xs) : SqL K G a xs := by
  rcases h with (h | ⟨o, h⟩) | h
  · exact .inl (.inl (s _ _ h))
  · exact .inl (.inr ⟨o, s _ _ h⟩)
  · exact .inr h
theorem sqT_mono (s : Sub F G) {a : Addr} {xs : List V} (h : SqT K F a xs) : SqT K G a xs := by
  rcases h with (h | ⟨o, h⟩) | h
  · exact .inl (.inl (s _ _ h))
  · exact .inl (.inr ⟨o, s _ _ h⟩)
  · exact .inr h
mutual
theorem Rp.mono (s : Sub F G) : ∀ (d : PyData) {v : V}, Rp K F d v → Rp K G d v
  | .none, _, h => h
  | .bool _, _, h => h
  | .int _, _, h => h
  | .str _, _, h => h
  | .list ds, _, h => by
    unfold Rp at h ⊢
    obtain ⟨a, xs, e, h1, h2⟩ := h
    exact ⟨a, xs, e, s _ _ h1, RpA.mono s ds h2⟩
  | .tuple ds, _, h => by
    unfold Rp at h ⊢
    obtain ⟨a, xs, e, h1, h2⟩ := h
    exact ⟨a, xs, e, sqT_mono s h1, RpA.mono s ds h2⟩
  | .dict kds, _, h => by
    unfold Rp at h ⊢
    obtain ⟨a, xs, e, h1, h2⟩ := h
    exact ⟨a, xs, e, s _ _ h1, RpK.mono s kds h2⟩
theorem RpA.mono (s : Sub F G) : ∀ (ds : List PyData) {vs : List V}, RpA K F ds vs → RpA K G ds vs
  | [], _, h => h
  | d :: ds, _, h => by
    unfold RpA at h ⊢
    obtain ⟨x, xs, e, h1, h2⟩ := h
    exact ⟨x, xs, e, Rp.mono s d h1, RpA.mono s ds h2⟩
theorem RpK.mono (s : Sub F G) : ∀ (ds : List (PyData × PyData)) {vs : List (Key × V)}, RpK K F ds vs → RpK K G ds vs
  | [], _, h => h
  | (k, d) :: ds, _, h => by
    unfold RpK at h ⊢
    obtain ⟨q, x, xs, e, e2, h1, h2⟩ := h
    exact ⟨q, x, xs, e, e2, Rp.mono s d h1, RpK.mono s ds h2⟩
end
theorem rpA_iff : ∀ {ds : List PyData} {vs : List V}, RpA K F ds vs ↔ All2 (Rp K F) ds vs
  | [], vs => by
    unfold RpA
    constructor
    · rintro rfl; exact .nil
    · intro h; cases h; rfl
  | d :: ds, vs => by
    unfold RpA
    constructor
    · rintro ⟨x, xs, rfl, h1, h2⟩; exact .cons h1 (rpA_iff.mp h2)
    · intro h; cases h with
      | cons a b => exact ⟨_, _, rfl, a, rpA_iff.mpr b⟩
/-- a datum whose own object stands in H, what it holds in F -/
def Rt (K : PySem.W.Frag) (H F : Hp) : PyData → V → Prop
  | .none, v => v = .non
  | .bool b, v => v = .bl b
  | .int i, v => v = .int i
  | .str x, v => v = .str x
  | .list ds, v => ∃ a xs, v = .ref a ∧ H a = some (.lst xs) ∧ RpA K F ds xs
  | .tuple ds, v => ∃ a xs, v = .ref a ∧ SqT K F a xs ∧ RpA K F ds xs
  | .dict kds, v => ∃ a ks, v = .ref a ∧ H a = some (.dK ks) ∧ RpK K F kds ks
theorem Rp.top (s : Sub F H) {d : PyData} {v : V} (h : Rp K F d v) : Rt K H F d v := by
  cases d <;> unfold Rp at h <;> unfold Rt
  · exact h
  · exact h
  · exact h
  · exact h
  · obtain ⟨a, xs, e, h1, h2⟩ := h; exact ⟨a, xs, e, s _ _ h1, h2⟩
  · exact h
  · obtain ⟨a, xs, e, h1, h2⟩ := h; exact ⟨a, xs, e, s _ _ h1, h2⟩
theorem Rt.full (s : Sub F H) {d : PyData} {v : V} (h : Rt K H F d v) : Rp K H d v := by
  cases d <;> unfold Rt at h <;> unfold Rp
  · exact h
  · exact h
  · exact h
  · exact h
  · obtain ⟨a, xs, e, h1, h2⟩ := h; exact ⟨a, xs, e, h1, RpA.mono s _ h2⟩
  · obtain ⟨a, xs, e, h1, h2⟩ := h; exact ⟨a, xs, e, sqT_mono s h1, RpA.mono s _ h2⟩
  · obtain ⟨a, xs, e, h1, h2⟩ := h; exact ⟨a, xs, e, h1, RpK.mono s _ h2⟩
end

/-! ### what the library's rules over data want -/
theorem readsAll_paired {h : Heap} {ds : List PyData} {us : List Value} (a : All2 (fun d u => ∃ as, Reads h u d as) ds us) : ∃ as, ReadsAll h us ds as := by
  induction a with
  | nil => exact ⟨_, .nil⟩
  | cons x _ ih =>
    obtain ⟨as, q⟩ := x
    obtain ⟨bs, q2⟩ := ih
    exact ⟨_, .cons q q2⟩
section
variable {X : Cx} {pins : List (Addr × Obj)} {σ : L2.St} {H : Hp} {s : Shared}
theorem keyReads {q : Key} {u : Value} {h : Heap} (r : keyIs q u = true) : ∃ as, Reads h u (kP q) as := by
  rcases keyIs_shape r with ⟨i, t, rfl, rfl⟩ | ⟨x, t, rfl, rfl⟩
  · exact ⟨_, .int i t⟩
  · exact ⟨_, .str x t⟩
mutual
theorem Rp.reads (I : Inv X pins σ H s) : ∀ (d : PyData) {v : V} {u : Value}, Rp X.K H d v → RelV v u → ∃ as, Reads s.heap u d as
  | .none, v, u, h, r => by
    unfold Rp at h; subst h; cases r; exact ⟨_, .none⟩
  | .bool b, v, u, h, r => by
    unfold Rp at h; subst h; cases r; exact ⟨_, .bool b⟩
  | .int i, v, u, h, r => by
    unfold Rp at h; subst h; obtain ⟨t, rfl⟩ := r; exact ⟨_, .int i t⟩
  | .str x, v, u, h, r => by
    unfold Rp at h; subst h; obtain ⟨t, rfl⟩ := r; exact ⟨_, .str x t⟩
  | .list ds, v, u, h, r => by
    unfold Rp at h
    obtain ⟨a, xs, rfl, h1, h2⟩ := h
    cases r
    obtain ⟨its, rv, ⟨o, n, ho, hc, _, hd⟩, _⟩ := I.list (SqL.of h1)
    obtain ⟨as, q⟩ := RpA.reads I ds h2 rv
    exact ⟨_, .list ho hc hd (by simpa using q)⟩
  | .tuple ds, v, u, h, r => by
    unfold Rp at h
    obtain ⟨a, xs, rfl, h1, h2⟩ := h
    cases r
    obtain ⟨its, rv, ⟨o, ho, hc, n, hd⟩, _⟩ := I.tuple h1
    obtain ⟨as, q⟩ := RpA.reads I ds h2 rv
    exact ⟨_, .tuple ho hc hd (by simpa using q)⟩
  | .dict kds, v, u, h, r => by
    unfold Rp at h
    obtain ⟨a, ks, rfl, h1, h2⟩ := h
    cases r
    obtain ⟨_, _, vs, kv, o, es, ep, ho, hx, hd, hk, he, _⟩ := (show ObjOk X.prog X.w H s.heap a (.dK ks) from I.hok a _ h1)
    obtain ⟨as, bs, q1, q2⟩ := RpK.reads I kds h2 kv he
    exact ⟨_, .dict ho hx.1 hd q1 q2⟩
theorem RpA.reads (I : Inv X pins σ H s) : ∀ (ds : List PyData) {vs : List V} {us : List Value}, RpA X.K H ds vs → Vals vs us → ∃ as, ReadsAll s.heap us ds as
  | [], vs, us, h, r => by
    unfold RpA at h; subst h; cases r; exact ⟨_, .nil⟩
  | d :: ds, vs, us, h, r => by
    unfold RpA at h
    obtain ⟨x, xs, rfl, h1, h2⟩ := h
    cases r with
    | cons r1 r2 =>
      obtain ⟨as, q1⟩ := Rp.reads I d h1 r1
      obtain ⟨bs, q2⟩ := RpA.reads I ds h2 r2
      exact ⟨_, .cons q1 q2⟩
theorem RpK.reads (I : Inv X pins σ H s) : ∀ (ds : List (PyData × PyData)) {ks : List (Key × V)} {vs : List (Key × Value)} {es : List DictEntry}, RpK X.K H ds ks → KV ks vs → Pairs (mixKind X.prog X.w) es vs →
    ∃ as bs, ReadsAll s.heap (es.map (·.key)) (ds.map (·.1)) as ∧ ReadsAll s.heap (es.map (·.val)) (ds.map (·.2)) bs
  | [], ks, vs, es, h, r, p => by
    unfold RpK at h; subst h; cases r; cases p; exact ⟨_, _, .nil, .nil⟩
  | (k, d) :: ds, ks, vs, es, h, r, p => by
    unfold RpK at h
    obtain ⟨q, x, xs, rfl, rfl, h1, h2⟩ := h
    cases r with
    | cons r1 r2 =>
      cases p with
      | cons p1 p2 p3 =>
        obtain ⟨as, q1⟩ := Rp.reads I d h1 r1.2
        obtain ⟨bs, cs, q2, q3⟩ := RpK.reads I ds h2 r2 p3
        have e : q = _ := r1.1
        obtain ⟨as', q0⟩ := keyReads (h := s.heap) p1
        rw [← e] at q0
        rw [← p2] at q1
        exact ⟨_, _, .cons q0 q2, .cons q1 q3⟩
end
theorem keyReadsS {q : Key} {u : Value} {h : Heap} (r : keyIs q u = true) : ∃ as, Reads h u (kP q) as ∧ sysModules ∉ as := by
  rcases keyIs_shape r with ⟨i, t, rfl, rfl⟩ | ⟨x, t, rfl, rfl⟩
  · exact ⟨_, .int i t, by simp⟩
  · exact ⟨_, .str x t, by simp⟩
mutual
theorem Rp.readsS (I : Inv X pins σ H s) (sm : ∃ o, s.heap.get? sysModules = some o ∧ o.cls = .type "dict") : ∀ (d : PyData) {v : V} {u : Value}, Rp X.K H d v → RelV v u → ∃ as, Reads s.heap u d as ∧ sysModules ∉ as
  | .none, v, u, h, r => by
    unfold Rp at h; subst h; cases r; exact ⟨_, .none, by simp⟩
  | .bool b, v, u, h, r => by
    unfold Rp at h; subst h; cases r; exact ⟨_, .bool b, by simp⟩
  | .int i, v, u, h, r => by
    unfold Rp at h; subst h; obtain ⟨t, rfl⟩ := r; exact ⟨_, .int i t, by simp⟩
  | .str x, v, u, h, r => by
    unfold Rp at h; subst h; obtain ⟨t, rfl⟩ := r; exact ⟨_, .str x t, by simp⟩
  | .list ds, v, u, h, r => by
    unfold Rp at h
    obtain ⟨a, xs, rfl, h1, h2⟩ := h
    cases r
    obtain ⟨its, rv, ⟨o, n, ho, hc, _, hd⟩, _⟩ := I.list (SqL.of h1)
    obtain ⟨as, q, nm⟩ := RpA.readsS I sm ds h2 rv
    refine ⟨_, .list ho hc hd (by simpa using q), fun hm => ?_⟩
    rcases List.mem_cons.mp hm with e | hm
    · obtain ⟨u, hu, hc2⟩ := sm
      rw [e, ho] at hu
      cases hu
      rw [hc] at hc2
      injection hc2 with q
      exact absurd q (by decide)
    · exact nm hm
  | .tuple ds, v, u, h, r => by
    unfold Rp at h
    obtain ⟨a, xs, rfl, h1, h2⟩ := h
    cases r
    obtain ⟨its, rv, ⟨o, ho, hc, n, hd⟩, _⟩ := I.tuple h1
    obtain ⟨as, q, nm⟩ := RpA.readsS I sm ds h2 rv
    exact ⟨_, .tuple ho hc hd (by simpa using q), nm⟩
  | .dict kds, v, u, h, r => by
    unfold Rp at h
    obtain ⟨a, ks, rfl, h1, h2⟩ := h
    cases r
    obtain ⟨_, hsm, vs, kv, o, es, ep, ho, hx, hd, hk, he, _⟩ := (show ObjOk X.prog X.w H s.heap a (.dK ks) from I.hok a _ h1)
    obtain ⟨as, bs, q1, q2, m1, m2⟩ := RpK.readsS I sm kds h2 kv he
    refine ⟨_, .dict ho hx.1 hd q1 q2, fun hm => ?_⟩
    rcases List.mem_append.mp hm with hm | hm
    · rcases List.mem_cons.mp hm with e | hm
      · rw [← e] at hsm
        exact absurd hsm (by decide)
      · exact m1 hm
    · exact m2 hm
theorem RpA.readsS (I : Inv X pins σ H s) (sm : ∃ o, s.heap.get? sysModules = some o ∧ o.cls = .type "dict") : ∀ (ds : List PyData) {vs : List V} {us : List Value}, RpA X.K H ds vs → Vals vs us → ∃ as, ReadsAll s.heap us ds as ∧ sysModules ∉ as
  | [], vs, us, h, r => by
    unfold RpA at h; subst h; cases r; exact ⟨_, .nil, by simp⟩
  | d :: ds, vs, us, h, r => by
    unfold RpA at h
    obtain ⟨x, xs, rfl, h1, h2⟩ := h
    cases r with
    | cons r1 r2 =>
      obtain ⟨as, q1, m1⟩ := Rp.readsS I sm d h1 r1
      obtain ⟨bs, q2, m2⟩ := RpA.readsS I sm ds h2 r2
      exact ⟨_, .cons q1 q2, fun hm => (List.mem_append.mp hm).elim m1 m2⟩
theorem RpK.readsS (I : Inv X pins σ H s) (sm : ∃ o, s.heap.get? sysModules = some o ∧ o.cls = .type "dict") : ∀ (ds : List (PyData × PyData)) {ks : List (Key × V)} {vs : List (Key × Value)} {es : List DictEntry}, RpK X.K H ds ks → KV ks vs → Pairs (mixKind X.prog X.w) es vs →
    ∃ as bs, ReadsAll s.heap (es.map (·.key)) (ds.map (·.1)) as ∧ ReadsAll s.heap (es.map (·.val)) (ds.map (·.2)) bs ∧ sysModules ∉ as ∧ sysModules ∉ bs
  | [], ks, vs, es, h, r, p => by
    unfold RpK at h; subst h; cases r; cases p; exact ⟨_, _, .nil, .nil, by simp, by simp⟩
  | (k, d) :: ds, ks, vs, es, h, r, p => by
    unfold RpK at h
    obtain ⟨q, x, xs, rfl, rfl, h1, h2⟩ := h
    cases r with
    | cons r1 r2 =>
      cases p with
      | cons p1 p2 p3 =>
        obtain ⟨as, q1, m1⟩ := Rp.readsS I sm d h1 r1.2
        obtain ⟨bs, cs, q2, q3, m2, m3⟩ := RpK.readsS I sm ds h2 r2 p3
        have e : q = _ := r1.1
        obtain ⟨as', q0, m0⟩ := keyReadsS (h := s.heap) p1
        rw [← e] at q0
        rw [← p2] at q1
        exact ⟨_, _, .cons q0 q2, .cons q1 q3, fun hm => (List.mem_append.mp hm).elim m0 m2, fun hm => (List.mem_append.mp hm).elim m1 m3⟩
end
end

/-! ### worlds -/
/-- what stands at p is no table and no code object -/
def Pl (H : Hp) (p : Addr) : Prop := ∀ o, H p = some o → (∀ ps, o ≠ .tbl ps) ∧ ∀ q, o ≠ CodeO p q
theorem Pl.none {H : Hp} {p : Addr} (h : H p = none) : Pl H p := fun o e => by rw [h] at e; cases e
theorem Pl.lst {H : Hp} {p : Addr} {xs : List V} (h : H p = some (.lst xs)) : Pl H p := fun o e => by
  rw [h] at e; cases e
  refine ⟨fun ps z => ?_, fun q z => ?_⟩
  · cases z
  · unfold CodeO at z; cases z
theorem Pl.dK {H : Hp} {p : Addr} {ks : List (Key × V)} (h : H p = some (.dK ks)) : Pl H p := fun o e => by
  rw [h] at e; cases e
  refine ⟨fun ps z => ?_, fun q z => ?_⟩
  · cases z
  · unfold CodeO at z; cases z
theorem tabs_upd {T : List (Addr × Str)} {H : Hp} {p : Addr} {o : HO} (t : Tabs T H) (h : Pl H p) : Tabs T (upd H p o) := fun x hx => by
  obtain ⟨ps, h1, h2, h3⟩ := t x hx
  have ne : ∀ a u, H a = some u → ((∃ ps, u = .tbl ps) ∨ ∃ q, u = CodeO a q) → a ≠ p := fun a u e z ap => by
    subst ap
    obtain ⟨k1, k2⟩ := h u e
    rcases z with ⟨ps, z⟩ | ⟨q, z⟩
    · exact k1 ps z
    · exact k2 q z
  refine ⟨ps, by rw [upd_ne (ne _ _ h1 (.inl ⟨_, rfl⟩))]; exact h1, h2, fun pos cv hc => ?_⟩
  obtain ⟨c, e1, e2⟩ := h3 pos cv hc
  exact ⟨c, e1, by rw [upd_ne (ne _ _ e2 (.inr ⟨_, rfl⟩))]; exact e2⟩
/-- F: what is never written any more; mu: where the global store's objects stand; nu: the call's own; T: the tables of code objects -/
structure Wd where
  F : Hp
  mu : List Addr
  nu : List Addr
  T : List (Addr × Str)
section
variable (K : PySem.W.Frag)
def Rv (w : Wd) : Val → V → Prop
  | .d x, v => Rp K w.F x v
  | .g n, v => ∃ a, w.mu[n]? = some a ∧ v = .ref a
  | .l n, v => ∃ a, w.nu[n]? = some a ∧ v = .ref a
  | .s ns, v => ∃ a, v = .ref a ∧ SqL K w.F a (ns.map V.int)
  | .e a, v => v = .ref a
def Ro (w : Wd) (H : Hp) (a : Addr) : SO → Prop
  | .lst vs => w.F a = none ∧ ∃ xs, H a = some (.lst xs) ∧ All2 (Rv K w) vs xs
  | .dct kvs => w.F a = none ∧ ∃ ks, H a = some (.dK ks) ∧ RpK K w.F kvs ks
  | .frz x => Rp K w.F x (.ref a)
  | .ins _ _ => False
abbrev Rs (w : Wd) (H : Hp) : List SO → List Addr → Prop := All2 fun o a => Ro K w H a o
/-- from one state of a call to a later one -/
structure Le (w : Wd) (H : Hp) (w' : Wd) (H' : Hp) : Prop where
  f : Sub w.F w'.F
  fn : ∀ a o, w'.F a = some o → w.F a = some o ∨ H a = none ∨ a ∈ w.nu
  mu : ∃ r, w'.mu = w.mu ++ r ∧ ∀ a ∈ r, H a = none
  nu : ∃ r, w'.nu = w.nu ++ r ∧ ∀ a ∈ r, H a = none
  same0 : ∀ a o, H a = some o → (∀ ps, o ≠ .tbl ps) → a ∉ w.mu → a ∉ w.nu → H' a = some o
  trk : ∀ a, H a ≠ none → H' a ≠ none
  teq : w'.T = w.T
  tb : Tabs w.T H → Tabs w.T H'
/-- the state of a call, that began at w0, H0 -/
structure Rl (w0 : Wd) (H0 : Hp) (w : Wd) (e : Lv) (s : Sto) (σ : L2.St) (H : Hp) : Prop where
  le : Le w0 H0 w H
  fh : Sub w.F H
  ft : ∀ a ps, w.F a ≠ some (.tbl ps)
  nd : (w.mu ++ w.nu).Nodup
  tr : ∀ a ∈ w.mu ++ w.nu, H a ≠ none
  G : Rs K w H s.G w.mu
  L : Rs K w H s.L w.nu
  env : All2 (fun o p => ∀ v, o = some v → ∃ x, p = some x ∧ Rv K w v x) e σ
end
section
variable {K : PySem.W.Frag} {w w1 w2 w0 : Wd} {H H1 H2 H0 : Hp}
theorem Le.same (l : Le w H w1 H1) (a : Addr) (o : HO) (h : H a = some o) (h1 : a ∉ w.mu) (h2 : a ∉ w.nu) (ht : ∀ ps, o ≠ .tbl ps := by intro ps z; cases z) : H1 a = some o := l.same0 a o h ht h1 h2
theorem Le.refl : Le w H w H := ⟨Sub.refl _, fun _ _ h => .inl h, ⟨[], by simp, by simp⟩, ⟨[], by simp, by simp⟩, fun _ _ h _ _ _ => h, fun _ h => h, rfl, fun h => h⟩
theorem Le.back (l : Le w H w1 H1) {a : Addr} (h : H1 a = none) : H a = none := by
  cases e : H a with
  | none => rfl
  | some o => exact absurd h (l.trk a (by rw [e]; simp))
theorem Le.trans (l : Le w H w1 H1) (m : Le w1 H1 w2 H2) : Le w H w2 H2 := by
  obtain ⟨r, e1, e2⟩ := l.mu
  obtain ⟨r', e3, e4⟩ := m.mu
  obtain ⟨q, f1, f2⟩ := l.nu
  obtain ⟨q', f3, f4⟩ := m.nu
  refine ⟨l.f.trans m.f, fun a o h => ?_, ⟨r ++ r', by rw [e3, e1, List.append_assoc], fun a ha => ?_⟩, ⟨q ++ q', by rw [f3, f1, List.append_assoc], fun a ha => ?_⟩, fun a o h ht h1 h2 => ?_, fun a h => m.trk a (l.trk a h), m.teq.trans l.teq, fun h => l.teq ▸ m.tb (l.teq.symm ▸ l.tb h)⟩
  · rcases m.fn a o h with z | z | z
    · exact l.fn a o z
    · exact .inr (.inl (l.back z))
    · rw [f1] at z
      rcases List.mem_append.mp z with z | z
      · exact .inr (.inr z)
      · exact .inr (.inl (f2 a z))
  · rcases List.mem_append.mp ha with z | z
    · exact e2 a z
    · exact l.back (e4 a z)
  · rcases List.mem_append.mp ha with z | z
    · exact f2 a z
    · exact l.back (f4 a z)
  · refine m.same0 a o (l.same0 a o h ht h1 h2) ht ?_ ?_
    · rw [e1]
      intro z
      rcases List.mem_append.mp z with z | z
      · exact h1 z
      · rw [e2 a z] at h; cases h
    · rw [f1]
      intro z
      rcases List.mem_append.mp z with z | z
      · exact h2 z
      · rw [f2 a z] at h; cases h
theorem Rv.mono (l : Le w H w1 H1) : ∀ {v : Val} {x : V}, Rv K w v x → Rv K w1 v x
  | .d d, x, h => Rp.mono l.f d h
  | .g n, x, ⟨a, h, e⟩ => by
    obtain ⟨r, e1, _⟩ := l.mu
    refine ⟨a, ?_, e⟩
    rw [e1]
    obtain ⟨hl, _⟩ := List.getElem?_eq_some_iff.mp h
    rw [List.getElem?_append_left hl]; exact h
  | .l n, x, ⟨a, h, e⟩ => by
    obtain ⟨r, e1, _⟩ := l.nu
    refine ⟨a, ?_, e⟩
    rw [e1]
    obtain ⟨hl, _⟩ := List.getElem?_eq_some_iff.mp h
    rw [List.getElem?_append_left hl]; exact h
  | .s ns, x, ⟨a, e, h⟩ => ⟨a, e, sqL_mono l.f h⟩
  | .e a, x, h => h
theorem Rvs.mono (l : Le w H w1 H1) {vs : List Val} {xs : List V} (h : All2 (Rv K w) vs xs) : All2 (Rv K w1) vs xs := h.imp fun _ _ => Rv.mono l
/-- an object that stands as it stood, in a later world in which it isn't frozen -/
theorem Ro.keep (l : Le w H w1 H1) {a : Addr} (eq : ∀ u, H a = some u → (∀ ps, u ≠ .tbl ps) → H1 a = some u) (hf : w.F a = none → w1.F a = none) : ∀ {o : SO}, Ro K w H a o → Ro K w1 H1 a o
  | .lst vs, ⟨h, xs, e, r⟩ => ⟨hf h, xs, eq _ e (fun ps z => by cases z), Rvs.mono l r⟩
  | .dct kvs, ⟨h, ks, e, r⟩ => ⟨hf h, ks, eq _ e (fun ps z => by cases z), RpK.mono l.f _ r⟩
  | .frz x, h => Rp.mono l.f x h
  | .ins _ _, h => h
/-- the same world, a later heap: something new is laid -/
theorem All2.mem {α β : Type} {R : α → β → Prop} {as : List α} {bs : List β} (h : All2 R as bs) {b : β} (hb : b ∈ bs) : ∃ a ∈ as, R a b := by
  induction h with
  | nil => cases hb
  | cons x _ ih =>
    rcases List.mem_cons.mp hb with rfl | hb
    · exact ⟨_, List.mem_cons_self, x⟩
    · obtain ⟨a, h1, h2⟩ := ih hb
      exact ⟨a, List.mem_cons_of_mem _ h1, h2⟩
theorem All2.impM {α β : Type} {R S : α → β → Prop} {as : List α} {bs : List β} (h : All2 R as bs) (f : ∀ a b, b ∈ bs → R a b → S a b) : All2 S as bs := by
  induction h with
  | nil => exact .nil
  | cons x _ ih => exact .cons (f _ _ List.mem_cons_self x) (ih fun a b hb => f a b (List.mem_cons_of_mem _ hb))
end

/-! ### steps of a call's state -/
section
variable {K : PySem.W.Frag} {w0 w : Wd} {H0 H : Hp} {e : Lv} {s : Sto} {σ : L2.St}
theorem sub_upd {F H : Hp} {p : Addr} {o : HO} (s : Sub F H) (h : H p = none) : Sub F (upd H p o) := fun a u q => by
  have z := s a u q
  rw [upd_ne (ne_of_none z h)]
  exact z
theorem sub_upd2 {F H : Hp} {p : Addr} {o : HO} (s : Sub F H) : Sub (upd F p o) (upd H p o) := fun a u q => by
  by_cases h : a = p
  · subst h; rw [upd_same] at q ⊢; exact q
  · rw [upd_ne h] at q ⊢; exact s a u q
/-- a new object that is never written: it is frozen at once -/
theorem Rl.new (R : Rl K w0 H0 w e s σ H) {p : Addr} {o : HO} (h : H p = none) (ho : ∀ ps, o ≠ .tbl ps := by intro ps z; cases z) :
    Rl K w0 H0 { w with F := upd w.F p o } e s σ (upd H p o) ∧ Le w H { w with F := upd w.F p o } (upd H p o) := by
  have hF : w.F p = none := by
    cases z : w.F p with
    | none => rfl
    | some u => rw [R.fh p u z] at h; cases h
  have l : Le w H { w with F := upd w.F p o } (upd H p o) := by
    refine ⟨sub_upd (Sub.refl _) hF, fun a u q => ?_, ⟨[], by simp, by simp⟩, ⟨[], by simp, by simp⟩, fun a u q _ _ _ => ?_, fun a q => ?_, rfl, fun t => tabs_upd t (.none h)⟩
    · by_cases z : a = p
      · subst z; exact .inr (.inl h)
      · exact .inl (by rw [← q]; exact (upd_ne z).symm)
    · rw [upd_ne (ne_of_none q h)]; exact q
    · by_cases z : a = p
      · subst z; rw [upd_same]; simp
      · rw [upd_ne z]; exact q
  have np : ∀ a ∈ w.mu ++ w.nu, a ≠ p := fun a ha z => by subst z; exact R.tr a ha h
  have ft : ∀ a ps, upd w.F p o a ≠ some (.tbl ps) := fun a ps z => by
    by_cases q : a = p
    · subst q; rw [upd_same] at z; cases z; exact ho ps rfl
    · rw [upd_ne q] at z; exact R.ft a ps z
  refine ⟨⟨R.le.trans l, sub_upd2 R.fh, ft, R.nd, fun a ha => l.trk a (R.tr a ha), ?_, ?_, ?_⟩, l⟩
  · exact R.G.impM fun o a ha r => r.keep l (fun u q _ => by rw [upd_ne (np a (List.mem_append_left _ ha))]; exact q) fun q => (upd_ne (np a (List.mem_append_left _ ha))).trans q
  · exact R.L.impM fun o a ha r => r.keep l (fun u q _ => by rw [upd_ne (np a (List.mem_append_right _ ha))]; exact q) fun q => (upd_ne (np a (List.mem_append_right _ ha))).trans q
  · exact R.env.imp fun o p h v q => by
      obtain ⟨x, h1, h2⟩ := h v q
      exact ⟨x, h1, h2.mono l⟩
end
end Ev

/-! steps of a call's state; reading and keeping values -/
namespace Ev
open PySem PySem.Spec PyProof.Rows L2
section
variable {K : PySem.W.Frag} {w0 w ws : Wd} {H0 H Hs : Hp} {e : Lv} {s : Sto} {σ : L2.St} {p : Addr} {o : HO}
theorem Le.freeze (l : Le ws Hs w H) (h : Hs p = none ∨ p ∈ ws.nu) (hF : w.F p = none) : Le ws Hs { w with F := upd w.F p o } H := by
  refine ⟨l.f.trans (sub_upd (Sub.refl _) hF), fun a u q => ?_, l.mu, l.nu, l.same0, l.trk, l.teq, l.tb⟩
  by_cases z : a = p
  · subst z; exact .inr h
  · rw [show ({ w with F := upd w.F p o } : Wd).F a = w.F a from upd_ne z] at q
    exact l.fn a u q
theorem Le.adoptL (l : Le ws Hs w H) (h : Hs p = none) : Le ws Hs { w with nu := w.nu ++ [p] } H := by
  obtain ⟨r, e1, e2⟩ := l.nu
  refine ⟨l.f, l.fn, l.mu, ⟨r ++ [p], by show w.nu ++ [p] = _; rw [e1, List.append_assoc], fun a ha => ?_⟩, l.same0, l.trk, l.teq, l.tb⟩
  rcases List.mem_append.mp ha with z | z
  · exact e2 a z
  · rw [List.mem_singleton.mp z]; exact h
theorem Le.adoptG (l : Le ws Hs w H) (h : Hs p = none) : Le ws Hs { w with mu := w.mu ++ [p] } H := by
  obtain ⟨r, e1, e2⟩ := l.mu
  refine ⟨l.f, l.fn, ⟨r ++ [p], by show w.mu ++ [p] = _; rw [e1, List.append_assoc], fun a ha => ?_⟩, l.nu, l.same0, l.trk, l.teq, l.tb⟩
  rcases List.mem_append.mp ha with z | z
  · exact e2 a z
  · rw [List.mem_singleton.mp z]; exact h
/-- a heap that differs at one address alone, which the world doesn't know -/
theorem Le.scratch (l : Le ws Hs w H) (h : Hs p = none) (hp : Pl H p) : Le ws Hs w (upd H p o) := by
  refine ⟨l.f, l.fn, l.mu, l.nu, fun a u q ht h1 h2 => ?_, fun a q => ?_, l.teq, fun t => tabs_upd (l.tb t) hp⟩
  · rw [upd_ne (ne_of_none q h)]; exact l.same0 a u q ht h1 h2
  · by_cases z : a = p
    · subst z; rw [upd_same]; simp
    · rw [upd_ne z]; exact l.trk a q
theorem Le.write (l : Le ws Hs w H) (h : p ∈ w.mu ∨ p ∈ w.nu) (hp : p ∈ ws.mu ∨ p ∈ ws.nu ∨ Hs p = none) (hk : Pl H p) : Le ws Hs w (upd H p o) := by
  refine ⟨l.f, l.fn, l.mu, l.nu, fun a u q ht h1 h2 => ?_, fun a q => ?_, l.teq, fun t => tabs_upd (l.tb t) hk⟩
  · have z : a ≠ p := by
      rintro rfl
      rcases hp with z | z | z
      · exact h1 z
      · exact h2 z
      · rw [z] at q; cases q
    rw [upd_ne z]; exact l.same0 a u q ht h1 h2
  · by_cases z : a = p
    · subst z; rw [upd_same]; simp
    · rw [upd_ne z]; exact l.trk a q
/-- where an object of the stores comes from -/
theorem Le.from_ (l : Le ws Hs w H) (h : p ∈ w.mu ∨ p ∈ w.nu) : p ∈ ws.mu ∨ p ∈ ws.nu ∨ Hs p = none := by
  obtain ⟨r, e1, e2⟩ := l.mu
  obtain ⟨q, f1, f2⟩ := l.nu
  rcases h with h | h
  · rw [e1] at h
    rcases List.mem_append.mp h with z | z
    · exact .inl z
    · exact .inr (.inr (e2 p z))
  · rw [f1] at h
    rcases List.mem_append.mp h with z | z
    · exact .inr (.inl z)
    · exact .inr (.inr (f2 p z))
theorem Ro.congr {w' : Wd} {H' : Hp} {a : Addr} (eF : Sub w.F w'.F) (mu : ∃ r, w'.mu = w.mu ++ r) (nu : ∃ r, w'.nu = w.nu ++ r) (hH : ∀ u, H a = some u → H' a = some u) (hF : w.F a = none → w'.F a = none) : ∀ {o : SO}, Ro K w H a o → Ro K w' H' a o := by
  have rv : ∀ (v : Val) (x : V), Rv K w v x → Rv K w' v x := fun v x h => by
    cases v with
    | d d => exact Rp.mono eF d h
    | g n =>
      obtain ⟨a, h1, h2⟩ := h
      obtain ⟨r, e⟩ := mu
      refine ⟨a, ?_, h2⟩
      rw [e, List.getElem?_append_left (List.getElem?_eq_some_iff.mp h1).1]; exact h1
    | l n =>
      obtain ⟨a, h1, h2⟩ := h
      obtain ⟨r, e⟩ := nu
      refine ⟨a, ?_, h2⟩
      rw [e, List.getElem?_append_left (List.getElem?_eq_some_iff.mp h1).1]; exact h1
    | s ns =>
      obtain ⟨a, h1, h2⟩ := h
      exact ⟨a, h1, sqL_mono eF h2⟩
    | e a => exact h
  intro o
  cases o with
  | lst vs => rintro ⟨h, xs, e, r⟩; exact ⟨hF h, xs, hH _ e, r.imp rv⟩
  | dct kvs => rintro ⟨h, ks, e, r⟩; exact ⟨hF h, ks, hH _ e, RpK.mono eF _ r⟩
  | frz x => exact fun h => Rp.mono eF x h
  | ins _ _ => exact fun h => h
theorem Rl.mono_env (R : Rl K w0 H0 w e s σ H) {w' : Wd} {H' : Hp} (l : Le w H w' H') : All2 (fun o p => ∀ v, o = some v → ∃ x, p = some x ∧ Rv K w' v x) e σ :=
  R.env.imp fun o p h v q => by
    obtain ⟨x, h1, h2⟩ := h v q
    exact ⟨x, h1, h2.mono l⟩
theorem Rl.freshF (R : Rl K w0 H0 w e s σ H) (h : H p = none) : w.F p = none := by
  cases z : w.F p with
  | none => rfl
  | some u => rw [R.fh p u z] at h; cases h
theorem Rl.freshS (R : Rl K w0 H0 w e s σ H) (h : H p = none) : p ∉ w.mu ++ w.nu := fun z => R.tr p z h
/-- an object that the world doesn't know is laid or written -/
theorem Rl.scratch (R : Rl K w0 H0 w e s σ H) (h0 : H0 p = none) (hF : w.F p = none) (hS : p ∉ w.mu ++ w.nu) (hk : Pl H p) : Rl K w0 H0 w e s σ (upd H p o) := by
  have ne : ∀ a ∈ w.mu ++ w.nu, a ≠ p := fun a ha z => hS (z ▸ ha)
  refine ⟨R.le.scratch h0 hk, fun a u q => ?_, R.ft, R.nd, fun a ha => by rw [upd_ne (ne a ha)]; exact R.tr a ha, ?_, ?_, R.env⟩
  · rw [upd_ne (by rintro rfl; rw [hF] at q; cases q)]; exact R.fh a u q
  · exact R.G.impM fun o' a ha r => r.congr (Sub.refl _) ⟨[], by simp⟩ ⟨[], by simp⟩ (fun u q => by rw [upd_ne (ne a (List.mem_append_left _ ha))]; exact q) fun q => q
  · exact R.L.impM fun o' a ha r => r.congr (Sub.refl _) ⟨[], by simp⟩ ⟨[], by simp⟩ (fun u q => by rw [upd_ne (ne a (List.mem_append_right _ ha))]; exact q) fun q => q
/-- an object that the world doesn't know is frozen -/
theorem Rl.freeze (R : Rl K w0 H0 w e s σ H) (h0 : H0 p = none) (hF : w.F p = none) (hS : p ∉ w.mu ++ w.nu) (hp : H p = some o) (ho : ∀ ps, o ≠ .tbl ps := by intro ps z; cases z) : Rl K w0 H0 { w with F := upd w.F p o } e s σ H := by
  have ft : ∀ a ps, upd w.F p o a ≠ some (.tbl ps) := fun a ps z => by
    by_cases q : a = p
    · subst q; rw [upd_same] at z; cases z; exact ho ps rfl
    · rw [upd_ne q] at z; exact R.ft a ps z
  have ne : ∀ a ∈ w.mu ++ w.nu, a ≠ p := fun a ha z => hS (z ▸ ha)
  have sF : Sub w.F (upd w.F p o) := sub_upd (Sub.refl _) hF
  refine ⟨R.le.freeze (.inl h0) hF, fun a u q => ?_, ft, R.nd, R.tr, ?_, ?_, ?_⟩
  · by_cases z : a = p
    · subst z
      rw [show ({ w with F := upd w.F a o } : Wd).F a = some o from upd_same] at q
      cases q; exact hp
    · rw [show ({ w with F := upd w.F p o } : Wd).F a = w.F a from upd_ne z] at q
      exact R.fh a u q
  · exact R.G.impM fun o' a ha r => r.congr sF ⟨[], by simp⟩ ⟨[], by simp⟩ (fun u q => q) fun q => (upd_ne (ne a (List.mem_append_left _ ha))).trans q
  · exact R.L.impM fun o' a ha r => r.congr sF ⟨[], by simp⟩ ⟨[], by simp⟩ (fun u q => q) fun q => (upd_ne (ne a (List.mem_append_right _ ha))).trans q
  · exact R.env.imp fun o' q h v z => by
      obtain ⟨x, h1, h2⟩ := h v z
      refine ⟨x, h1, ?_⟩
      cases v with
      | d d => exact Rp.mono sF d h2
      | g n => exact h2
      | l n => exact h2
      | s ns =>
        obtain ⟨a, h1, h2⟩ := h2
        exact ⟨a, h1, sqL_mono sF h2⟩
      | e a => exact h2
/-- an object that the world doesn't know joins the call's own store -/
theorem Rl.adoptL (R : Rl K w0 H0 w e s σ H) (h0 : H0 p = none) (hS : p ∉ w.mu ++ w.nu) (hp : H p ≠ none) {so : SO} (r : Ro K { w with nu := w.nu ++ [p] } H p so) :
    Rl K w0 H0 { w with nu := w.nu ++ [p] } e { s with L := s.L ++ [so] } σ H := by
  have cg : ∀ {a : Addr} {o : SO}, Ro K w H a o → Ro K { w with nu := w.nu ++ [p] } H a o := fun {a o} h => Ro.congr (w := w) (w' := { w with nu := w.nu ++ [p] }) (Sub.refl _) ⟨[], by simp⟩ ⟨[p], rfl⟩ (fun _ q => q) (fun q => q) h
  refine ⟨R.le.adoptL h0, R.fh, R.ft, ?_, fun a ha => ?_, R.G.imp fun _ _ h => cg h, (R.L.imp fun _ _ h => cg h).app (.cons r .nil), ?_⟩
  · show (w.mu ++ (w.nu ++ [p])).Nodup
    rw [← List.append_assoc, List.nodup_append]
    refine ⟨R.nd, by simp, fun a ha b hb => ?_⟩
    rw [List.mem_singleton.mp hb]
    rintro rfl
    exact hS ha
  · have ha : a ∈ w.mu ++ (w.nu ++ [p]) := ha
    rw [← List.append_assoc] at ha
    rcases List.mem_append.mp ha with z | z
    · exact R.tr a z
    · rw [List.mem_singleton.mp z]; exact hp
  · exact R.env.imp fun o' q h v z => by
      obtain ⟨x, h1, h2⟩ := h v z
      refine ⟨x, h1, ?_⟩
      cases v with
      | d d => exact h2
      | g n => exact h2
      | s ns => exact h2
      | e a => exact h2
      | l n =>
        obtain ⟨a, k1, k2⟩ := h2
        refine ⟨a, ?_, k2⟩
        show (w.nu ++ [p])[n]? = some a
        rw [List.getElem?_append_left (List.getElem?_eq_some_iff.mp k1).1]; exact k1
theorem Rl.adoptG (R : Rl K w0 H0 w e s σ H) (h0 : H0 p = none) (hS : p ∉ w.mu ++ w.nu) (hp : H p ≠ none) {so : SO} (r : Ro K { w with mu := w.mu ++ [p] } H p so) :
    Rl K w0 H0 { w with mu := w.mu ++ [p] } e { s with G := s.G ++ [so] } σ H := by
  have cg : ∀ {a : Addr} {o : SO}, Ro K w H a o → Ro K { w with mu := w.mu ++ [p] } H a o := fun {a o} h => Ro.congr (w := w) (w' := { w with mu := w.mu ++ [p] }) (Sub.refl _) ⟨[p], rfl⟩ ⟨[], by simp⟩ (fun _ q => q) (fun q => q) h
  refine ⟨R.le.adoptG h0, R.fh, R.ft, ?_, fun a ha => ?_, (R.G.imp fun _ _ h => cg h).app (.cons r .nil), R.L.imp fun _ _ h => cg h, ?_⟩
  · show ((w.mu ++ [p]) ++ w.nu).Nodup
    have nd := R.nd
    rw [List.nodup_append] at nd ⊢
    obtain ⟨n1, n2, n3⟩ := nd
    refine ⟨?_, n2, fun a ha b hb => ?_⟩
    · rw [List.nodup_append]
      refine ⟨n1, by simp, fun a ha b hb => ?_⟩
      rw [List.mem_singleton.mp hb]
      rintro rfl
      exact hS (List.mem_append_left _ ha)
    · rcases List.mem_append.mp ha with z | z
      · exact n3 a z b hb
      · rw [List.mem_singleton.mp z]
        rintro rfl
        exact hS (List.mem_append_right _ hb)
  · have ha : a ∈ (w.mu ++ [p]) ++ w.nu := ha
    rcases List.mem_append.mp ha with z | z
    · rcases List.mem_append.mp z with z | z
      · exact R.tr a (List.mem_append_left _ z)
      · rw [List.mem_singleton.mp z]; exact hp
    · exact R.tr a (List.mem_append_right _ z)
  · exact R.env.imp fun o' q h v z => by
      obtain ⟨x, h1, h2⟩ := h v z
      refine ⟨x, h1, ?_⟩
      cases v with
      | d d => exact h2
      | l n => exact h2
      | s ns => exact h2
      | e a => exact h2
      | g n =>
        obtain ⟨a, k1, k2⟩ := h2
        refine ⟨a, ?_, k2⟩
        show (w.mu ++ [p])[n]? = some a
        rw [List.getElem?_append_left (List.getElem?_eq_some_iff.mp k1).1]; exact k1
theorem nodup_at {l : List Addr} (nd : l.Nodup) {i j : Nat} {a : Addr} (h1 : l[i]? = some a) (h2 : l[j]? = some a) : i = j := by
  obtain ⟨k1, e1⟩ := List.getElem?_eq_some_iff.mp h1
  obtain ⟨k2, e2⟩ := List.getElem?_eq_some_iff.mp h2
  exact (List.getElem_inj nd).mp (e1.trans e2.symm)
theorem All2.setM {α β : Type} {R S : α → β → Prop} : ∀ {as : List α} {bs : List β} {n : Nat} {a : α} {b : β}, All2 R as bs → bs[n]? = some b → S a b → (∀ x y i, i ≠ n → bs[i]? = some y → R x y → S x y) → All2 S (as.set n a) bs
  | _, _, n, a, b, .nil, e, _, _ => by simp at e
  | _, _, 0, a, b, .cons x y, e, r, f => by
    simp at e; subst e
    exact .cons r (y.impM fun c d hd q => by
      obtain ⟨i, hi, e⟩ := List.mem_iff_getElem.mp hd
      exact f c d (i + 1) (by omega) (by simp [List.getElem?_eq_getElem hi, e]) q)
  | _, _, n + 1, a, b, .cons x y, e, r, f => by
    refine .cons (f _ _ 0 (by omega) (by simp) x) ?_
    exact All2.setM y (by simpa using e) r fun c d i hi h q => f c d (i + 1) (by omega) (by simpa using h) q
/-- an object of the call's own store is frozen -/
theorem Rl.frzL (R : Rl K w0 H0 w e s σ H) {n : Nat} (hn : w.nu[n]? = some p) (h0 : H0 p = none ∨ p ∈ w0.nu) (hF : w.F p = none) (hp : H p = some o) {x : PyData} (hx : Rp K (upd w.F p o) x (.ref p)) (ho : ∀ ps, o ≠ .tbl ps := by intro ps z; cases z) :
    Rl K w0 H0 { w with F := upd w.F p o } e { s with L := s.L.set n (.frz x) } σ H := by
  have ft : ∀ a ps, upd w.F p o a ≠ some (.tbl ps) := fun a ps z => by
    by_cases q : a = p
    · subst q; rw [upd_same] at z; cases z; exact ho ps rfl
    · rw [upd_ne q] at z; exact R.ft a ps z
  have sF : Sub w.F (upd w.F p o) := sub_upd (Sub.refl _) hF
  have hm : p ∈ w.nu := List.mem_of_getElem? hn
  have nd := List.nodup_append.mp R.nd
  refine ⟨R.le.freeze h0 hF, fun a u q => ?_, ft, R.nd, R.tr, ?_, ?_, ?_⟩
  · by_cases z : a = p
    · subst z
      rw [show ({ w with F := upd w.F a o } : Wd).F a = some o from upd_same] at q
      cases q; exact hp
    · rw [show ({ w with F := upd w.F p o } : Wd).F a = w.F a from upd_ne z] at q
      exact R.fh a u q
  · refine R.G.impM fun o' a ha r => r.congr sF ⟨[], by simp⟩ ⟨[], by simp⟩ (fun u q => q) fun q => (upd_ne ?_).trans q
    exact nd.2.2 a ha p hm
  · refine All2.setM R.L hn hx fun o' a i hi ha r => r.congr sF ⟨[], by simp⟩ ⟨[], by simp⟩ (fun u q => q) fun q => (upd_ne ?_).trans q
    rintro rfl
    exact hi (nodup_at nd.2.1 ha hn)
  · exact R.env.imp fun o' q h v z => by
      obtain ⟨x, h1, h2⟩ := h v z
      refine ⟨x, h1, ?_⟩
      cases v with
      | d d => exact Rp.mono sF d h2
      | g n => exact h2
      | l n => exact h2
      | s ns =>
        obtain ⟨a, h1, h2⟩ := h2
        exact ⟨a, h1, sqL_mono sF h2⟩
      | e a => exact h2
/-- an object of the stores is written -/
theorem Rl.wrL (R : Rl K w0 H0 w e s σ H) {n : Nat} (hn : w.nu[n]? = some p) (hF : w.F p = none) {so : SO} (hs : Ro K w (upd H p o) p so) (hk : Pl H p) : Rl K w0 H0 w e { s with L := s.L.set n so } σ (upd H p o) := by
  have hm : p ∈ w.nu := List.mem_of_getElem? hn
  have nd := List.nodup_append.mp R.nd
  refine ⟨R.le.write (.inr hm) (R.le.from_ (.inr hm)) hk, fun a u q => ?_, R.ft, R.nd, fun a ha => ?_, ?_, ?_, R.env⟩
  · rw [upd_ne (by rintro rfl; rw [hF] at q; cases q)]; exact R.fh a u q
  · by_cases z : a = p
    · subst z; rw [upd_same]; simp
    · rw [upd_ne z]; exact R.tr a ha
  · exact R.G.impM fun o' a ha r => r.congr (Sub.refl _) ⟨[], by simp⟩ ⟨[], by simp⟩ (fun u q => by rw [upd_ne (nd.2.2 a ha p hm)]; exact q) fun q => q
  · refine All2.setM R.L hn hs fun o' a i hi ha r => r.congr (Sub.refl _) ⟨[], by simp⟩ ⟨[], by simp⟩ (fun u q => ?_) fun q => q
    rw [upd_ne (by rintro rfl; exact hi (nodup_at nd.2.1 ha hn))]; exact q
theorem Rl.wrG (R : Rl K w0 H0 w e s σ H) {n : Nat} (hn : w.mu[n]? = some p) (hF : w.F p = none) {so : SO} (hs : Ro K w (upd H p o) p so) (hk : Pl H p) : Rl K w0 H0 w e { s with G := s.G.set n so } σ (upd H p o) := by
  have hm : p ∈ w.mu := List.mem_of_getElem? hn
  have nd := List.nodup_append.mp R.nd
  refine ⟨R.le.write (.inl hm) (R.le.from_ (.inl hm)) hk, fun a u q => ?_, R.ft, R.nd, fun a ha => ?_, ?_, ?_, R.env⟩
  · rw [upd_ne (by rintro rfl; rw [hF] at q; cases q)]; exact R.fh a u q
  · by_cases z : a = p
    · subst z; rw [upd_same]; simp
    · rw [upd_ne z]; exact R.tr a ha
  · refine All2.setM R.G hn hs fun o' a i hi ha r => r.congr (Sub.refl _) ⟨[], by simp⟩ ⟨[], by simp⟩ (fun u q => ?_) fun q => q
    rw [upd_ne (by rintro rfl; exact hi (nodup_at nd.1 ha hn))]; exact q
  · exact R.L.impM fun o' a ha r => r.congr (Sub.refl _) ⟨[], by simp⟩ ⟨[], by simp⟩ (fun u q => by rw [upd_ne (Ne.symm (nd.2.2 p hm a ha))]; exact q) fun q => q

/-! ### reading -/
theorem valsD_all : ∀ {vs : List Val} {ds : List PyData} {xs : List V}, valsD vs = some ds → All2 (Rv K w) vs xs → RpA K w.F ds xs
  | [], ds, xs, h, a => by
    cases a
    have e : [] = ds := Option.some.inj h
    subst e
    unfold RpA; rfl
  | v :: vs, ds, xs, h, a => by
    cases a with
    | cons r a =>
      unfold valsD at h
      cases v with
      | d x =>
        cases q : valsD vs with
        | none => rw [q] at h; cases h
        | some xs' =>
          rw [q] at h
          have e : x :: xs' = ds := Option.some.inj h
          subst e
          unfold RpA
          exact ⟨_, _, rfl, r, valsD_all q a⟩
      | g n => cases h
      | l n => cases h
      | s ns => cases h
      | e a => cases h
theorem Ro.read {a : Addr} (s : Sub w.F H) : ∀ {so : SO} {d : PyData}, Ro K w H a so → readO so = some d → Rt K H w.F d (.ref a)
  | .lst vs, d, ⟨_, xs, e, r⟩, h => by
    have h : (valsD vs).map PyData.list = some d := h
    cases q : valsD vs with
    | none => rw [q] at h; cases h
    | some ds =>
      rw [q] at h
      have e2 : PyData.list ds = d := Option.some.inj h
      subst e2
      exact ⟨a, xs, rfl, e, valsD_all q r⟩
  | .dct kvs, d, ⟨_, ks, e, r⟩, h => by
    have e2 : PyData.dict kvs = d := Option.some.inj h
    subst e2
    exact ⟨a, ks, rfl, e, r⟩
  | .frz x, d, h, h2 => by
    have e2 : x = d := Option.some.inj h2
    subst e2
    exact Rp.top s h
theorem Rl.obj (R : Rl K w0 H0 w e s σ H) {v : Val} {x : V} (r : Rv K w v x) {so : SO} (h : getO v s = some so) : ∃ a, x = .ref a ∧ Ro K w H a so := by
  cases v with
  | d d => cases h
  | s ns => cases h
  | e a => cases h
  | g n =>
    obtain ⟨a, h1, h2⟩ := r
    obtain ⟨b, h3, h4⟩ := R.G.at_ (show s.G[n]? = some so from h)
    rw [h1] at h3; cases h3
    exact ⟨a, h2, h4⟩
  | l n =>
    obtain ⟨a, h1, h2⟩ := r
    obtain ⟨b, h3, h4⟩ := R.L.at_ (show s.L[n]? = some so from h)
    rw [h1] at h3; cases h3
    exact ⟨a, h2, h4⟩
theorem peek_rt (R : Rl K w0 H0 w e s σ H) {v : Val} {x : V} {d : PyData} {s' : Sto} (r : Rv K w v x) (h : peek v s = some (d, s')) : s' = s ∧ Rt K H w.F d x := by
  cases v with
  | d y =>
    have e2 : (y, s) = (d, s') := Option.some.inj h
    cases e2
    exact ⟨rfl, Rp.top R.fh r⟩
  | s ns => cases h
  | e a => cases h
  | g n =>
    cases q : getO (.g n) s with
    | none => unfold peek at h; simp only [q] at h; cases h
    | some so =>
      unfold peek at h
      simp only [q, Option.bind_some] at h
      cases q2 : readO so with
      | none => rw [q2] at h; cases h
      | some y =>
        rw [q2] at h
        have e2 : (y, s) = (d, s') := Option.some.inj h
        cases e2
        obtain ⟨a, rfl, ro⟩ := R.obj r q
        exact ⟨rfl, ro.read R.fh q2⟩
  | l n =>
    cases q : getO (.l n) s with
    | none => unfold peek at h; simp only [q] at h; cases h
    | some so =>
      unfold peek at h
      simp only [q, Option.bind_some] at h
      cases q2 : readO so with
      | none => rw [q2] at h; cases h
      | some y =>
        rw [q2] at h
        have e2 : (y, s) = (d, s') := Option.some.inj h
        cases e2
        obtain ⟨a, rfl, ro⟩ := R.obj r q
        exact ⟨rfl, ro.read R.fh q2⟩
/-- an object that is kept: from now on it is pure data -/
theorem keep_ok (hw : w0.nu = []) (R : Rl K w0 H0 w e s σ H) {v : Val} {x : V} {d : PyData} {s' : Sto} (r : Rv K w v x) (h : Ev.keep v s = some (d, s')) :
    ∃ w', Rl K w0 H0 w' e s' σ H ∧ Le w H w' H ∧ Rp K w'.F d x := by
  cases v with
  | d y =>
    have e2 : (y, s) = (d, s') := Option.some.inj h
    cases e2
    exact ⟨w, R, .refl, r⟩
  | g n => cases h
  | s ns => cases h
  | e a => cases h
  | l n =>
    unfold Ev.keep at h
    cases q : s.L[n]? with
    | none => simp only [q] at h; cases h
    | some so =>
      simp only [q, Option.bind_some] at h
      obtain ⟨a, rfl, ro⟩ := R.obj r (so := so) (show getO (.l n) s = some so from q)
      obtain ⟨a', h1, h2⟩ := r
      cases h2
      have hm : a ∈ w.nu := List.mem_of_getElem? h1
      have h0 : H0 a = none := by
        obtain ⟨q', f1, f2⟩ := R.le.nu
        rw [hw, List.nil_append] at f1
        rw [f1] at hm
        exact f2 a hm
      cases q2 : readO so with
      | none => rw [q2] at h; cases h
      | some y =>
        rw [q2] at h
        have e2 : (y, { s with L := s.L.set n (.frz y) }) = (d, s') := Option.some.inj h
        cases e2
        cases so with
        | lst vs =>
          obtain ⟨hF, xs, hx, hr⟩ := ro
          have q2 : (valsD vs).map PyData.list = some d := q2
          cases q3 : valsD vs with
          | none => rw [q3] at q2; cases q2
          | some ds =>
            rw [q3] at q2
            have e3 : PyData.list ds = d := Option.some.inj q2
            subst e3
            have sF : Sub w.F (upd w.F a (.lst xs)) := sub_upd (Sub.refl _) hF
            have hx' : Rp K (upd w.F a (.lst xs)) (.list ds) (.ref a) := by
              unfold Rp
              exact ⟨a, xs, rfl, upd_same, RpA.mono sF ds (valsD_all q3 hr)⟩
            exact ⟨_, R.frzL h1 (.inl h0) hF hx hx', Le.refl.freeze (.inr hm) hF, hx'⟩
        | dct kvs =>
          obtain ⟨hF, ks, hx, hr⟩ := ro
          have e3 : PyData.dict kvs = d := Option.some.inj q2
          subst e3
          have sF : Sub w.F (upd w.F a (.dK ks)) := sub_upd (Sub.refl _) hF
          have hx' : Rp K (upd w.F a (.dK ks)) (.dict kvs) (.ref a) := by
            unfold Rp
            exact ⟨a, ks, rfl, upd_same, RpK.mono sF _ hr⟩
          exact ⟨_, R.frzL h1 (.inl h0) hF hx hx', Le.refl.freeze (.inr hm) hF, hx'⟩
        | frz z =>
          have e3 : z = d := Option.some.inj q2
          subst e3
          refine ⟨w, ⟨R.le, R.fh, R.ft, R.nd, R.tr, R.G, ?_, R.env⟩, .refl, ro⟩
          exact All2.setM R.L h1 ro fun _ _ _ _ _ h => h
        | ins _ _ => cases q2
theorem keepV_ok (hw : w0.nu = []) (R : Rl K w0 H0 w e s σ H) {v v' : Val} {x : V} {s' : Sto} (r : Rv K w v x) (h : keepV v s = some (v', s')) :
    ∃ w', Rl K w0 H0 w' e s' σ H ∧ Le w H w' H ∧ Rv K w' v' x ∧ ∀ n, v' ≠ .l n := by
  cases v with
  | g n =>
    have e2 : (Val.g n, s) = (v', s') := Option.some.inj h
    cases e2
    exact ⟨w, R, .refl, r, fun _ z => by cases z⟩
  | s ns =>
    have e2 : (Val.s ns, s) = (v', s') := Option.some.inj h
    cases e2
    exact ⟨w, R, .refl, r, fun _ z => by cases z⟩
  | e a =>
    have e2 : (Val.e a, s) = (v', s') := Option.some.inj h
    cases e2
    exact ⟨w, R, .refl, r, fun _ z => by cases z⟩
  | d y =>
    obtain ⟨d, s1, h1, h2⟩ := bd_inv (m := Ev.keep (.d y)) (f := fun x => rt (Val.d x)) (s := s) (s2 := s') (b := v') h
    have e2 : (Val.d d, s1) = (v', s') := Option.some.inj h2
    cases e2
    obtain ⟨w', R', l, rp⟩ := keep_ok hw R r h1
    exact ⟨w', R', l, rp, fun _ z => by cases z⟩
  | l n =>
    obtain ⟨d, s1, h1, h2⟩ := bd_inv (m := Ev.keep (.l n)) (f := fun x => rt (Val.d x)) (s := s) (s2 := s') (b := v') h
    have e2 : (Val.d d, s1) = (v', s') := Option.some.inj h2
    cases e2
    obtain ⟨w', R', l, rp⟩ := keep_ok hw R r h1
    exact ⟨w', R', l, rp, fun _ z => by cases z⟩
theorem keeps_ok (hw : w0.nu = []) : ∀ {vs : List Val} {xs : List V} {ds : List PyData} {w : Wd} {s s' : Sto}, Rl K w0 H0 w e s σ H → All2 (Rv K w) vs xs → keeps vs s = some (ds, s') →
    ∃ w', Rl K w0 H0 w' e s' σ H ∧ Le w H w' H ∧ RpA K w'.F ds xs
  | [], xs, ds, w, s, s', R, a, h => by
    cases a
    have e2 : (([] : List PyData), s) = (ds, s') := Option.some.inj h
    cases e2
    exact ⟨w, R, .refl, by unfold RpA; rfl⟩
  | v :: vs, xs, ds, w, s, s', R, a, h => by
    cases a with
    | cons r a =>
      obtain ⟨d, s1, h1, h2⟩ := bd_inv (m := Ev.keep v) (f := fun x => bd (keeps vs) fun xs => rt (x :: xs)) h
      obtain ⟨w1, R1, l1, r1⟩ := keep_ok hw R r h1
      obtain ⟨ds', s2, h3, h4⟩ := bd_inv h2
      obtain ⟨w2, R2, l2, r2⟩ := keeps_ok hw R1 (Rvs.mono l1 a) h3
      have e2 : (d :: ds', s2) = (ds, s') := Option.some.inj h4
      cases e2
      refine ⟨w2, R2, l1.trans l2, ?_⟩
      unfold RpA
      exact ⟨_, _, rfl, Rp.mono l2.f _ r1, r2⟩
theorem keepVs_ok (hw : w0.nu = []) : ∀ {vs vs' : List Val} {xs : List V} {w : Wd} {s s' : Sto}, Rl K w0 H0 w e s σ H → All2 (Rv K w) vs xs → keepVs vs s = some (vs', s') →
    ∃ w', Rl K w0 H0 w' e s' σ H ∧ Le w H w' H ∧ All2 (Rv K w') vs' xs ∧ ∀ v ∈ vs', ∀ n, v ≠ .l n
  | [], vs', xs, w, s, s', R, a, h => by
    cases a
    have e2 : (([] : List Val), s) = (vs', s') := Option.some.inj h
    cases e2
    exact ⟨w, R, .refl, .nil, fun v hv => by cases hv⟩
  | v :: vs, vs', xs, w, s, s', R, a, h => by
    cases a with
    | cons r a =>
      obtain ⟨d, s1, h1, h2⟩ := bd_inv (m := keepV v) (f := fun x => bd (keepVs vs) fun xs => rt (x :: xs)) h
      obtain ⟨w1, R1, l1, r1, n1⟩ := keepV_ok hw R r h1
      obtain ⟨ds', s2, h3, h4⟩ := bd_inv h2
      obtain ⟨w2, R2, l2, r2, n2⟩ := keepVs_ok hw R1 (Rvs.mono l1 a) h3
      have e2 : (d :: ds', s2) = (vs', s') := Option.some.inj h4
      cases e2
      refine ⟨w2, R2, l1.trans l2, .cons (r1.mono l2) r2, fun v hv => ?_⟩
      rcases List.mem_cons.mp hv with rfl | hv
      · exact n1
      · exact n2 v hv
end
end Ev

/-! the operations, by values -/
namespace Ev
open PySem PySem.Spec PyProof.Rows L2
/-- what holds all through a call -/
/- where the modules stand, as the head tells -/
def smB (K : PySem.W.Frag) : Bool := match K.lookup sysModules with
  | some ⟨.type c, _, _, _⟩ => decide (c = "dict")
  | _ => false
theorem smB_ok {K : PySem.W.Frag} {h : Heap} (X : K.In h) (e : smB K = true) : ∃ o, h.get? sysModules = some o ∧ o.cls = .type "dict" := by
  unfold smB at e
  split at e
  · rename_i c _ _ _ q
    exact ⟨_, X _ _ q, by rw [of_decide_eq_true e]⟩
  · cases e
structure Cn0 (X : Cx) : Prop where
  un : X.A.units + 200 < cLine
  gd : X.A.guards = some []
  sm : smB X.K = true
structure Cn (X : Cx) : Prop extends Cn0 X where
  calm : X.calm = true
instance {X : Cx} : Coe (Cn X) (Cn0 X) := ⟨Cn.toCn0⟩
section
variable {X : Cx} {pins : List (Addr × Obj)} {σ si : L2.St} {H : Hp} {sh : Shared} {w0 w : Wd} {H0 : Hp} {e : Lv} {s : Sto} {Q : VK}
/-- what is wanted of a result that is pure data -/
def Kd (K : PySem.W.Frag) (w0 : Wd) (H0 : Hp) (w : Wd) (e : Lv) (s : Sto) (σ : L2.St) (H : Hp) (d : PyData) (Q : VK) : Prop :=
  ∀ w' z H', Rl K w0 H0 w' e s σ H' → Le w H w' H' → Rp K w'.F d z → Q z H'
theorem Kd.here {K : PySem.W.Frag} {d : PyData} {z : V} (k : Kd K w0 H0 w e s σ H d Q) (R : Rl K w0 H0 w e s σ H) (r : Rp K w.F d z) : Q z H := k w z H R .refl r
theorem Kd.tup {K : PySem.W.Frag} {ds : List PyData} {xs : List V} (k : Kd K w0 H0 w e s σ H (.tuple ds) Q) (R : Rl K w0 H0 w e s σ H) (r : RpA K w.F ds xs) : ∀ p, H p = none → Q (.ref p) (upd H p (.tup xs)) := fun p hp => by
  obtain ⟨R', l⟩ := R.new (o := .tup xs) hp
  refine k _ _ _ R' l ?_
  unfold Rp
  exact ⟨p, xs, rfl, SqT.of upd_same, RpA.mono l.f ds r⟩
theorem Kd.lst {K : PySem.W.Frag} {ds : List PyData} {xs : List V} (k : Kd K w0 H0 w e s σ H (.list ds) Q) (R : Rl K w0 H0 w e s σ H) (r : RpA K w.F ds xs) : ∀ p, H p = none → Q (.ref p) (upd H p (.lst xs)) := fun p hp => by
  obtain ⟨R', l⟩ := R.new (o := .lst xs) hp
  refine k _ _ _ R' l ?_
  unfold Rp
  exact ⟨p, xs, rfl, upd_same, RpA.mono l.f ds r⟩
theorem rpA_len {K : PySem.W.Frag} {F : Hp} {ds : List PyData} {xs : List V} (r : RpA K F ds xs) : ds.length = xs.length := (rpA_iff.mp r).len
theorem small_ok {i : Int} (h : small i = true) : -(2 ^ 64) < i ∧ i < 2 ^ 64 := by
  unfold small at h
  simpa [Bool.and_eq_true] using h
theorem size_line : (sizeLine : Nat) = 16777216 := sizeLine_eq
theorem rp_int {K : PySem.W.Frag} {F : Hp} {i : Int} : Rp K F (.int i) (.int i) := by unfold Rp; rfl
theorem rp_bool {K : PySem.W.Frag} {F : Hp} {b : Bool} : Rp K F (.bool b) (.bl b) := by unfold Rp; rfl
theorem rp_none {K : PySem.W.Frag} {F : Hp} : Rp K F .none .non := by unfold Rp; rfl
theorem rp_str {K : PySem.W.Frag} {F : Hp} {x : Str} : Rp K F (.str x) (.str x) := by unfold Rp; rfl
theorem Kd.int {K : PySem.W.Frag} {i : Int} {d : PyData} (k : Kd K w0 H0 w e s σ H d Q) (R : Rl K w0 H0 w e s σ H) (h : some (PyData.int i) = some d) : Q (.int i) H := k.here R (Option.some.inj h ▸ rp_int)
theorem Kd.bool {K : PySem.W.Frag} {i : Bool} {d : PyData} (k : Kd K w0 H0 w e s σ H d Q) (R : Rl K w0 H0 w e s σ H) (h : some (PyData.bool i) = some d) : Q (.bl i) H := k.here R (Option.some.inj h ▸ rp_bool)
theorem bin_ok {o : Operator} {x y : V} {v u : Value} {a b d : PyData} (C : Cn0 X) (I : Inv X pins si H sh) (rx : RelV x v) (ry : RelV y u) (R : Rl X.K w0 H0 w e s σ H)
    (hx : Rt X.K H w.F a x) (hy : Rt X.K H w.F b y) (h : binD o a b = some d) (k : Kd X.K w0 H0 w e s σ H d Q) : wpAny (model X.prog X.w) X.A (binaryOp o v u) (EP X pins si Q) X.xe sh := by
  unfold binD at h
  split at h
  · rename_i i j
    cases (show x = .int i from hx)
    cases (show y = .int j from hy)
    exact op_add pins sh si H _ _ v u Q I rx ry ⟨i, j, rfl, rfl, k.int R h⟩
  · rename_i i j
    cases (show x = .str i from hx)
    cases (show y = .str j from hy)
    split at h
    · rename_i hz
      exact op_add_str pins sh si H _ _ v u Q I rx ry ⟨i, j, rfl, rfl, by rw [size_line]; exact hz, k.here R (Option.some.inj h ▸ rp_str)⟩
    · cases h
  · rename_i as bs
    obtain ⟨p, xs, rfl, h1, h2⟩ := hx
    obtain ⟨q, ys, rfl, h3, h4⟩ := hy
    split at h
    · rename_i hz
      have e := Option.some.inj h
      subst e
      have l1 := rpA_len h2
      have l2 := rpA_len h4
      refine op_catA pins sh si H _ _ v u Q I rx ry ⟨p, q, xs, ys, rfl, rfl, sqT_mono R.fh h1, sqT_mono R.fh h3, by rw [size_line, ← l1, ← l2]; exact hz, fun z => ?_, fun _ z => ?_, fun _ _ => k.tup R (rpA_iff.mpr ((rpA_iff.mp h2).app (rpA_iff.mp h4)))⟩
      · subst z
        have z : as = [] := List.eq_nil_of_length_eq_zero l1
        subst z
        exact k.here R (by unfold Rp; exact ⟨q, ys, rfl, h3, h4⟩)
      · subst z
        have z : bs = [] := List.eq_nil_of_length_eq_zero l2
        subst z
        rw [List.append_nil] at k
        exact k.here R (by unfold Rp; exact ⟨p, xs, rfl, h1, h2⟩)
    · cases h
  · rename_i as bs
    obtain ⟨p, xs, rfl, h1, h2⟩ := hx
    obtain ⟨q, ys, rfl, h3, h4⟩ := hy
    split at h
    · rename_i hz
      have e := Option.some.inj h
      subst e
      have l1 := rpA_len h2
      have l2 := rpA_len h4
      exact op_cat pins sh si H _ _ v u Q I rx ry ⟨p, q, xs, ys, rfl, rfl, h1, h3, by rw [size_line, ← l1, ← l2]; exact hz, k.lst R (rpA_iff.mpr ((rpA_iff.mp h2).app (rpA_iff.mp h4)))⟩
    · cases h
  · rename_i i j
    cases (show x = .int i from hx)
    cases (show y = .int j from hy)
    exact op_sub pins sh si H _ _ v u Q I rx ry ⟨i, j, rfl, rfl, k.int R h⟩
  · rename_i i j
    cases (show x = .int i from hx)
    cases (show y = .int j from hy)
    split at h
    · rename_i hz
      refine op_mul pins sh si H _ _ v u Q I rx ry ⟨i, j, rfl, rfl, ?_, k.int R h⟩
      rcases Bool.or_eq_true_iff.mp hz with z | z
      · exact .inl (small_ok z)
      · exact .inr (small_ok z)
    · cases h
  · rename_i as j
    obtain ⟨p, xs, rfl, h1, h2⟩ := hx
    cases (show y = .int j from hy)
    split at h
    · rename_i hz
      have e := Option.some.inj h
      subst e
      have l1 := rpA_len h2
      exact op_repT pins sh si H _ _ v u Q I rx ry ⟨p, j, xs, rfl, rfl, sqT_mono R.fh h1, fun z => by subst z; have := hz.2.2.1; rw [l1] at this; simp at this, hz.1, hz.2.1, by rw [← l1]; exact hz.2.2.2, k.tup R (rpA_iff.mpr ((rpA_iff.mp h2).rep _))⟩
    · cases h
  · rename_i as j
    obtain ⟨p, xs, rfl, h1, h2⟩ := hx
    cases (show y = .int j from hy)
    split at h
    · rename_i hz
      have e := Option.some.inj h
      subst e
      have l1 := rpA_len h2
      exact op_rep pins sh si H _ _ v u Q I rx ry ⟨p, j, xs, rfl, rfl, h1, by omega, by omega, by rw [size_line, ← l1]; exact hz.2.2, k.lst R (rpA_iff.mpr ((rpA_iff.mp h2).rep _))⟩
    · cases h
  · rename_i i j
    cases (show x = .int i from hx)
    cases (show y = .int j from hy)
    split at h
    · rename_i hz
      exact op_fdiv pins sh si H _ _ v u Q I rx ry ⟨i, j, rfl, rfl, hz, k.int R h⟩
    · cases h
  · rename_i i j
    cases (show x = .int i from hx)
    cases (show y = .int j from hy)
    split at h
    · rename_i hz
      exact op_mod pins sh si H _ _ v u Q I rx ry ⟨i, j, rfl, rfl, hz, k.int R h⟩
    · cases h
  · rename_i i j
    cases (show x = .int i from hx)
    cases (show y = .int j from hy)
    split at h
    · rename_i hz
      have hs := small_ok hz.2.2
      exact op_pow pins sh si H _ _ v u Q I rx ry ⟨i, j, rfl, rfl, ⟨hz.1, hz.2.1, by omega⟩, k.int R h⟩
    · cases h
  · cases h
theorem neg_ok {x : V} {v : Value} {a d : PyData} (I : Inv X pins si H sh) (rx : RelV x v) (R : Rl X.K w0 H0 w e s σ H)
    (hx : Rt X.K H w.F a x) (h : negD a = some d) (k : Kd X.K w0 H0 w e s σ H d Q) : wpAny (model X.prog X.w) X.A (unaryOp .USub v) (EP X pins si Q) X.xe sh := by
  unfold negD at h
  split at h
  · rename_i i
    cases (show x = .int i from hx)
    exact un_neg pins sh si H _ v Q I rx ⟨i, rfl, k.int R h⟩
  · cases h
/-- reading data, wherever its own object stands -/
theorem Rt.rd {x : V} {v : Value} {a : PyData} (I : Inv X pins si H sh) (R : Rl X.K w0 H0 w e s σ H) (hx : Rt X.K H w.F a x) (rx : RelV x v) : ∃ as, Reads sh.heap v a as := Rp.reads I a (hx.full R.fh) rx
theorem room64 {n : Nat} (C : Cn0 X) (h : n ≤ 64) : X.A.units + n < cLine := by
  have := C.un
  omega
theorem room65 {n : Nat} (C : Cn0 X) (h : n ≤ 64) : X.A.units + 1 + n < cLine := by
  have := C.un
  omega
theorem fin_bool {c : Bool} {sh' : Shared} (I : Inv X pins si H sh') (k : Q (.bl c) H) : EP X pins si Q (.bool c) sh' := ⟨.bl c, H, I, rfl, k⟩
theorem isNone_iff {K : PySem.W.Frag} {G F : Hp} : ∀ {a : PyData} {x : V}, Rt K G F a x → decide (x = .non) = isNone a
  | .none, _, h => by cases (show _ = V.non from h); rfl
  | .bool b, _, h => by cases (show _ = V.bl b from h); rfl
  | .int b, _, h => by cases (show _ = V.int b from h); rfl
  | .str b, _, h => by cases (show _ = V.str b from h); rfl
  | .list _, _, ⟨_, _, e, _⟩ => by subst e; rfl
  | .tuple _, _, ⟨_, _, e, _⟩ => by subst e; rfl
  | .dict _, _, ⟨_, _, e, _⟩ => by subst e; rfl

/-! ### comparisons -/
theorem dict_of {p : Addr} {ks : List (Key × V)} (I : Inv X pins si H sh) (h : H p = some (.dK ks)) : (p == sysModules) = false ∧ ∃ vs, KV ks vs ∧ sh.heap.DictOf (mixKind X.prog X.w) p vs := by
  obtain ⟨_, h1, vs, h2, h3⟩ := (show ObjOk X.prog X.w H sh.heap p (.dK ks) from I.hok p _ h)
  exact ⟨h1, vs, h2, h3⟩
theorem rpK_emp {K : PySem.W.Frag} {F : Hp} {kds : List (PyData × PyData)} {ks : List (Key × V)} (h : RpK K F kds ks) : kds.length = ks.length := by
  induction kds generalizing ks with
  | nil => unfold RpK at h; subst h; rfl
  | cons x r ih =>
    obtain ⟨k, d⟩ := x
    unfold RpK at h
    obtain ⟨q, y, xs, rfl, _, _, h2⟩ := h
    simp [ih h2]
theorem kv_len {κ : Type} {kvs : List (κ × V)} {vs : List (κ × Value)} (r : KV kvs vs) : kvs.length = vs.length := Paired.length r
theorem eq_ok {neg : Bool} {x y : V} {v u : Value} {a b : PyData} {c : Bool} (C : Cn0 X) (I : Inv X pins si H sh) (rx : RelV x v) (ry : RelV y u) (R : Rl X.K w0 H0 w e s σ H)
    (hx : Rt X.K H w.F a x) (hy : Rt X.K H w.F b y) (h : eqD a b = some c) (k : Q (.bl (if neg then !c else c)) H) : wpAny (model X.prog X.w) X.A (compareOp (if neg then .NotEq else .Eq) v u) (EP X pins si Q) X.xe sh := by
  unfold eqD at h
  split at h
  · rename_i hc
    simp only [Bool.and_eq_true, decide_eq_true_eq] at hc
    obtain ⟨⟨h1, h2⟩, h3⟩ := hc
    obtain ⟨as, ra⟩ := hx.rd I R rx
    obtain ⟨bs, rb⟩ := hy.rd I R ry
    cases neg with
    | false => exact SeqAt.eq_plain ra rb h1 h2 (room64 C h3) (fin_bool I (Option.some.inj h ▸ k))
    | true => exact SeqAt.ne_plain ra rb h1 h2 (room64 C h3) (fin_bool I (Option.some.inj h ▸ k))
  · split at h
    · rename_i kvs _
      obtain ⟨p, ks, rfl, h1, h2⟩ := hx
      obtain ⟨q, qs, rfl, h3, h4⟩ := hy
      unfold RpK at h4
      subst h4
      obtain ⟨np, vs, kv, dp⟩ := dict_of I h1
      obtain ⟨nq, us, ku, dq⟩ := dict_of I h3
      cases ku
      cases rx
      cases ry
      have hl : kvs.length = vs.length := (rpK_emp h2).trans (kv_len kv)
      have hu : X.A.units < cLine := by have := C.un; omega
      have e : (vs.length == ([] : List (Key × Value)).length && true) = c := by
        rw [← Option.some.inj h, Bool.and_true]
        cases kvs with
        | nil => rw [← hl]; rfl
        | cons z zs => rw [← hl]; rfl
      have hits : vs.length = ([] : List (Key × Value)).length → PySem.W.KeqHits X.A.in1 sh ([] : List (Key × Value)) vs true := fun z => by
        have : vs = [] := List.eq_nil_of_length_eq_zero z
        subst this
        exact .nil
      cases neg with
      | false => exact PySem.W.keq_eq np nq dp dq hu hits (fin_bool I (by rw [e]; exact k))
      | true => exact PySem.W.keq_ne np nq dp dq hu hits (fin_bool I (by rw [e]; exact k))
    · cases h
theorem in_ok {neg : Bool} {x y : V} {v u : Value} {a b : PyData} {c : Bool} (C : Cn0 X) (I : Inv X pins si H sh) (rx : RelV x v) (ry : RelV y u) (R : Rl X.K w0 H0 w e s σ H)
    (hx : Rt X.K H w.F a x) (hy : Rt X.K H w.F b y) (h : inD a b = some c) (k : Q (.bl (if neg then !c else c)) H) : wpAny (model X.prog X.w) X.A (compareOp (if neg then .NotIn else .In) v u) (EP X pins si Q) X.xe sh := by
  obtain ⟨as, ra⟩ := hx.rd I R rx
  obtain ⟨bs, rb⟩ := hy.rd I R ry
  unfold inD at h
  split at h
  · split at h
    · rename_i hc
      simp only [Bool.and_eq_true, decide_eq_true_eq] at hc
      obtain ⟨⟨h1, h2⟩, h3⟩ := hc
      cases neg with
      | false => exact SeqAt.in_list_data rb ra h2 h1 (room65 C h3) (fin_bool I (Option.some.inj h ▸ k))
      | true => exact SeqAt.notIn_list_data rb ra h2 h1 (room65 C h3) (fin_bool I (Option.some.inj h ▸ k))
    · cases h
  · split at h
    · rename_i hc
      simp only [Bool.and_eq_true, decide_eq_true_eq] at hc
      obtain ⟨⟨h1, h2⟩, h3⟩ := hc
      cases neg with
      | false => exact SeqAt.in_tuple_data rb ra h2 h1 (room65 C h3) (fin_bool I (Option.some.inj h ▸ k))
      | true => exact SeqAt.notIn_tuple_data rb ra h2 h1 (room65 C h3) (fin_bool I (Option.some.inj h ▸ k))
    · cases h
  · cases h
theorem cmp_ok {o : CmpOp} {x y : V} {v u : Value} {a b : PyData} {c : Bool} (C : Cn0 X) (I : Inv X pins si H sh) (rx : RelV x v) (ry : RelV y u) (R : Rl X.K w0 H0 w e s σ H)
    (hx : Rt X.K H w.F a x) (hy : Rt X.K H w.F b y) (h : cmpD o a b = some c) (k : Q (.bl c) H) : wpAny (model X.prog X.w) X.A (compareOp o v u) (EP X pins si Q) X.xe sh := by
  unfold cmpD at h
  split at h
  · exact eq_ok (neg := false) C I rx ry R hx hy h k
  · obtain ⟨c', h1, h2⟩ := Option.map_eq_some_iff.mp h
    exact eq_ok (neg := true) C I rx ry R hx hy h1 (by rw [← h2] at k; exact k)
  · rename_i i j
    cases (show x = .int i from hx)
    cases (show y = .int j from hy)
    exact op_lt pins sh si H _ _ v u Q I rx ry ⟨i, j, rfl, rfl, by rw [← Option.some.inj h] at k; exact k⟩
  · rename_i i j
    cases (show x = .int i from hx)
    cases (show y = .int j from hy)
    exact op_le pins sh si H _ _ v u Q I rx ry ⟨i, j, rfl, rfl, by rw [← Option.some.inj h] at k; exact k⟩
  · rename_i i j
    cases (show x = .int i from hx)
    cases (show y = .int j from hy)
    exact op_gt pins sh si H _ _ v u Q I rx ry ⟨i, j, rfl, rfl, by rw [← Option.some.inj h] at k; exact k⟩
  · rename_i i j
    cases (show x = .int i from hx)
    cases (show y = .int j from hy)
    exact op_ge pins sh si H _ _ v u Q I rx ry ⟨i, j, rfl, rfl, by rw [← Option.some.inj h] at k; exact k⟩
  · exact in_ok (neg := false) C I rx ry R hx hy h k
  · obtain ⟨c', h1, h2⟩ := Option.map_eq_some_iff.mp h
    exact in_ok (neg := true) C I rx ry R hx hy h1 (by rw [← h2] at k; exact k)
  · cases (show y = .non from hy)
    exact op_isN pins sh si H _ _ v u Q I rx ry ⟨rfl, by rw [isNone_iff hx, Option.some.inj h]; exact k⟩
  · cases (show y = .non from hy)
    exact op_notN pins sh si H _ _ v u Q I rx ry ⟨rfl, by rw [isNone_iff hx, Option.some.inj h]; exact k⟩
  · rename_i i j
    cases (show x = .bl i from hx)
    cases (show y = .bl j from hy)
    exact op_isBl pins sh si H _ _ v u Q I rx ry ⟨i, j, rfl, rfl, Option.some.inj h ▸ k⟩
  · rename_i i j
    cases (show x = .bl i from hx)
    cases (show y = .bl j from hy)
    exact op_notBl pins sh si H _ _ v u Q I rx ry ⟨i, j, rfl, rfl, Option.some.inj h ▸ k⟩
  · cases h

/-! ### truth -/
theorem kv_emp {κ : Type} {kvs : List (κ × V)} {kds : List (PyData × PyData)} (h : kds.length = kvs.length) : kds.isEmpty = kvs.isEmpty := by
  cases kds <;> cases kvs <;> first | rfl | cases h
theorem truth_ok {x : V} {v : Value} {a : PyData} {c : Bool} {QB : Bool → Hp → Prop} (I : Inv X pins si H sh) (rx : RelV x v) (R : Rl X.K w0 H0 w e s σ H)
    (hx : Rt X.K H w.F a x) (h : truthD a = some c) (k : QB c H) : wpAny (model X.prog X.w) X.A (truthy v) (TP X pins si QB) X.xe sh := by
  refine tru_ok pins sh si H x v QB I rx ⟨c, ?_, k⟩
  cases a with
  | none => cases (show x = .non from hx); cases h; rfl
  | bool b => cases (show x = .bl b from hx); cases h; rfl
  | int i => cases (show x = .int i from hx); cases h; rfl
  | str z =>
    cases (show x = .str z from hx)
    have h : (if z.length ≤ 16777216 then some (z.length != 0) else none) = some c := h
    split at h
    · rename_i hz
      refine ⟨by rw [size_line]; exact hz, ?_⟩
      rw [← Option.some.inj h]
      cases q : z.length with
      | zero => rfl
      | succ n => rfl
    · cases h
  | list ds =>
    obtain ⟨p, xs, rfl, h1, h2⟩ := hx
    cases h
    exact .inl ⟨xs, SqL.of h1, by rw [(rpA_iff.mp h2).emp]⟩
  | tuple ds =>
    obtain ⟨p, xs, rfl, h1, h2⟩ := hx
    cases h
    exact .inr (.inl ⟨xs, sqT_mono R.fh h1, by rw [(rpA_iff.mp h2).emp]⟩)
  | dict kds =>
    obtain ⟨p, ks, rfl, h1, h2⟩ := hx
    cases h
    exact .inr (.inr ⟨ks, h1, by rw [kv_emp (rpK_emp h2)]⟩)
/-! ### built-ins of one argument -/
def b1F : B1 → Value
  | .len => .builtin "len"
  | .sum => .builtin "sum"
  | .all => .builtin "all"
  | .any => .builtin "any"
  | .tuple => .type "tuple"
  | .list => .type "list"
  | .abs => .builtin "abs"
  | .maxs => .builtin "max"
  | .mins => .builtin "min"
  | .sorted => .builtin "sorted"
  | .intb => .type "int"
  | .strs => .type "str"
  | .repr => .builtin "repr"
  | .setlen => .builtin "len"
  | .uniq => .builtin "len"
  | .bool => .type "bool"
theorem ints_rp {K : PySem.W.Frag} {F : Hp} : ∀ {ds : List PyData} {ns : List Int} {xs : List V}, ints? ds = some ns → RpA K F ds xs → xs = ns.map V.int
  | [], ns, xs, h, r => by
    unfold RpA at r; subst r
    cases (show some [] = some ns from h); rfl
  | d :: ds, ns, xs, h, r => by
    unfold RpA at r
    obtain ⟨y, ys, rfl, h1, h2⟩ := r
    cases d with
    | int i =>
      have h : (ints? ds).map (i :: ·) = some ns := h
      obtain ⟨ms, h3, h4⟩ := Option.map_eq_some_iff.mp h
      subst h4
      unfold Rp at h1
      subst h1
      rw [ints_rp h3 h2]; rfl
    | _ => cases h
theorem bools_rp {K : PySem.W.Frag} {F : Hp} : ∀ {ds : List PyData} {ns : List Bool} {xs : List V}, bools? ds = some ns → RpA K F ds xs → xs = ns.map V.bl
  | [], ns, xs, h, r => by
    unfold RpA at r; subst r
    cases (show some [] = some ns from h); rfl
  | d :: ds, ns, xs, h, r => by
    unfold RpA at r
    obtain ⟨y, ys, rfl, h1, h2⟩ := r
    cases d with
    | bool i =>
      have h : (bools? ds).map (i :: ·) = some ns := h
      obtain ⟨ms, h3, h4⟩ := Option.map_eq_some_iff.mp h
      subst h4
      unfold Rp at h1
      subst h1
      rw [bools_rp h3 h2]; rfl
    | _ => cases h
theorem sum_tup {t : Addr} {vs : List Value} {ns : List Int} {Q' : Value → Shared → Prop} (C : Cn X) (I : Inv X pins si H sh) (ht : sh.heap.IsTuple t vs.toArray) (hi : PyProof.Rows.IntsAre vs ns)
    (h : ∀ sh' tk, Inv X pins si H sh' → Q' (.int ns.sum tk) sh') : wpAny (model X.prog X.w) X.A (call (.builtin "sum") [.ref t]) Q' X.xe sh := by
  obtain ⟨xs, hx⟩ := hi.allInts.items
  have hn : numsOf vs.toArray.toList = ns := hi.numsOf
  rw [hx] at ht hn
  rw [nums_intItems] at hn
  refine PySem.W.ktm_sumG (I.ok.hd C.calm) ht fun h' tk t' hk => ?_
  rw [preSum_eq, List.take_of_length_le (by simp), hn]
  exact h _ _ (I.kept hk)
theorem each_of {α β : Type} {R : α → β → Prop} {as : List α} {bs : List β} (h : All2 R as bs) : PySem.W.EachIs R as bs := by
  induction h with
  | nil => exact .nil
  | cons x _ ih => exact .cons x ih
theorem of_each {α β : Type} {R : α → β → Prop} {as : List α} {bs : List β} (h : PySem.W.EachIs R as bs) : All2 R as bs := by
  induction h with
  | nil => exact .nil
  | cons x _ ih => exact .cons x ih
theorem all2_zip {α β γ : Type} {R : α → β → Prop} {S : γ → β → Prop} {as : List α} {bs : List β} {cs : List γ} (h : All2 R as bs) (h' : All2 S cs bs) : ∃ zs : List (α × β), zs.map (·.1) = as ∧ zs.map (·.2) = bs ∧ (∀ z ∈ zs, R z.1 z.2) ∧ All2 (fun c z => S c z.2) cs zs := by
  induction h generalizing cs with
  | nil => cases h'; exact ⟨[], rfl, rfl, (fun z hz => by cases hz), .nil⟩
  | cons x _ ih =>
    cases h' with
    | cons y h' =>
      obtain ⟨zs, h1, h2, h3, h4⟩ := ih h'
      refine ⟨(_, _) :: zs, by rw [List.map_cons, h1], by rw [List.map_cons, h2], fun z hz => ?_, .cons y h4⟩
      rcases List.mem_cons.mp hz with rfl | hz
      · exact x
      · exact h3 z hz
theorem all2_snd {zs : List (PyData × V)} {out : List Value} (h : All2 (fun (v : Value) (z : PyData × V) => RelV z.2 v) out zs) : All2 (fun u x => RelV x u) out (zs.map (·.2)) := by
  induction h with
  | nil => exact .nil
  | cons a _ ih => exact .cons a ih
theorem all2_mem {α β : Type} {R : α → β → Prop} : ∀ {ms : List (α × β)}, (∀ z ∈ ms, R z.1 z.2) → All2 R (ms.map (·.1)) (ms.map (·.2))
  | [], _ => .nil
  | a :: r, h => .cons (h a List.mem_cons_self) (all2_mem fun z hz => h z (List.mem_cons_of_mem _ hz))
theorem vals_all {xs : List V} {us : List Value} (r : Vals xs us) : All2 (fun u x => RelV x u) us xs := by
  induction xs generalizing us with
  | nil => cases r; exact .nil
  | cons x xs ih =>
    cases r with
    | cons a b => exact .cons a (ih b)
theorem all_vals {xs : List V} {us : List Value} (r : All2 (fun u x => RelV x u) us xs) : Vals xs us := by
  induction r with
  | nil => exact .nil
  | cons a _ ih => exact .cons a ih
theorem sort_ok {p : Addr} {xs : List V} {ds : List PyData} (C : Cn0 X) (I : Inv X pins si H sh) (R : Rl X.K w0 H0 w e s σ H) (h1 : H p = some (.lst xs)) (h2 : RpA X.K w.F ds xs) (hc : canSort ds = true)
    (k : Kd X.K w0 H0 w e s σ H (.list (sortD ds)) Q) : wpAny (model X.prog X.w) X.A (call (.builtin "sorted") [.ref p]) (EP X pins si Q) X.xe sh := by
  unfold canSort at hc
  simp only [Bool.and_eq_true, Bool.or_eq_true, List.all_eq_true, decide_eq_true_eq] at hc
  obtain ⟨⟨⟨c1, c2⟩, c3⟩, c4⟩ := hc
  obtain ⟨its, rv, hl, hz⟩ := I.list (SqL.of h1)
  obtain ⟨zs, z1, z2, z3, z4⟩ := all2_zip (rpA_iff.mp h2) (vals_all rv)
  have hm : zs.map (fun z : PyData × V => z.1) = ds := z1
  refine PySem.W.sorted_data (R := fun (v : Value) (z : PyData × V) => RelV z.2 v) (enc := fun z : PyData × V => z.1) (bs := zs) (vs := its) hl.isList (each_of z4) ?_ ?_ ?_ ?_ ?_ fun out ho he => ?_
  · refine each_of (z4.impM fun u z hz r => ?_)
    exact Rp.reads I z.1 (Rp.mono R.fh z.1 (z3 z hz)) r
  · rw [hm]
    exact fun d hd d' hd' => c1 d hd d' hd'
  · rw [hm]
    rcases c2 with c2 | c2
    · refine .inl fun d hd => ?_
      have q := c2 d hd
      unfold isTup1 at q
      split at q
      · exact ⟨_, _, rfl⟩
      · cases q
    · refine .inr fun d hd => ?_
      have q := c2 d hd
      exact ⟨(fun e => by subst e; cases q), (fun ys e => by subst e; cases q)⟩
  · have : zs.length = ds.length := by rw [← hm, List.length_map]
    rw [this, size_line]; exact c4
  · intro z hz
    have q := c3 z.1 (by rw [← hm]; exact List.mem_map.mpr ⟨z, hz, rfl⟩)
    have := C.un
    show X.A.units + 2 + z.1.depth < cLine
    omega
  · have ho2 : All2 (fun (v : Value) (z : PyData × V) => RelV z.2 v) out (zs.mergeSort (PySem.W.dataLe false fun z : PyData × V => z.1)) := of_each he
    obtain ⟨ep, he'⟩ := PyProof.Rows.sortedAll_at sh.heap its (List.toArray out)
    have hv : Vals ((zs.mergeSort (PySem.W.dataLe false fun z : PyData × V => z.1)).map (·.2)) out := by
      exact all_vals (all2_snd ho2)
    have hlen : ((zs.mergeSort (PySem.W.dataLe false fun z : PyData × V => z.1)).map (·.2)).length ≤ sizeLine := by
      rw [List.length_map, List.length_mergeSort]
      have : zs.length = ds.length := by rw [← hm, List.length_map]
      rw [this, size_line]; exact c4
    have hp : H (sh.heap.objs.size + 1) = none := I.hok.fresh (Nat.le_succ _)
    refine ⟨.ref (sh.heap.objs.size + 1), upd H (sh.heap.objs.size + 1) (.lst ((zs.mergeSort (PySem.W.dataLe false fun z : PyData × V => z.1)).map (·.2))), I.laid (t' := sh.toks) (fun _ _ => PyProof.Rows.sortedAll_old) (Nat.le_succ _) ⟨hlen, out, ep, hv, he'⟩, rfl, ?_⟩
    refine k.lst R (rpA_iff.mpr ?_) _ hp
    have e1 : sortD ds = (zs.mergeSort (PySem.W.dataLe false fun z : PyData × V => z.1)).map (·.1) := by
      unfold sortD
      rw [← hm]
      exact (PySem.W.sort_maps (fun z : PyData × V => z.1) fun a _ b _ => rfl).symm
    rw [e1]
    exact all2_mem fun z hz => z3 z (List.mem_mergeSort.mp hz)
mutual
theorem reads_fun {h : Heap} : ∀ (d : PyData) {d' : PyData} {v : Value} {as bs : List Addr}, Reads h v d as → Reads h v d' bs → d = d'
  | .none, _, _, _, _, .none, .none => rfl
  | .bool _, _, _, _, _, .bool _, .bool _ => rfl
  | .int _, _, _, _, _, .int _ _, .int _ _ => rfl
  | .str _, _, _, _, _, .str _ _, .str _ _ => rfl
  | .list ds, _, _, _, _, .list g1 g2 g3 g4, r => by
    cases r with
    | list e1 e2 e3 e4 =>
      rw [g1] at e1; cases e1
      rw [g3] at e3; cases e3
      rw [reads_funs ds g4 e4]
    | tuple e1 e2 e3 e4 =>
      rw [g1] at e1; cases e1
      rw [g2] at e2; injection e2 with z; exact absurd z (by decide)
    | dict e1 e2 e3 e4 e5 =>
      rw [g1] at e1; cases e1
      rw [g2] at e2; injection e2 with z; exact absurd z (by decide)
  | .tuple ds, _, _, _, _, .tuple g1 g2 g3 g4, r => by
    cases r with
    | list e1 e2 e3 e4 =>
      rw [g1] at e1; cases e1
      rw [g2] at e2; injection e2 with z; exact absurd z (by decide)
    | tuple e1 e2 e3 e4 =>
      rw [g1] at e1; cases e1
      rw [g3] at e3; cases e3
      rw [reads_funs ds g4 e4]
    | dict e1 e2 e3 e4 e5 =>
      rw [g1] at e1; cases e1
      rw [g2] at e2; injection e2 with z; exact absurd z (by decide)
  | .dict kvs, _, _, _, _, .dict g1 g2 g3 g4 g5, r => by
    cases r with
    | list e1 e2 e3 e4 =>
      rw [g1] at e1; cases e1
      rw [g2] at e2; injection e2 with z; exact absurd z (by decide)
    | tuple e1 e2 e3 e4 =>
      rw [g1] at e1; cases e1
      rw [g2] at e2; injection e2 with z; exact absurd z (by decide)
    | dict e1 e2 e3 e4 e5 =>
      rw [g1] at e1; cases e1
      rw [g3] at e3; cases e3
      rw [reads_funk kvs g4 g5 e4 e5]
theorem reads_funs {h : Heap} : ∀ (ds : List PyData) {ds' : List PyData} {vs : List Value} {as bs : List Addr}, ReadsAll h vs ds as → ReadsAll h vs ds' bs → ds = ds'
  | [], _, _, _, _, .nil, .nil => rfl
  | d :: ds, _, _, _, _, .cons a b, .cons a' b' => by rw [reads_fun d a a', reads_funs ds b b']
theorem reads_funk {h : Heap} : ∀ (ds : List (PyData × PyData)) {ds' : List (PyData × PyData)} {ks vs : List Value} {as bs as' bs' : List Addr}, ReadsAll h ks (ds.map (·.1)) as → ReadsAll h vs (ds.map (·.2)) bs → ReadsAll h ks (ds'.map (·.1)) as' → ReadsAll h vs (ds'.map (·.2)) bs' → ds = ds'
  | [], [], _, _, _, _, _, _, _, _, _, _ => rfl
  | [], _ :: _, _, _, _, _, _, _, a, _, b, _ => by cases a; cases b
  | _ :: _, [], _, _, _, _, _, _, a, _, b, _ => by cases a; cases b
  | (k, d) :: ds, (k', d') :: ds', _, _, _, _, _, _, a, b, a', b' => by
    cases a with
    | cons a1 a2 => cases b with
      | cons b1 b2 => cases a' with
        | cons a1' a2' => cases b' with
          | cons b1' b2' => rw [reads_fun k a1 a1', reads_fun d b1 b1', reads_funk ds a2 b2 a2' b2']
end
theorem mm_of {ds : List PyData} (h : canMm ds = true) : PySem.W.AlikeAll ds ∧ PyData.depthAll ds ≤ 64 ∧ ds.length ≤ 16777216 := by
  unfold canMm at h
  simp only [Bool.and_eq_true, List.all_eq_true, decide_eq_true_eq, Bool.not_eq_true'] at h
  obtain ⟨⟨h1, h2⟩, h3⟩ := h
  refine ⟨⟨fun x hx y hy => h1 x hx y hy, fun x hx e => ?_⟩, ?_, h3⟩
  · subst e
    exact absurd (h2 _ hx).2 (by simp)
  · clear h1 h3
    induction ds with
    | nil => simp [PyData.depthAll]
    | cons d ds ih =>
      have a := (h2 d List.mem_cons_self).1
      have b := ih fun x hx => h2 x (List.mem_cons_of_mem _ hx)
      simp only [PyData.depthAll]
      omega
theorem mm_end {ds : List PyData} {xs : List V} {its : List Value} {m : PyData} {i : Nat} {v : Value} {h' : Heap} {tk : Nat} {bs : List Addr} (I : Inv X pins si H sh) (R : Rl X.K w0 H0 w e s σ H) (h2 : RpA X.K w.F ds xs) (rv : Vals xs its)
    (hv : its[i]? = some v) (hr : Reads h' v m bs) (kp : ∀ b o, sh.heap.get? b = some o → h'.get? b = some o) (k : Kd X.K w0 H0 w e s σ H m Q) : EP X pins si Q v { sh with heap := h', toks := tk } := by
  obtain ⟨z, hz, rz⟩ := (vals_all rv).at_ hv
  obtain ⟨d, hd, rd⟩ := (rpA_iff.mp h2).atR hz
  have I' : Inv X pins si H { sh with heap := h', toks := tk } := I.kept kp
  obtain ⟨as, rd'⟩ := Rp.reads I' d (Rp.mono R.fh d rd) rz
  have := reads_fun d rd' hr
  subst this
  exact ⟨z, H, I', rz, k.here R rd⟩
theorem vals_one {x : V} {us : List Value} (r : Vals [x] us) : ∃ u, us = [u] ∧ RelV x u := vals1 r
theorem repr_ok {x : V} {v : Value} {a d : PyData} (C : Cn0 X) (I : Inv X pins si H sh) (rx : RelV x v) (R : Rl X.K w0 H0 w e s σ H)
    (hx : Rt X.K H w.F a x) (ho : okR a = true) (h : some (PyData.str a.shown) = some d) (k : Kd X.K w0 H0 w e s σ H d Q) : wpAny (model X.prog X.w) X.A (call (.builtin "repr") [v]) (EP X pins si Q) X.xe sh := by
  cases h
  unfold okR at ho
  simp only [Bool.and_eq_true, decide_eq_true_eq, Bool.not_eq_true'] at ho
  obtain ⟨⟨h1, h3⟩, h4⟩ := ho
  have fin : ∀ {t : Tok} {n : Nat}, EP X pins si Q (.str a.shown t) { sh with toks := n } := fun {t n} => ⟨.str a.shown, H, I.tok _, ⟨t, rfl⟩, k.here R rp_str⟩
  have big : ∀ {p : Addr}, v = .ref p → wpAny (model X.prog X.w) X.A (call (.builtin "repr") [v]) (EP X pins si Q) X.xe sh := fun {p} e => by
    subst e
    obtain ⟨as, r, nm⟩ := Rp.readsS I (smB_ok I.kIn C.sm) a (hx.full R.fh) rx
    exact repr_of_reads' r h1 (fun _ => nm) C.gd (by have := C.un; omega) (fun b o e => e) (fun h' u tk hk => ⟨.str a.shown, H, I.kept fun b o e => hk b o e, ⟨u, rfl⟩, k.here R rp_str⟩) (by rw [size_line]; exact h3)
  cases a with
  | none =>
    cases (show x = .non from hx); cases rx
    exact PySem.P.repr_of_none fin
  | bool b =>
    cases (show x = .bl b from hx); cases rx
    exact PySem.P.repr_of_bool fin
  | int i =>
    cases (show x = .int i from hx); obtain ⟨t, rfl⟩ := rx
    exact PySem.P.repr_of_int (by simpa [PyData.showable] using h1) fin
  | str z =>
    cases (show x = .str z from hx); obtain ⟨t, rfl⟩ := rx
    exact PySem.P.repr_of_str fin (by rw [size_line]; exact h3)
  | list ds =>
    obtain ⟨p, xs, rfl, _⟩ := hx
    cases rx
    exact big rfl
  | tuple ds =>
    obtain ⟨p, xs, rfl, _⟩ := hx
    cases rx
    exact big rfl
  | dict ds =>
    obtain ⟨p, xs, rfl, _⟩ := hx
    cases rx
    exact big rfl
theorem rpA_keys {K : PySem.W.Frag} {F : Hp} : ∀ {kds : List (PyData × PyData)} {ks : List (Key × V)}, RpK K F kds ks → RpA K F (kds.map (·.1)) (ks.map fun kv => kV kv.1)
  | [], ks, h => by
    unfold RpK at h
    subst h
    unfold RpA
    rfl
  | (k, d) :: kds, ks, h => by
    unfold RpK at h
    obtain ⟨q, x, xs, e, e2, h1, h2⟩ := h
    subst e e2
    rw [List.map_cons, List.map_cons]
    unfold RpA
    refine ⟨_, _, rfl, ?_, rpA_keys h2⟩
    cases q with
    | inl i => exact rp_int
    | inr y => exact rp_str
theorem b1_ok {f : B1} {x : V} {v : Value} {a d : PyData} (C : Cn X) (I : Inv X pins si H sh) (rx : RelV x v) (R : Rl X.K w0 H0 w e s σ H)
    (hx : Rt X.K H w.F a x) (h : b1D f a = some d) (k : Kd X.K w0 H0 w e s σ H d Q) : wpAny (model X.prog X.w) X.A (call (b1F f) [v]) (EP X pins si Q) X.xe sh := by
  have rv : Vals [x] [v] := .cons rx .nil
  unfold b1D at h
  split at h
  · obtain ⟨p, xs, rfl, h1, h2⟩ := hx
    exact call_len_seq pins sh si H _ _ Q I rv ⟨p, xs, rfl, .inl (SqL.of h1), by rw [← rpA_len h2]; exact k.int R h⟩
  · obtain ⟨p, xs, rfl, h1, h2⟩ := hx
    exact call_len_seq pins sh si H _ _ Q I rv ⟨p, xs, rfl, .inr (sqT_mono R.fh h1), by rw [← rpA_len h2]; exact k.int R h⟩
  · rename_i z
    cases (show x = .str z from hx)
    split at h
    · rename_i hz
      exact call_len_str pins sh si H _ _ Q I rv ⟨z, rfl, by rw [size_line]; exact hz, k.int R h⟩
    · cases h
  · obtain ⟨p, xs, rfl, h1, h2⟩ := hx
    obtain ⟨ns, h3, h4⟩ := Option.map_eq_some_iff.mp h
    subst h4
    rw [ints_rp h3 h2] at h1
    exact cr_sum C.calm pins sh si H _ _ Q I rv ⟨p, ns, rfl, SqL.of h1, k.here R rp_int⟩
  · obtain ⟨p, xs, rfl, h1, h2⟩ := hx
    obtain ⟨ns, h3, h4⟩ := Option.map_eq_some_iff.mp h
    subst h4
    rw [ints_rp h3 h2] at h1
    obtain ⟨its, rv2, ht, _⟩ := I.tuple (sqT_mono R.fh h1)
    cases rx
    exact sum_tup C I ht rv2.ints fun sh' tk I' => ⟨.int ns.sum, H, I', ⟨tk, rfl⟩, k.here R rp_int⟩
  · obtain ⟨p, xs, rfl, h1, h2⟩ := hx
    obtain ⟨ns, h3, h4⟩ := Option.map_eq_some_iff.mp h
    subst h4
    rw [bools_rp h3 h2] at h1
    exact cr_all C.calm pins sh si H _ _ Q I rv ⟨p, ns, rfl, SqL.of h1, k.here R rp_bool⟩
  · obtain ⟨p, xs, rfl, h1, h2⟩ := hx
    obtain ⟨ns, h3, h4⟩ := Option.map_eq_some_iff.mp h
    subst h4
    rw [bools_rp h3 h2] at h1
    exact cr_any C.calm pins sh si H _ _ Q I rv ⟨p, ns, rfl, SqL.of h1, k.here R rp_bool⟩
  · obtain ⟨p, xs, rfl, h1, h2⟩ := hx
    cases h
    exact call_tuple_of pins sh si H _ _ Q I rv ⟨p, xs, rfl, .inl ⟨SqL.of h1, k.tup R h2⟩⟩
  · obtain ⟨p, xs, rfl, h1, h2⟩ := hx
    cases h
    exact call_tuple_of pins sh si H _ _ Q I rv ⟨p, xs, rfl, .inr ⟨sqT_mono R.fh h1, k.here R (by unfold Rp; exact ⟨p, xs, rfl, h1, h2⟩)⟩⟩
  · obtain ⟨p, xs, rfl, h1, h2⟩ := hx
    cases h
    exact call_list_of pins sh si H _ _ Q I rv ⟨p, xs, rfl, .inl (SqL.of h1), k.lst R h2⟩
  · obtain ⟨p, xs, rfl, h1, h2⟩ := hx
    cases h
    exact call_list_of pins sh si H _ _ Q I rv ⟨p, xs, rfl, .inr (sqT_mono R.fh h1), k.lst R h2⟩
  · obtain ⟨p, ks, rfl, h1, h2⟩ := hx
    cases h
    exact call_list_dK C.calm pins sh si H _ _ Q I rv ⟨p, ks, rfl, h1, k.lst R (rpA_keys h2)⟩
  · rename_i i
    cases (show x = .int i from hx)
    exact call_abs pins sh si H _ _ Q I rv ⟨i, rfl, k.int R h⟩
  · split at h
    · rename_i hc
      obtain ⟨p, xs, rfl, h1, h2⟩ := hx
      cases h
      cases rx
      exact sort_ok C I R h1 h2 hc k
    · cases h
  · rename_i i
    cases (show x = .bl i from hx)
    exact call_int1 pins sh si H _ _ Q I rv (.inr ⟨i, rfl, k.int R h⟩)
  · rename_i i
    cases (show x = .int i from hx)
    exact call_int1 pins sh si H _ _ Q I rv (.inl ⟨i, rfl, k.int R h⟩)
  · split at h
    · rename_i y ys hc
      obtain ⟨p, xs, rfl, h1, h2⟩ := hx
      cases h
      cases rx
      obtain ⟨hal, hdp, hln⟩ := mm_of hc
      obtain ⟨its, rv', hl, hz⟩ := I.list (SqL.of h1)
      obtain ⟨as, hr⟩ := RpA.reads I (y :: ys) (RpA.mono R.fh _ h2) rv'
      have hu := C.un
      exact PySem.W.max_list_data (I.ok.hd C.calm) hl.isList (by simpa using hr) hal (by omega) fun i v h' tk bs hv hr' kp => mm_end I R h2 rv' (by simpa using hv) hr' kp k
    · cases h
  · split at h
    · rename_i y ys hc
      obtain ⟨p, xs, rfl, h1, h2⟩ := hx
      cases h
      cases rx
      obtain ⟨hal, hdp, hln⟩ := mm_of hc
      obtain ⟨its, rv', hl, hz⟩ := I.list (SqL.of h1)
      obtain ⟨as, hr⟩ := RpA.reads I (y :: ys) (RpA.mono R.fh _ h2) rv'
      have hu := C.un
      exact PySem.W.min_list_data (I.ok.hd C.calm) hl.isList (by simpa using hr) hal (by omega) fun i v h' tk bs hv hr' kp => mm_end I R h2 rv' (by simpa using hv) hr' kp k
    · cases h
  · split at h
    · rename_i ho
      exact repr_ok C I rx R hx ho h k
    · cases h
  · cases h
end
end Ev

/-! places, slices, stores -/
namespace Ev
open PySem PySem.Spec PyProof.Rows L2
section
variable {X : Cx} {pins : List (Addr × Obj)} {σ si : L2.St} {H : Hp} {sh : Shared} {w0 w : Wd} {H0 : Hp} {e : Lv} {s : Sto} {Q : VK}
/-- what is wanted of a result -/
def Kv (K : PySem.W.Frag) (w0 : Wd) (H0 : Hp) (w : Wd) (e : Lv) (s : Sto) (σ : L2.St) (H : Hp) (v : Val) (Q : VK) : Prop :=
  ∀ w' z H', Rl K w0 H0 w' e s σ H' → Le w H w' H' → Rv K w' v z → Q z H'
theorem Kv.here {K : PySem.W.Frag} {d : Val} {z : V} (k : Kv K w0 H0 w e s σ H d Q) (R : Rl K w0 H0 w e s σ H) (r : Rv K w d z) : Q z H := k w z H R .refl r
theorem all2_atI {α β : Type} {R : α → β → Prop} {as : List α} {bs : List β} (h : All2 R as bs) {i : Int} {a : α} (e : atP as i = some a) : ∃ b, atI bs i = some b ∧ R a b := by
  unfold atP atI at e
  unfold atI
  rw [← h.len]
  cases q : ixN as.length i with
  | none => rw [q] at e; cases e
  | some j =>
    rw [q] at e
    obtain ⟨b, h1, h2⟩ := h.at_ (show as[j]? = some a from e)
    exact ⟨b, h1, h2⟩
theorem eqv_key (a b : Key) : PyData.eqv (kP a) (kP b) = decide (a = b) := by
  cases a with
  | inl i => cases b with
    | inl j => rw [key_ll]; simp [kP, PyData.eqv]
    | inr y => rw [key_lr]; simp [kP, PyData.eqv]
  | inr x => cases b with
    | inl j => rw [key_rl]; simp [kP, PyData.eqv]
    | inr y => rw [key_rr]; simp [kP, PyData.eqv, Bool.beq_eq_decide_eq]
theorem look_ok {K : PySem.W.Frag} {F : Hp} (q : Key) : ∀ {kds : List (PyData × PyData)} {ks : List (Key × V)}, RpK K F kds ks → (∀ d, lookD (kP q) kds = some d → ∃ x, valV ks q = some x ∧ Rp K F d x) ∧ (lookD (kP q) kds = none → valV ks q = none)
  | [], ks, h => by
    unfold RpK at h; subst h
    exact ⟨(fun d e => by cases e), fun _ => rfl⟩
  | (k, d) :: kds, ks, h => by
    unfold RpK at h
    obtain ⟨p, x, xs, rfl, rfl, h1, h2⟩ := h
    have ih := look_ok q h2
    unfold lookD
    rw [eqv_key]
    by_cases e : p = q
    · subst e
      rw [valV_pos rfl]
      simp only [decide_true, if_true]
      exact ⟨(fun d' e' => ⟨x, rfl, by cases e'; exact h1⟩), (fun e' => by cases e')⟩
    · rw [valV_neg e, decide_eq_false e]
      simp only [Bool.false_eq_true, if_false]
      exact ih
theorem put_ok {K : PySem.W.Frag} {F : Hp} (q : Key) {d : PyData} {x : V} (hx : Rp K F d x) {kds : List (PyData × PyData)} {ks : List (Key × V)} (nd : (ks.map (·.1)).Nodup) (h : RpK K F kds ks) : RpK K F (putD (kP q) d kds) (putK ks q x) := by
  induction kds generalizing ks with
  | nil =>
    unfold RpK at h; subst h
    unfold putD putK
    simp only [List.any_nil, Bool.false_eq_true, if_false, List.nil_append]
    unfold RpK
    exact ⟨q, x, [], rfl, rfl, hx, by unfold RpK; rfl⟩
  | cons a r ih =>
    obtain ⟨k, d'⟩ := a
    unfold RpK at h
    obtain ⟨p, y, ys, rfl, rfl, h1, h2⟩ := h
    have nd' : p ∉ ys.map (·.1) ∧ (ys.map (·.1)).Nodup := List.nodup_cons.mp nd
    unfold putD
    rw [eqv_key]
    by_cases e : p = q
    · subst e
      simp only [decide_true, if_true]
      have e2 : putK ((p, y) :: ys) p x = (p, x) :: ys := by
        unfold putK
        rw [List.any_cons, decide_eq_true rfl, Bool.true_or, if_pos rfl, List.map_cons, if_pos rfl]
        congr 1
        refine (List.map_congr_left fun z hz => ?_).trans (List.map_id _)
        rw [if_neg]
        · rfl
        · rintro rfl
          exact nd'.1 (List.mem_map.mpr ⟨z, hz, rfl⟩)
      rw [e2]
      unfold RpK
      exact ⟨p, x, ys, rfl, rfl, hx, h2⟩
    · rw [decide_eq_false e]
      simp only [Bool.false_eq_true, if_false]
      have e2 : putK ((p, y) :: ys) q x = (p, y) :: putK ys q x := by
        unfold putK
        rw [List.any_cons, decide_eq_false e, Bool.false_or]
        split
        · rw [List.map_cons, if_neg e]
        · rfl
      rw [e2]
      unfold RpK
      exact ⟨p, y, _, rfl, rfl, h1, ih nd'.2 h2⟩
theorem isKey_kP {k : PyData} (h : isKey k = true) : ∃ q, k = kP q := by
  cases k with
  | int i => exact ⟨.inl i, rfl⟩
  | str x => exact ⟨.inr x, rfl⟩
  | _ => cases h
theorem rt_key {K : PySem.W.Frag} {G F : Hp} {q : Key} {x : V} (h : Rt K G F (kP q) x) : x = kV q := by
  cases q <;> exact h
theorem dnodup {p : Addr} {ks : List (Key × V)} (I : Inv X pins si H sh) (h : H p = some (.dK ks)) : (ks.map (·.1)).Nodup := by
  obtain ⟨_, _, vs, h2, o, es, ep, _, _, _, _, _, nd⟩ := (show ObjOk X.prog X.w H sh.heap p (.dK ks) from I.hok p _ h)
  rw [h2.keys]; exact nd
theorem room1 (C : Cn0 X) : X.A.units + 1 < cLine := by have := C.un; omega
/-- a place of data -/
theorem idxD_ok {x y : V} {v u : Value} {a b d : PyData} {value slice : Expr} (C : Cn0 X) (I : Inv X pins si H sh) (rx : RelV x v) (ry : RelV y u) (R : Rl X.K w0 H0 w e s σ H)
    (hx : Rt X.K H w.F a x) (hy : Rt X.K H w.F b y) (h : idxD a b = some d) (k : ∀ z, Rp X.K w.F d z → Q z H) (hs : subscripted slice false v u = operate [v, u] (getItem v u)) :
    wpAny (model X.prog X.w) X.A (subscriptTail value slice v u) (EP X pins si Q) X.xe sh := by
  unfold idxD at h
  split at h
  · rename_i xs i
    obtain ⟨p, ys, rfl, h1, h2⟩ := hx
    cases (show y = .int i from hy)
    obtain ⟨z, h3, h4⟩ := all2_atI (rpA_iff.mp h2) h
    exact ix_list value slice pins sh si H _ _ v u Q I rx ry ⟨p, ys, i, z, rfl, rfl, SqL.of h1, h3, k z h4⟩ hs
  · rename_i xs i
    obtain ⟨p, ys, rfl, h1, h2⟩ := hx
    cases (show y = .int i from hy)
    obtain ⟨z, h3, h4⟩ := all2_atI (rpA_iff.mp h2) h
    exact ix_tup value slice pins sh si H _ _ v u Q I rx ry ⟨p, ys, i, z, rfl, rfl, sqT_mono R.fh h1, h3, k z h4⟩ hs
  · rename_i z i
    cases (show x = .str z from hx)
    cases (show y = .int i from hy)
    split at h
    · rename_i hz
      obtain ⟨c, h1, h2⟩ := Option.map_eq_some_iff.mp h
      exact ix_str value slice pins sh si H _ _ v u Q I rx ry ⟨z, i, c, rfl, rfl, by rw [size_line]; exact hz, h1, k _ (h2 ▸ rp_str)⟩ hs
    · cases h
  · split at h
    · rename_i hk
      obtain ⟨p, ks, rfl, h1, h2⟩ := hx
      obtain ⟨q, rfl⟩ := isKey_kP hk
      cases rt_key hy
      obtain ⟨z, h3, h4⟩ := (look_ok q h2).1 d h
      have g : DGet H p (kV q) (some z) := h3 ▸ DGet.k h1
      cases rx
      exact tail_any (dict_typeIs I g) PySem.F.slot_dict_getitem.lookup (d_getItem (room1 C) I g ry fun w' s3 I3 rw' => ⟨z, H, I3, rw', k z h4⟩) hs
    · cases h
  · cases h
theorem all2_ints : ∀ ns : List Int, All2 (fun (n : Int) (z : V) => z = .int n) ns (ns.map V.int)
  | [] => .nil
  | _ :: r => .cons rfl (all2_ints r)
/-- c[i] -/
theorem idx_ok {x y : V} {v u : Value} {c i r : Val} {s' : Sto} {value slice : Expr} (C : Cn0 X) (I : Inv X pins si H sh) (rx : RelV x v) (ry : RelV y u) (R : Rl X.K w0 H0 w e s σ H)
    (hx : Rv X.K w c x) (hy : Rv X.K w i y) (h : idxV c i s = some (r, s')) (k : Kv X.K w0 H0 w e s' σ H r Q) (hs : subscripted slice false v u = operate [v, u] (getItem v u)) :
    s' = s ∧ wpAny (model X.prog X.w) X.A (subscriptTail value slice v u) (EP X pins si Q) X.xe sh := by
  obtain ⟨kd, s1, h1, h2⟩ := bd_inv h
  obtain ⟨rfl, ty⟩ := peek_rt R hy h1
  cases c with
  | d a =>
    have h2 : ofO ((idxD a kd).map Val.d) s1 = some (r, s') := h2
    cases q : idxD a kd with
    | none => rw [q] at h2; cases h2
    | some d =>
      rw [q] at h2
      have e2 : (Val.d d, s1) = (r, s') := Option.some.inj h2
      cases e2
      exact ⟨rfl, idxD_ok C I rx ry R (Rp.top R.fh hx) ty q (fun z hz => k.here R hz) hs⟩
  | e a => cases (show (none : Option (Val × Sto)) = some (r, s') from h2)
  | s ns =>
    obtain ⟨p, rfl, hq⟩ := hx
    cases kd with
    | int j =>
      cases (show y = .int j from ty)
      have h2 : ofO ((atP ns j).map fun n => Val.d (.int n)) s1 = some (r, s') := h2
      cases q : atP ns j with
      | none => rw [q] at h2; cases h2
      | some n =>
        rw [q] at h2
        have e2 : (Val.d (.int n), s1) = (r, s') := Option.some.inj h2
        cases e2
        obtain ⟨z, h3, h4⟩ := all2_atI (all2_ints ns) q
        subst h4
        exact ⟨rfl, ix_list value slice pins sh si H _ _ v u Q I rx ry ⟨p, _, j, _, rfl, rfl, sqL_mono R.fh hq, h3, k.here R (show Rp X.K w.F (.int n) (.int n) from rp_int)⟩ hs⟩
    | _ => cases h2
  | g n =>
    cases q : getO (.g n) s1 with
    | none => simp only [q] at h2; cases h2
    | some so =>
      obtain ⟨p, rfl, ro⟩ := R.obj hx q
      simp only [q] at h2
      cases so with
      | lst vs =>
        obtain ⟨_, xs, hp, hr⟩ := ro
        cases kd with
        | int j =>
          cases (show y = .int j from ty)
          obtain ⟨z, h3, h4⟩ := Option.map_eq_some_iff.mp h2
          cases h4
          obtain ⟨zv, h5, h6⟩ := all2_atI hr h3
          exact ⟨rfl, ix_list value slice pins sh si H _ _ v u Q I rx ry ⟨p, xs, j, zv, rfl, rfl, SqL.of hp, h5, k.here R h6⟩ hs⟩
        | _ => cases h2
      | frz a =>
        have h2 : (idxD a kd).map (fun y => (Val.d y, s1)) = some (r, s') := by cases kd <;> exact h2
        obtain ⟨d, h3, h4⟩ := Option.map_eq_some_iff.mp h2
        cases h4
        exact ⟨rfl, idxD_ok C I rx ry R (Rp.top R.fh ro) ty h3 (fun z hz => k.here R hz) hs⟩
      | dct kvs =>
        obtain ⟨_, ks, hp, hr⟩ := ro
        have h2 : (idxD (.dict kvs) kd).map (fun y => (Val.d y, s1)) = some (r, s') := by cases kd <;> exact h2
        obtain ⟨d, h3, h4⟩ := Option.map_eq_some_iff.mp h2
        cases h4
        exact ⟨rfl, idxD_ok C I rx ry R (a := .dict kvs) ⟨p, ks, rfl, hp, hr⟩ ty h3 (fun z hz => k.here R hz) hs⟩
      | ins _ _ => cases kd <;> cases h2
  | l n =>
    cases q : getO (.l n) s1 with
    | none => simp only [q] at h2; cases h2
    | some so =>
      obtain ⟨p, rfl, ro⟩ := R.obj hx q
      simp only [q] at h2
      cases so with
      | lst vs =>
        obtain ⟨_, xs, hp, hr⟩ := ro
        cases kd with
        | int j =>
          cases (show y = .int j from ty)
          obtain ⟨z, h3, h4⟩ := Option.map_eq_some_iff.mp h2
          cases h4
          obtain ⟨zv, h5, h6⟩ := all2_atI hr h3
          exact ⟨rfl, ix_list value slice pins sh si H _ _ v u Q I rx ry ⟨p, xs, j, zv, rfl, rfl, SqL.of hp, h5, k.here R h6⟩ hs⟩
        | _ => cases h2
      | frz a =>
        have h2 : (idxD a kd).map (fun y => (Val.d y, s1)) = some (r, s') := by cases kd <;> exact h2
        obtain ⟨d, h3, h4⟩ := Option.map_eq_some_iff.mp h2
        cases h4
        exact ⟨rfl, idxD_ok C I rx ry R (Rp.top R.fh ro) ty h3 (fun z hz => k.here R hz) hs⟩
      | dct kvs =>
        obtain ⟨_, ks, hp, hr⟩ := ro
        have h2 : (idxD (.dict kvs) kd).map (fun y => (Val.d y, s1)) = some (r, s') := by cases kd <;> exact h2
        obtain ⟨d, h3, h4⟩ := Option.map_eq_some_iff.mp h2
        cases h4
        exact ⟨rfl, idxD_ok C I rx ry R (a := .dict kvs) ⟨p, ks, rfl, hp, hr⟩ ty h3 (fun z hz => k.here R hz) hs⟩
      | ins _ _ => cases kd <;> cases h2
/-! ### writing -/
/-- an object of a store that is written -/
theorem wr_obj (R : Rl X.K w0 H0 w e s σ H) {c : Val} {x : V} (hx : Rv X.K w c x) {p : Addr} (hp : x = .ref p) {so : SO} {o : HO} {s' : Sto} (hF : w.F p = none) (hs : Ro X.K w (upd H p o) p so) (hk : Pl H p) (h : putO c so s = some s') :
    Rl X.K w0 H0 w e s' σ (upd H p o) ∧ Le w H w (upd H p o) := by
  subst hp
  cases c with
  | d _ => cases h
  | s _ => cases h
  | e _ => cases h
  | g n =>
    obtain ⟨a, h1, h2⟩ := hx
    cases h2
    cases h
    exact ⟨R.wrG h1 hF hs hk, Le.refl.write (.inl (List.mem_of_getElem? h1)) (.inl (List.mem_of_getElem? h1)) hk⟩
  | l n =>
    obtain ⟨a, h1, h2⟩ := hx
    cases h2
    cases h
    exact ⟨R.wrL h1 hF hs hk, Le.refl.write (.inr (List.mem_of_getElem? h1)) (.inr (.inl (List.mem_of_getElem? h1))) hk⟩
/-- a value that goes into an object of c's store -/
theorem into_ok (hw : w0.nu = []) (R : Rl X.K w0 H0 w e s σ H) {c v v' : Val} {x : V} {s' : Sto} (r : Rv X.K w v x) (h : (match c with | .l _ => rt v | _ => keepV v) s = some (v', s')) :
    ∃ w', Rl X.K w0 H0 w' e s' σ H ∧ Le w H w' H ∧ Rv X.K w' v' x := by
  cases c with
  | l n =>
    cases (show some (v, s) = some (v', s') from h)
    exact ⟨w, R, .refl, r⟩
  | d _ => obtain ⟨w', h1, h2, h3, _⟩ := keepV_ok hw R r (show keepV v s = some (v', s') from h); exact ⟨w', h1, h2, h3⟩
  | g _ => obtain ⟨w', h1, h2, h3, _⟩ := keepV_ok hw R r (show keepV v s = some (v', s') from h); exact ⟨w', h1, h2, h3⟩
  | s _ => obtain ⟨w', h1, h2, h3, _⟩ := keepV_ok hw R r (show keepV v s = some (v', s') from h); exact ⟨w', h1, h2, h3⟩
  | e _ => obtain ⟨w', h1, h2, h3, _⟩ := keepV_ok hw R r (show keepV v s = some (v', s') from h); exact ⟨w', h1, h2, h3⟩
/-- c[i] = x -/
theorem set_ok {c i v : Val} {xc xi xv : V} {vc vi vv : Value} {s' : Sto} {u : Unit} {QH : Hp → Prop} (C : Cn0 X) (hw : w0.nu = []) (I : Inv X pins si H sh) (rc : RelV xc vc) (ri : RelV xi vi) (rv : RelV xv vv) (R : Rl X.K w0 H0 w e s σ H)
    (hc : Rv X.K w c xc) (hi : Rv X.K w i xi) (hv : Rv X.K w v xv) (h : setV c i v s = some (u, s')) (k : ∀ w' H', Rl X.K w0 H0 w' e s' σ H' → Le w H w' H' → QH H') :
    wpAny (model X.prog X.w) X.A (setItem vc vi vv) (fun _ t => ∃ H', Inv X pins si H' t ∧ QH H') X.xe sh := by
  obtain ⟨kd, s1, h1, h2⟩ := bd_inv h
  obtain ⟨rfl, ty⟩ := peek_rt R hi h1
  obtain ⟨v', s2, h3, h4⟩ := bd_inv h2
  obtain ⟨w1, R1, l1, r1⟩ := into_ok hw R (c := c) hv h3
  have hc1 : Rv X.K w1 c xc := hc.mono l1
  cases q : getO c s2 with
  | none => simp only [q] at h4; cases h4
  | some so =>
    obtain ⟨p, rfl, ro⟩ := R1.obj hc1 q
    simp only [q] at h4
    cases so with
    | lst vs =>
      obtain ⟨hF, xs, hp, hr⟩ := ro
      cases kd with
      | int j =>
        cases (show xi = .int j from ty)
        have h4 : (match ixP vs.length j with | some m => (putO c (.lst (vs.set m v')) s2).map fun s' => ((), s') | none => none) = some (u, s') := h4
        cases q2 : ixP vs.length j with
        | none => rw [q2] at h4; cases h4
        | some m =>
          rw [q2] at h4
          obtain ⟨t, h5, h6⟩ := Option.map_eq_some_iff.mp h4
          cases h6
          refine set_list pins sh si H _ _ _ vc vi vv QH I rc ri rv ⟨p, xs, j, m, rfl, rfl, hp, by rw [← hr.len]; exact q2, ?_⟩
          have hro : Ro X.K w1 (upd H p (.lst (xs.set m xv))) p (.lst (vs.set m v')) := ⟨hF, _, upd_same, hr.set r1 m⟩
          obtain ⟨R2, l2⟩ := wr_obj R1 hc1 rfl hF hro (.lst hp) h5
          exact k _ _ R2 (l1.trans l2)
      | _ => cases h4
    | dct kvs =>
      obtain ⟨hF, ks, hp, hr⟩ := ro
      cases v' with
      | d y =>
        have h4 : (if isKey kd && decide (kvs.length < 16777216) then (putO c (.dct (putD kd y kvs)) s2).map fun s' => ((), s') else none) = some (u, s') := by cases kd <;> exact h4
        split at h4
        · rename_i hk
          simp only [Bool.and_eq_true, decide_eq_true_eq] at hk
          obtain ⟨qk, rfl⟩ := isKey_kP hk.1
          cases rt_key ty
          obtain ⟨t, h5, h6⟩ := Option.map_eq_some_iff.mp h4
          cases h6
          cases rc
          refine d_setItem (room1 C) I (DPut.k (v := xv) hp (by rw [size_line, ← rpK_emp hr]; exact hk.2)) ri rv fun t' I' => ⟨_, I', ?_⟩
          have hro : Ro X.K w1 (upd H p (.dK (putK ks qk xv))) p (.dct (putD (kP qk) y kvs)) := ⟨hF, _, upd_same, put_ok qk r1 (dnodup I hp) hr⟩
          obtain ⟨R2, l2⟩ := wr_obj R1 hc1 rfl hF hro (.dK hp) h5
          exact k _ _ R2 (l1.trans l2)
        · cases h4
      | _ => cases kd <;> cases h4
    | frz a => cases kd <;> cases h4
    | ins _ _ => cases kd <;> cases h4
/-- c.append(x) -/
theorem app_ok2 {c v : Val} {xc xv : V} {vc vv : Value} {s' : Sto} {u : Unit} (C : Cn0 X) (hw : w0.nu = []) (I : Inv X pins si H sh) (rc : RelV xc vc) (rv : RelV xv vv) (R : Rl X.K w0 H0 w e s σ H)
    (hc : Rv X.K w c xc) (hv : Rv X.K w v xv) (h : appV c v s = some (u, s')) (k : ∀ w' H', Rl X.K w0 H0 w' e s' σ H' → Le w H w' H' → Q .non H') :
    wpAny (model X.prog X.w) X.A (call (.builtin "list.append") [vc, vv]) (EP X pins si Q) X.xe sh := by
  obtain ⟨v', s2, h3, h4⟩ := bd_inv h
  obtain ⟨w1, R1, l1, r1⟩ := into_ok hw R (c := c) hv h3
  have hc1 : Rv X.K w1 c xc := hc.mono l1
  cases q : getO c s2 with
  | none => simp only [q] at h4; cases h4
  | some so =>
    obtain ⟨p, rfl, ro⟩ := R1.obj hc1 q
    simp only [q] at h4
    cases so with
    | lst vs =>
      obtain ⟨hF, xs, hp, hr⟩ := ro
      have h4 : (if vs.length < 16777216 then (putO c (.lst (vs ++ [v'])) s2).map fun s' => ((), s') else none) = some (u, s') := h4
      split at h4
      · rename_i hz
        obtain ⟨t, h5, h6⟩ := Option.map_eq_some_iff.mp h4
        cases h6
        refine mt_append pins sh si H _ [xv] vc [vv] Q I rc (.cons rv .nil) ⟨p, xs, xv, rfl, rfl, hp, by rw [size_line, ← hr.len]; exact hz, ?_⟩
        have hro : Ro X.K w1 (upd H p (.lst (xs ++ [xv]))) p (.lst (vs ++ [v'])) := ⟨hF, _, upd_same, hr.app (.cons r1 .nil)⟩
        obtain ⟨R2, l2⟩ := wr_obj R1 hc1 rfl hF hro (.lst hp) h5
        exact k _ _ R2 (l1.trans l2)
      · cases h4
    | frz a => cases h4
    | dct _ => cases h4
    | ins _ _ => cases h4
/-- the type of an object to which something is appended -/
theorem app_ty {c v : Val} {xc : V} {s s' : Sto} {u : Unit} (hw : w0.nu = []) (R : Rl X.K w0 H0 w e s σ H) (hc : Rv X.K w c xc) (h : (∃ o, getO c s = some (.lst o))) : tyV X.K "list" xc H := by
  obtain ⟨o, q⟩ := h
  obtain ⟨p, rfl, _, xs, hp, _⟩ := R.obj hc q
  exact .inl ⟨rfl, xs, SqL.of hp⟩
end
end Ev

/-! expressions: each construct as a reading over the evaluator -/
namespace Ev
open PySem PySem.Spec PyProof.Rows L2
def tE (K : PySem.W.Frag) (w0 : Wd) (H0 : Hp) (m : Lv → M Val) : TE := fun σ H Q => ∃ w e s v s', Rl K w0 H0 w e s σ H ∧ m e s = some (v, s') ∧
  ∀ w' z H', Rl K w0 H0 w' e s' σ H' → Le w H w' H' → Rv K w' v z → Q z H'
def tT (K : PySem.W.Frag) (w0 : Wd) (H0 : Hp) (m : Lv → M Bool) : TT := fun σ H Q => ∃ w e s b s', Rl K w0 H0 w e s σ H ∧ m e s = some (b, s') ∧
  ∀ w' H', Rl K w0 H0 w' e s' σ H' → Le w H w' H' → Q b H'
def tA (K : PySem.W.Frag) (w0 : Wd) (H0 : Hp) (m : Lv → M (List Val)) : TA := fun σ H Q => ∃ w e s vs s', Rl K w0 H0 w e s σ H ∧ m e s = some (vs, s') ∧
  ∀ w' xs H', Rl K w0 H0 w' e s' σ H' → Le w H w' H' → All2 (Rv K w') vs xs → Q xs H'
def tO (K : PySem.W.Frag) (w0 : Wd) (H0 : Hp) (m : Lv → M (Option Int)) : TO := fun σ H Q => ∃ w e s i s', Rl K w0 H0 w e s σ H ∧ m e s = some (i, s') ∧
  ∀ w' H', Rl K w0 H0 w' e s' σ H' → Le w H w' H' → Q i H'
section
variable {X : Cx} {a b c : Expr} {pos : Pos}
theorem pe_imp {e : Expr} {t t' : TE} (h : PE X e t) (f : ∀ σ H Q, t' σ H Q → t σ H Q) : PE X e t' := ⟨fun pins s σ H Q I q => h.run pins s σ H Q I (f σ H Q q)⟩
theorem pt_imp {e : Expr} {t t' : TT} (h : PT X e t) (f : ∀ σ H Q, t' σ H Q → t σ H Q) : PT X e t' := ⟨fun pins s σ H Q I q => h.run pins s σ H Q I (f σ H Q q)⟩
theorem pa_imp {es : List Expr} {t t' : TA} (h : PA X es t) (f : ∀ σ H Q, t' σ H Q → t σ H Q) : PA X es t' := ⟨fun pos pins s σ H Q I q => h.run pos pins s σ H Q I (f σ H Q q)⟩
theorem pw_imp {e : Expr} {t t' : TT} (h : PW X e t) (f : ∀ σ H Q, t' σ H Q → t σ H Q) : PW X e t' := ⟨fun wh pins s σ H Q I q => h.run wh pins s σ H Q I (f σ H Q q)⟩
/-- operations by what the model's own step gives -/
def sem1 (X : Cx) (f : Value → Sem Value) : V → Hp → VK → Prop := fun x H Q => ∀ (pins : List (Addr × Obj)) (sh : Shared) (si : L2.St) (v : Value), Inv X pins si H sh → RelV x v → wpAny (model X.prog X.w) X.A (f v) (EP X pins si Q) X.xe sh
def sem2 (X : Cx) (f : Value → Value → Sem Value) : R2 := fun x y H Q => ∀ (pins : List (Addr × Obj)) (sh : Shared) (si : L2.St) (v u : Value), Inv X pins si H sh → RelV x v → RelV y u → wpAny (model X.prog X.w) X.A (f v u) (EP X pins si Q) X.xe sh
def semC (X : Cx) (f : Value) : List V → Hp → VK → Prop := fun xs H Q => ∀ (pins : List (Addr × Obj)) (sh : Shared) (si : L2.St) (us : List Value), Inv X pins si H sh → Vals xs us → wpAny (model X.prog X.w) X.A (call f us) (EP X pins si Q) X.xe sh
def semM (X : Cx) (id : String) : V → List V → Hp → VK → Prop := fun x xs H Q => ∀ (pins : List (Addr × Obj)) (sh : Shared) (si : L2.St) (v : Value) (us : List Value), Inv X pins si H sh → RelV x v → Vals xs us → wpAny (model X.prog X.w) X.A (call (.builtin id) (v :: us)) (EP X pins si Q) X.xe sh
theorem op_sem (f : Value → Value → Sem Value) : OpR X f (sem2 X f) := fun pins s σ H x y v u Q I rx ry h => h pins s σ v u I rx ry
theorem un_sem (f : Value → Sem Value) : UnR X f (sem1 X f) := fun pins s σ H x v Q I rx h => h pins s σ v I rx
theorem call_sem (f : Value) : CallR X f (semC X f) := fun pins s σ H xs us Q I r h => h pins s σ us I r
theorem mt_sem (id : String) : MtR X id (semM X id) := fun pins s σ H x xs v us Q I rx rs h => h pins s σ v us I rx rs
variable {w0 : Wd} {H0 : Hp} {ma mb mc : Lv → M Val}
theorem ofO_inv {α : Type} {o : Option α} {s s' : Sto} {a : α} (h : ofO o s = some (a, s')) : o = some a ∧ s' = s := by
  cases o with
  | none => cases h
  | some b => cases (show some (b, s) = some (a, s') from h); exact ⟨rfl, rfl⟩
theorem of_map {α β : Type} {o : Option α} {f : α → β} {s s' : Sto} {r : β} (h : ofO (o.map f) s = some (r, s')) : ∃ d, o = some d ∧ r = f d ∧ s' = s := by
  obtain ⟨h1, h2⟩ := ofO_inv h
  obtain ⟨d, h3, h4⟩ := Option.map_eq_some_iff.mp h1
  exact ⟨d, h3, h4.symm, h2⟩
theorem rt_inv {α : Type} {a b : α} {s s' : Sto} (h : rt a s = some (b, s')) : b = a ∧ s' = s := by
  cases (show some (a, s) = some (b, s') from h); exact ⟨rfl, rfl⟩
theorem pk {α : Type} {K : PySem.W.Frag} {w : Wd} {H : Hp} {e : Lv} {s s' : Sto} {σ : L2.St} {v : Val} {x : V} {f : PyData → M α} {r : α} (R : Rl K w0 H0 w e s σ H) (rx : Rv K w v x) (h : bd (peek v) f s = some (r, s')) :
    ∃ d, Rt K H w.F d x ∧ f d s = some (r, s') := by
  obtain ⟨d, s1, h1, h2⟩ := bd_inv h
  obtain ⟨q, t⟩ := peek_rt R rx h1
  subst q
  exact ⟨d, t, h2⟩
theorem var_inv {e : Lv} {i : Nat} {s s' : Sto} {v : Val} (h : varE i e s = some (v, s')) : e[i]? = some (some v) ∧ s' = s := by
  unfold varE at h
  cases q : e[i]? with
  | none => rw [q] at h; cases h
  | some o =>
    rw [q] at h
    cases o with
    | none => cases h
    | some u =>
      obtain ⟨h1, h2⟩ := rt_inv h
      exact ⟨by rw [h1], h2⟩
/-- a name, a constant -/
theorem e_var {i : Nat} {x : Str} (hN : X.N[i]? = some x) (hv : Vis X.env.scope x) (hd : (x == ("__debug__" : Str)) = false) (hcd : (x == ("__classdict__" : Str)) = false) :
    PE X (.Name x pos) (tE X.K w0 H0 fun e => varE i e) := by
  refine pe_imp (pe_var hN hv hd hcd) fun σ H Q h => ?_
  obtain ⟨w, e, s, v, s', R, ev, k⟩ := h
  obtain ⟨hu, e2⟩ := var_inv ev
  subst e2
  obtain ⟨p, h1, h2⟩ := R.env.at_ hu
  obtain ⟨z, h3, h4⟩ := h2 _ rfl
  exact ⟨z, by rw [h1, h3], k w z H R .refl h4⟩
theorem e_con {x : V} {d : PyData} (h : PE X a (tC x)) (hx : ∀ F, Rp X.K F d x) : PE X a (tE X.K w0 H0 fun _ => rt (.d d)) := by
  refine pe_imp h fun σ H Q h => ?_
  obtain ⟨w, e, s, v, s', R, ev, k⟩ := h
  obtain ⟨e1, e2⟩ := rt_inv ev
  subst e1 e2
  exact k w x H R .refl (hx w.F)
/-- a + b .. -/
theorem e_bin {o : Operator} (C : Cn0 X) (ha : PE X a (tE X.K w0 H0 ma)) (hb : PE X b (tE X.K w0 H0 mb)) :
    PE X (.BinOp a o b pos) (tE X.K w0 H0 fun e => bd (ma e) fun v => bd (mb e) fun u => bd (peek v) fun x => bd (peek u) fun y => ofO ((binD o x y).map .d)) := by
  refine pe_imp (pe_op (op_sem (binaryOp o)) ha hb) fun σ H Q h => ?_
  obtain ⟨w, e, s, v, s', R, ev, k⟩ := h
  obtain ⟨v1, s1, e1, ev⟩ := bd_inv ev
  obtain ⟨v2, s2, e2, ev⟩ := bd_inv ev
  refine ⟨w, e, s, v1, s1, R, e1, fun w1 x H1 R1 l1 r1 => ⟨w1, e, s1, v2, s2, R1, e2, fun w2 y H2 R2 l2 r2 => ?_⟩⟩
  obtain ⟨x1, t1, ev⟩ := pk R2 (r1.mono l2) ev
  obtain ⟨y1, t2, ev⟩ := pk R2 r2 ev
  obtain ⟨d, e5, e6, e7⟩ := of_map ev
  subst e6 e7
  exact fun pins sh si v u I rx ry => bin_ok C I rx ry R2 t1 t2 e5 fun w' z H' R' l' r' => k w' z H' R' ((l1.trans l2).trans l') r'
theorem e_neg (ha : PE X a (tE X.K w0 H0 ma)) : PE X (.UnaryOp .USub a pos) (tE X.K w0 H0 fun e => bd (ma e) fun v => bd (peek v) fun x => ofO ((negD x).map .d)) := by
  refine pe_imp (pe_un (un_sem (unaryOp .USub)) ha) fun σ H Q h => ?_
  obtain ⟨w, e, s, v, s', R, ev, k⟩ := h
  obtain ⟨v1, s1, e1, ev⟩ := bd_inv ev
  refine ⟨w, e, s, v1, s1, R, e1, fun w1 x H1 R1 l1 r1 => ?_⟩
  obtain ⟨x1, t1, ev⟩ := pk R1 r1 ev
  obtain ⟨d, e5, e6, e7⟩ := of_map ev
  subst e6 e7
  exact fun pins sh si v I rx => neg_ok I rx R1 t1 e5 fun w' z H' R' l' r' => k w' z H' R' (l1.trans l') r'
theorem cmp_kont {K : PySem.W.Frag} {w w2 : Wd} {H H2 : Hp} {e : Lv} {s' : Sto} {σ : L2.St} {Q : VK} {c : Bool} (R2 : Rl K w0 H0 w2 e s' σ H2) (l : Le w H w2 H2)
    (k : ∀ w' z H', Rl K w0 H0 w' e s' σ H' → Le w H w' H' → Rv K w' (.d (.bool c)) z → Q z H') : Q (.bl c) H2 := k w2 _ H2 R2 l (show Rp K w2.F (.bool c) (.bl c) from rp_bool)
theorem e_cmp {o : CmpOp} (C : Cn0 X) (ha : PE X a (tE X.K w0 H0 ma)) (hb : PE X b (tE X.K w0 H0 mb)) (hm : behindInMarks o b = false) :
    PE X (.Compare a [o] [b] pos) (tE X.K w0 H0 fun e => bd (ma e) fun v => bd (mb e) fun u => bd (peek v) fun x => bd (peek u) fun y => ofO ((cmpD o x y).map fun c => .d (.bool c))) := by
  refine pe_imp (pe_cmpR (op_sem (compareOp o)) ha hb hm) fun σ H Q h => ?_
  obtain ⟨w, e, s, v, s', R, ev, k⟩ := h
  obtain ⟨v1, s1, e1, ev⟩ := bd_inv ev
  obtain ⟨v2, s2, e2, ev⟩ := bd_inv ev
  refine ⟨w, e, s, v1, s1, R, e1, fun w1 x H1 R1 l1 r1 => ⟨w1, e, s1, v2, s2, R1, e2, fun w2 y H2 R2 l2 r2 => ?_⟩⟩
  obtain ⟨x1, t1, ev⟩ := pk R2 (r1.mono l2) ev
  obtain ⟨y1, t2, ev⟩ := pk R2 r2 ev
  obtain ⟨d, e5, e6, e7⟩ := of_map ev
  subst e6 e7
  exact fun pins sh si v u I rx ry => cmp_ok C I rx ry R2 t1 t2 e5 (cmp_kont R2 (l1.trans l2) k)
/-- .. as a test -/
theorem t_cmp {o : CmpOp} (C : Cn0 X) (ha : PE X a (tE X.K w0 H0 ma)) (hb : PE X b (tE X.K w0 H0 mb)) (hm : behindInMarks o b = false) :
    PT X (.Compare a [o] [b] pos) (tT X.K w0 H0 fun e => bd (bd (ma e) fun v => bd (mb e) fun u => bd (peek v) fun x => bd (peek u) fun y => ofO ((cmpD o x y).map fun c => .d (.bool c))) fun v => bd (peek v) fun x => ofO (truthD x)) := by
  refine pt_imp (pt_cmpR (op_sem (compareOp o)) ha hb hm) fun σ H Q h => ?_
  obtain ⟨w, e, s, bb, s', R, ev, k⟩ := h
  obtain ⟨v0, s0, ev, ew⟩ := bd_inv ev
  obtain ⟨v1, s1, e1, ev⟩ := bd_inv ev
  obtain ⟨v2, s2, e2, ev⟩ := bd_inv ev
  refine ⟨w, e, s, v1, s1, R, e1, fun w1 x H1 R1 l1 r1 => ⟨w1, e, s1, v2, s2, R1, e2, fun w2 y H2 R2 l2 r2 => ?_⟩⟩
  obtain ⟨x1, t1, ev⟩ := pk R2 (r1.mono l2) ev
  obtain ⟨y1, t2, ev⟩ := pk R2 r2 ev
  obtain ⟨d, e5, e6, e7⟩ := of_map ev
  subst e6 e7
  have e6 : some (d, s0) = some (bb, s') := ew
  cases e6
  exact fun pins sh si v u I rx ry => cmp_ok C I rx ry R2 t1 t2 e5 ⟨_, rfl, k w2 H2 R2 (l1.trans l2)⟩
/-- any expression as a test -/
theorem t_val (ha : PE X a (tE X.K w0 H0 ma)) (he : ∀ whole, isTrue a X.env whole = (do let v ← whole; standAt a.pos; holding [v] (truthy v))) :
    PT X a (tT X.K w0 H0 fun e => bd (ma e) fun v => bd (peek v) fun x => ofO (truthD x)) := by
  refine ⟨fun pins sh σ H Q I h => ?_⟩
  obtain ⟨w, e, s, bb, s', R, ev, k⟩ := h
  obtain ⟨v1, s1, e1, ev⟩ := bd_inv ev
  refine isTrue_plain (thn (ha.run pins sh σ H (fun x H1 => ∃ w1, Rl X.K w0 H0 w1 e s1 σ H1 ∧ Le w H w1 H1 ∧ Rv X.K w1 v1 x) I ⟨w, e, s, v1, s1, R, e1, fun w1 x H1 R1 l1 r1 => ⟨w1, R1, l1, r1⟩⟩) fun v sh1 ⟨x, H1, I1, rx, w1, R1, l1, r1⟩ => ?_) (he _)
  obtain ⟨x1, t1, ev⟩ := pk R1 r1 ev
  obtain ⟨e5, e6⟩ := ofO_inv ev
  subst e6
  exact truth_ok I1 rx R1 t1 e5 (k w1 H1 R1 l1)
theorem t_not {m : Lv → M Bool} (ha : PT X a (tT X.K w0 H0 m)) : PT X (.UnaryOp .Not a pos) (tT X.K w0 H0 fun e => bd (m e) fun k => rt !k) := by
  refine pt_imp (pt_not ha) fun σ H Q h => ?_
  obtain ⟨w, e, s, bb, s', R, ev, k⟩ := h
  obtain ⟨v1, s1, e1, ev⟩ := bd_inv ev
  obtain ⟨e2, e3⟩ := rt_inv ev
  subst e2 e3
  exact ⟨w, e, s, v1, _, R, e1, fun w1 H1 R1 l1 => k w1 H1 R1 l1⟩
theorem not_of2 {v : Value} {pins : List (Addr × Obj)} {si : L2.St} {H : Hp} {sh : Shared} {Q : VK} {x : V} {w : Wd} {e : Lv} {s : Sto} {σ : L2.St} {d : PyData} {k : Bool} (I : Inv X pins si H sh) (rx : RelV x v) (R : Rl X.K w0 H0 w e s σ H) (t : Rt X.K H w.F d x) (h : truthD d = some k) (q : Q (.bl !k) H) :
    wpAny (model X.prog X.w) X.A (unaryOp .Not v) (EP X pins si Q) X.xe sh := by
  exact not_of (thn (truth_ok I rx R t h (QB := fun b H' => b = k ∧ H' = H) ⟨rfl, rfl⟩) fun b sh1 ⟨H1, I1, e1, e2⟩ => by
    subst e1 e2
    exact ⟨.bl !b, _, I1, rfl, q⟩)
theorem e_not (ha : PE X a (tE X.K w0 H0 ma)) : PE X (.UnaryOp .Not a pos) (tE X.K w0 H0 fun e => bd (ma e) fun v => bd (peek v) fun x => bd (ofO (truthD x)) fun k => rt (.d (.bool !k))) := by
  refine pe_imp (pe_un (un_sem (unaryOp .Not)) ha) fun σ H Q h => ?_
  obtain ⟨w, e, s, v, s', R, ev, k⟩ := h
  obtain ⟨v1, s1, e1, ev⟩ := bd_inv ev
  refine ⟨w, e, s, v1, s1, R, e1, fun w1 x H1 R1 l1 r1 => ?_⟩
  obtain ⟨x1, t1, ev⟩ := pk R1 r1 ev
  obtain ⟨b, s4, e4, ev⟩ := bd_inv ev
  obtain ⟨e4', e5⟩ := ofO_inv e4
  obtain ⟨e6, e7⟩ := rt_inv ev
  subst e6 e7 e5
  exact fun pins sh si v I rx => not_of2 I rx R1 t1 e4' (cmp_kont R1 l1 k)
theorem e_ife {m : Lv → M Bool} (hc : PT X c (tT X.K w0 H0 m)) (ha : PE X a (tE X.K w0 H0 ma)) (hb : PE X b (tE X.K w0 H0 mb)) : PE X (.IfExp c a b pos) (tE X.K w0 H0 fun e => bd (m e) fun k => if k then ma e else mb e) := by
  refine pe_imp (pe_ifExp hc ha hb) fun σ H Q h => ?_
  obtain ⟨w, e, s, v, s', R, ev, k⟩ := h
  obtain ⟨v1, s1, e1, ev⟩ := bd_inv ev
  refine ⟨w, e, s, v1, s1, R, e1, fun w1 H1 R1 l1 => ?_⟩
  cases v1 with
  | true => exact ⟨w1, e, s1, v, s', R1, ev, fun w2 z H2 R2 l2 r2 => k w2 z H2 R2 (l1.trans l2) r2⟩
  | false => exact ⟨w1, e, s1, v, s', R1, ev, fun w2 z H2 R2 l2 r2 => k w2 z H2 R2 (l1.trans l2) r2⟩
/-- a op b op c -/
theorem e_chn {o1 o2 : CmpOp} (C : Cn0 X) (ha : PE X a (tE X.K w0 H0 ma)) (hb : PE X b (tE X.K w0 H0 mb)) (hc : PE X c (tE X.K w0 H0 mc)) (hm : lastMarks [o1, o2] [b, c] = false) :
    PE X (.Compare a [o1, o2] [b, c] pos) (tE X.K w0 H0 fun e => bd (ma e) fun v => bd (mb e) fun u => bd (peek v) fun x => bd (peek u) fun y => bd (ofO (cmpD o1 x y)) fun k =>
      if k then bd (mc e) fun w => bd (peek u) fun y => bd (peek w) fun z => ofO ((cmpD o2 y z).map fun c => .d (.bool c)) else rt (.d (.bool false))) := by
  refine pe_imp (pe_chain (op_sem (compareOp o1)) (op_sem (compareOp o2)) ha hb hc hm) fun σ H Q h => ?_
  obtain ⟨w, e, s, v, s', R, ev, k⟩ := h
  obtain ⟨v1, s1, e1, ev⟩ := bd_inv ev
  obtain ⟨v2, s2, e2, ev⟩ := bd_inv ev
  refine ⟨w, e, s, v1, s1, R, e1, fun w1 x H1 R1 l1 r1 => ⟨w1, e, s1, v2, s2, R1, e2, fun w2 y H2 R2 l2 r2 => ?_⟩⟩
  obtain ⟨x1, t1, ev⟩ := pk R2 (r1.mono l2) ev
  obtain ⟨y1, t2, ev⟩ := pk R2 r2 ev
  obtain ⟨b1, s5, e5, ev⟩ := bd_inv ev
  obtain ⟨e5', e6⟩ := ofO_inv e5
  subst e6
  refine fun pins sh si v u I rx ry => cmp_ok C I rx ry R2 t1 t2 e5' ⟨b1, rfl, ?_⟩
  cases b1 with
  | false =>
    obtain ⟨e6, e7⟩ := rt_inv ev
    subst e6 e7
    exact ite_ff (cmp_kont R2 (l1.trans l2) k)
  | true =>
    obtain ⟨v3, s3, e3, ev⟩ := bd_inv (show bd (mc e) _ s5 = some (_, s') from ev)
    refine ite_tt ⟨w2, e, s5, v3, s3, R2, e3, fun w3 z H3 R3 l3 r3 => ?_⟩
    obtain ⟨y1, t2, ev⟩ := pk R3 (r2.mono l3) ev
    obtain ⟨z1, t3, ev⟩ := pk R3 r3 ev
    obtain ⟨d, e5, e6, e7⟩ := of_map ev
    subst e6 e7
    exact fun pins sh si v u I rx ry => cmp_ok C I rx ry R3 t2 t3 e5 (cmp_kont R3 ((l1.trans l2).trans l3) k)
theorem t_chn {o1 o2 : CmpOp} (C : Cn0 X) (ha : PE X a (tE X.K w0 H0 ma)) (hb : PE X b (tE X.K w0 H0 mb)) (hc : PE X c (tE X.K w0 H0 mc)) (hm : lastMarks [o1, o2] [b, c] = false) :
    PT X (.Compare a [o1, o2] [b, c] pos) (tT X.K w0 H0 fun e => bd (bd (ma e) fun v => bd (mb e) fun u => bd (peek v) fun x => bd (peek u) fun y => bd (ofO (cmpD o1 x y)) fun k =>
      if k then bd (mc e) fun w => bd (peek u) fun y => bd (peek w) fun z => ofO ((cmpD o2 y z).map fun c => .d (.bool c)) else rt (.d (.bool false))) fun v => bd (peek v) fun x => ofO (truthD x)) := by
  refine pt_imp (pt_chain (op_sem (compareOp o1)) (op_sem (compareOp o2)) ha hb hc hm) fun σ H Q h => ?_
  obtain ⟨w, e, s, bb, s', R, ev, k⟩ := h
  obtain ⟨v0, s0, ev, ew⟩ := bd_inv ev
  obtain ⟨v1, s1, e1, ev⟩ := bd_inv ev
  obtain ⟨v2, s2, e2, ev⟩ := bd_inv ev
  refine ⟨w, e, s, v1, s1, R, e1, fun w1 x H1 R1 l1 r1 => ⟨w1, e, s1, v2, s2, R1, e2, fun w2 y H2 R2 l2 r2 => ?_⟩⟩
  obtain ⟨x1, t1, ev⟩ := pk R2 (r1.mono l2) ev
  obtain ⟨y1, t2, ev⟩ := pk R2 r2 ev
  obtain ⟨b1, s5, e5, ev⟩ := bd_inv ev
  obtain ⟨e5', e6⟩ := ofO_inv e5
  subst e6
  refine fun pins sh si v u I rx ry => cmp_ok C I rx ry R2 t1 t2 e5' ⟨b1, rfl, ?_⟩
  cases b1 with
  | false =>
    obtain ⟨e6, e7⟩ := rt_inv ev
    subst e6 e7
    cases (show some (false, s0) = some (bb, s') from ew)
    exact ite_ff ⟨false, rfl, k w2 H2 R2 (l1.trans l2)⟩
  | true =>
    obtain ⟨v3, s3, e3, ev⟩ := bd_inv (show bd (mc e) _ s5 = some (_, s0) from ev)
    refine ite_tt ⟨w2, e, s5, v3, s3, R2, e3, fun w3 z H3 R3 l3 r3 => ?_⟩
    obtain ⟨y1, t2, ev⟩ := pk R3 (r2.mono l3) ev
    obtain ⟨z1, t3, ev⟩ := pk R3 r3 ev
    obtain ⟨d, e5, e6, e7⟩ := of_map ev
    subst e6 e7
    cases (show some (d, s0) = some (bb, s') from ew)
    exact fun pins sh si v u I rx ry => cmp_ok C I rx ry R3 t2 t3 e5 ⟨_, rfl, k w3 H3 R3 ((l1.trans l2).trans l3)⟩
/-- and, or -/
theorem e_and {rest : List Expr} {mr : Lv → M Val} (ha : PE X a (tE X.K w0 H0 ma)) (hb : PE X (.BoolOp .And (b :: rest) pos) (tE X.K w0 H0 mr)) :
    PE X (.BoolOp .And (a :: b :: rest) pos) (tE X.K w0 H0 fun e => bd (ma e) fun v => bd (peek v) fun x => bd (ofO (truthD x)) fun k => if k then mr e else rt v) := by
  refine ⟨fun pins sh σ H Q I h => ?_⟩
  obtain ⟨w, e, s, v, s', R, ev, k⟩ := h
  obtain ⟨v1, s1, e1, ev⟩ := bd_inv ev
  refine BoolOp_and (thn (ha.run pins sh σ H (fun x H1 => ∃ w1, Rl X.K w0 H0 w1 e s1 σ H1 ∧ Le w H w1 H1 ∧ Rv X.K w1 v1 x) I ⟨w, e, s, v1, s1, R, e1, fun w1 x H1 R1 l1 r1 => ⟨w1, R1, l1, r1⟩⟩) fun u sh1 ⟨x, H1, I1, rx, w1, R1, l1, r1⟩ => ?_)
  obtain ⟨x1, t1, ev⟩ := pk R1 r1 ev
  obtain ⟨b1, s5, e5, ev⟩ := bd_inv ev
  obtain ⟨e5', e6⟩ := ofO_inv e5
  subst e6
  refine thn (truth_ok I1 rx R1 t1 e5' (QB := fun b H' => b = b1 ∧ H' = H1) ⟨rfl, rfl⟩) fun b2 sh2 ⟨H2, I2, q1, q2⟩ => ?_
  subst q1 q2
  cases b2 with
  | true => exact hb.run pins sh2 σ H2 Q I2 ⟨w1, e, s5, v, s', R1, ev, fun w2 z H2 R2 l2 r2 => k w2 z H2 R2 (l1.trans l2) r2⟩
  | false =>
    obtain ⟨e6, e7⟩ := rt_inv ev
    subst e6 e7
    exact ⟨x, H2, I2, rx, k w1 x H2 R1 l1 r1⟩
theorem e_or {rest : List Expr} {mr : Lv → M Val} (ha : PE X a (tE X.K w0 H0 ma)) (hb : PE X (.BoolOp .Or (b :: rest) pos) (tE X.K w0 H0 mr)) :
    PE X (.BoolOp .Or (a :: b :: rest) pos) (tE X.K w0 H0 fun e => bd (ma e) fun v => bd (peek v) fun x => bd (ofO (truthD x)) fun k => if k then rt v else mr e) := by
  refine ⟨fun pins sh σ H Q I h => ?_⟩
  obtain ⟨w, e, s, v, s', R, ev, k⟩ := h
  obtain ⟨v1, s1, e1, ev⟩ := bd_inv ev
  refine BoolOp_or (thn (ha.run pins sh σ H (fun x H1 => ∃ w1, Rl X.K w0 H0 w1 e s1 σ H1 ∧ Le w H w1 H1 ∧ Rv X.K w1 v1 x) I ⟨w, e, s, v1, s1, R, e1, fun w1 x H1 R1 l1 r1 => ⟨w1, R1, l1, r1⟩⟩) fun u sh1 ⟨x, H1, I1, rx, w1, R1, l1, r1⟩ => ?_)
  obtain ⟨x1, t1, ev⟩ := pk R1 r1 ev
  obtain ⟨b1, s5, e5, ev⟩ := bd_inv ev
  obtain ⟨e5', e6⟩ := ofO_inv e5
  subst e6
  refine thn (truth_ok I1 rx R1 t1 e5' (QB := fun b H' => b = b1 ∧ H' = H1) ⟨rfl, rfl⟩) fun b2 sh2 ⟨H2, I2, q1, q2⟩ => ?_
  subst q1 q2
  cases b2 with
  | false => exact hb.run pins sh2 σ H2 Q I2 ⟨w1, e, s5, v, s', R1, ev, fun w2 z H2 R2 l2 r2 => k w2 z H2 R2 (l1.trans l2) r2⟩
  | true =>
    obtain ⟨e6, e7⟩ := rt_inv ev
    subst e6 e7
    exact ⟨x, H2, I2, rx, k w1 x H2 R1 l1 r1⟩
theorem w_and1 {m : Lv → M Bool} (ha : PT X a (tT X.K w0 H0 m)) : PW X (.BoolOp .And [a] pos) (tT X.K w0 H0 fun e => bd (m e) fun k => if k then rt true else rt false) := by
  refine pw_imp (pw_and1 ha) fun σ H Q h => ?_
  obtain ⟨w, e, s, v, s', R, ev, k⟩ := h
  obtain ⟨v1, s1, e1, ev⟩ := bd_inv ev
  cases v1 <;>
  · obtain ⟨e6, e7⟩ := rt_inv ev
    subst e6 e7
    exact ⟨w, e, s, _, _, R, e1, k⟩
theorem w_or1 {m : Lv → M Bool} (ha : PT X a (tT X.K w0 H0 m)) : PW X (.BoolOp .Or [a] pos) (tT X.K w0 H0 fun e => bd (m e) fun k => if k then rt true else rt false) := by
  refine pw_imp (pw_or1 ha) fun σ H Q h => ?_
  obtain ⟨w, e, s, v, s', R, ev, k⟩ := h
  obtain ⟨v1, s1, e1, ev⟩ := bd_inv ev
  cases v1 <;>
  · obtain ⟨e6, e7⟩ := rt_inv ev
    subst e6 e7
    exact ⟨w, e, s, _, _, R, e1, k⟩
theorem w_and {rest : List Expr} {m mr : Lv → M Bool} (ha : PT X a (tT X.K w0 H0 m)) (hb : PW X (.BoolOp .And (b :: rest) pos) (tT X.K w0 H0 mr)) : PW X (.BoolOp .And (a :: b :: rest) pos) (tT X.K w0 H0 fun e => bd (m e) fun k => if k then mr e else rt false) := by
  refine pw_imp (pw_and ha hb) fun σ H Q h => ?_
  obtain ⟨w, e, s, v, s', R, ev, k⟩ := h
  obtain ⟨v1, s1, e1, ev⟩ := bd_inv ev
  refine ⟨w, e, s, v1, s1, R, e1, fun w1 H1 R1 l1 => ?_⟩
  cases v1 with
  | true => exact ⟨w1, e, s1, v, s', R1, ev, fun w2 H2 R2 l2 => k w2 H2 R2 (l1.trans l2)⟩
  | false =>
    obtain ⟨e6, e7⟩ := rt_inv ev
    subst e6 e7
    exact k w1 H1 R1 l1
theorem w_or {rest : List Expr} {m mr : Lv → M Bool} (ha : PT X a (tT X.K w0 H0 m)) (hb : PW X (.BoolOp .Or (b :: rest) pos) (tT X.K w0 H0 mr)) : PW X (.BoolOp .Or (a :: b :: rest) pos) (tT X.K w0 H0 fun e => bd (m e) fun k => if k then rt true else mr e) := by
  refine pw_imp (pw_or ha hb) fun σ H Q h => ?_
  obtain ⟨w, e, s, v, s', R, ev, k⟩ := h
  obtain ⟨v1, s1, e1, ev⟩ := bd_inv ev
  refine ⟨w, e, s, v1, s1, R, e1, fun w1 H1 R1 l1 => ?_⟩
  cases v1 with
  | false => exact ⟨w1, e, s1, v, s', R1, ev, fun w2 H2 R2 l2 => k w2 H2 R2 (l1.trans l2)⟩
  | true =>
    obtain ⟨e6, e7⟩ := rt_inv ev
    subst e6 e7
    exact k w1 H1 R1 l1
end
end Ev

/-! xs[::-1] of a list or a tuple -/
namespace Ev
open PySem PySem.Spec PyProof.Rows L2
section
variable {prog : Program} {w : World} {A : Around} {E : Value → Shared → Prop} {s : Shared}
theorem adjust_back (n : Nat) : Builtin.Slice.sliceAdjust none none (-1) (n : Int) = ((n : Int) - 1, -1) := by
  unfold Builtin.Slice.sliceAdjust
  simp
theorem places_back (n : Nat) : Builtin.Slice.slicePlaces ((n : Int) - 1) (-1) (-1) = n := by
  unfold Builtin.Slice.slicePlaces
  rw [if_neg (by decide)]
  by_cases h : (n : Int) - 1 > -1
  · rw [if_pos h, show (-(-1) : Int) = 1 by decide, Int.ediv_one]; omega
  · rw [if_neg h]; omega
theorem applied_back {sl : Addr} {vs : Value} {n : Nat} {Q : Int × Int × Nat → Shared → Prop} (hs : s.heap.IsSliceOf sl .none .none vs) (ps : IsPart vs (some (-1))) (h : Q ((n : Int) - 1, -1, n) s) :
    wpAny (model prog w) A (Builtin.Slice.sliceApplied (.ref sl) (pure (n : Int))) Q E s := by
  obtain ⟨os, hos, hcs, hds⟩ := id hs
  unfold Builtin.Slice.sliceApplied Builtin.Slice.sliceFields
  refine wpAny_bind (wpAny_bind (wpAny_field hos hds (x := .none) rfl (wpAny_bind (wpAny_field hos hds (x := .none) rfl (wpAny_bind (wpAny_field hos hds (x := vs) rfl (wpAny_pure ?_)))))))
  refine wpAny_bind (HT.slicePart_ ps ?_)
  show wpAny _ _ (if ((-1 : Int) == 0) = true then _ else _) _ _ s
  rw [if_neg (by decide)]
  refine wpAny_bind (HT.slicePart_ .none (wpAny_bind (HT.slicePart_ .none (wpAny_bind (wpAny_pure ?_)))))
  show wpAny _ _ (match Builtin.Slice.sliceAdjust none none (-1) (n : Int) with | (lo, hi) => pure (lo, (-1 : Int), Builtin.Slice.slicePlaces lo hi (-1))) _ _ s
  rw [adjust_back n]
  show wpAny _ _ (pure (((n : Int) - 1), (-1 : Int), Builtin.Slice.slicePlaces ((n : Int) - 1) (-1) (-1))) _ _ s
  rw [places_back]
  exact wpAny_pure h
theorem fmap_congr {α β : Type} {f g : α → Option β} : ∀ {l : List α}, (∀ x ∈ l, f x = g x) → l.filterMap f = l.filterMap g
  | [], _ => rfl
  | a :: l, h => by
    rw [List.filterMap_cons, List.filterMap_cons, h a List.mem_cons_self, fmap_congr fun x hx => h x (List.mem_cons_of_mem _ hx)]
theorem pick_back (xs : Array Value) : ((List.range xs.size).filterMap fun (k : Nat) => xs[(((xs.size : Int) - 1) + (k : Int) * (-1)).toNat]?).toArray = xs.toList.reverse.toArray := by
  have e : ((List.range xs.size).filterMap fun (k : Nat) => xs[(((xs.size : Int) - 1) + (k : Int) * (-1)).toNat]?) = ((List.range xs.size).map fun k => xs.size - 1 - k).filterMap (xs[·]?) := by
    rw [List.filterMap_map]
    refine fmap_congr fun k hk => ?_
    have := List.mem_range.mp hk
    show _ = xs[xs.size - 1 - k]?
    congr 1
    omega
  rw [e, PySem.W.krv_range, List.filterMap_reverse, PySem.W.krv_all]
theorem getItem_tuple_back {t sl : Addr} {items : Array Value} {vs : Value} {Q : Value → Shared → Prop} (ht : IsTup s.heap t items) (hs : s.heap.IsSliceOf sl .none .none vs) (ps : IsPart vs (some (-1)))
    (h : Q (.ref s.heap.objs.size) { s with heap := s.heap.push { cls := .type "tuple", data := .seq items.toList.reverse.toArray } }) (hsz : items.size ≤ sizeLine) : wpAny (model prog w) A (getItem (.ref t) (.ref sl)) Q E s := by
  have htake : sizeOk (.seq items.toList.reverse.toArray) := by
    show items.toList.reverse.toArray.size ≤ sizeLine
    rw [List.size_toArray, List.length_reverse, Array.length_toList]
    exact hsz
  obtain ⟨os, hos, hcs, hds⟩ := id hs
  have hTs : s.TypeIs (.ref sl) "slice" := ⟨os, hos, hcs⟩
  unfold getItem
  try with_reducible refine wpAny_holding ?_
  first | refine wpAny_bind (wpAny_pure ?_) | skip
  refine wpAny_bind (wpAny_sequenceKey ht.typeIs (by decide) ?_)
  refine wpAny_bind (wpAny_callSpecial?_slot (name := Str.ofString "__getitem__") ht.typeIs PyProof.Rows.slot_tuple_getitem
    (wpAny_call_entry PyProof.Rows.slot_tuple_getitem ht.typeIs entry_tuple_getitem ?_ (args_tuple_getitem _ _)))
  show wpAny _ _ (Builtin.Tuple.tupleItemsOf (.ref t) >>= _) _ _ s
  refine wpAny_bind (tupleItemsOf_ ht ?_)
  refine wpAny_bind (wpAny_typeOf hTs ?_)
  rw [if_pos (by decide)]
  refine wpAny_bind (applied_back hs ps ?_)
  have hno : ¬ ((((items.size : Int) - 1) == 0 && (-1 : Int) == 1 && items.size == items.size) = true) := by
    intro q
    rw [Bool.and_eq_true, Bool.and_eq_true] at q
    exact absurd q.1.2 (by decide)
  show wpAny _ _ (if (((items.size : Int) - 1) == 0 && (-1 : Int) == 1 && items.size == items.size) = true then _ else _) _ _ s
  rw [if_neg hno, pick_back]
  first
    | exact wpAny_bind (m := Builtin.Tuple.tupleExact _) (wpAny_newObj_type (wpAny_pure ⟨_, rfl, wpAny_pure h⟩) htake)
    | exact wpAny_bind (m := Builtin.Tuple.tupleExact _) (wpAny_newObj_type (wpAny_bind (wpAny_pure (wpAny_pure ⟨_, rfl, wpAny_pure h⟩))) htake)
    | exact wpAny_bind (wpAny_bind (m := Builtin.Tuple.tupleExact _) (wpAny_newObj_type (wpAny_pure (wpAny_pure ⟨_, rfl, wpAny_pure h⟩)) htake))
    | exact wpAny_bind (wpAny_bind (m := Builtin.Tuple.tupleExact _) (wpAny_newObj_type (wpAny_pure ⟨_, rfl, wpAny_pure h⟩) htake))
end
def tBack (K : PySem.W.Frag) (te : TE) : TE := fun σ H Q => te σ H fun x H1 => (∃ a xs, x = .ref a ∧ SqL K H1 a xs ∧ ∀ p, H1 p = none → Q (.ref p) (upd H1 p (.lst xs.reverse))) ∨ (∃ a xs, x = .ref a ∧ SqT K H1 a xs ∧ ∀ p, H1 p = none → Q (.ref p) (upd H1 p (.tup xs.reverse)))
theorem pe_back {X : Cx} {e : Expr} {te : TE} {k : Nat} {p1 p2 p3 pos : Pos} (he : PE X e te) : PE X (.Subscript e (.Slice none none (some (.UnaryOp .USub (.Constant (.int 1) k p1) p2)) p3) pos) (tBack X.K te) := by
  refine ⟨fun pins s σ H Q I h => ?_⟩
  refine Subscript_ (thn (he.run pins s σ H _ I h) fun v s1 ⟨x, H1, I1, r1, q1⟩ => ?_)
  have hst : PO X (some (.UnaryOp .USub (.Constant (.int 1) k p1) p2)) (tPart (tUn (rU fun i => .int (-i)) (tC (.int 1)))) := po_some (pe_un un_neg pe_int)
  refine wpAny_Slice (thn (po_none.run pins s1 σ H1 (fun o H2 => o = none ∧ H2 = H1) I1 ⟨rfl, rfl⟩) fun vl s2 ⟨l, H2, I2, pl, el, e2⟩ => ?_)
  subst el e2
  refine thn (po_none.run pins s2 σ H2 (fun o H3 => o = none ∧ H3 = H2) I2 ⟨rfl, rfl⟩) fun vu s3 ⟨u, H3, I3, pu, eu, e3⟩ => ?_
  subst eu e3
  refine thn (hst.run pins s3 σ H3 (fun o H4 => o = some (-1) ∧ H4 = H3) I3 ⟨1, rfl, -1, rfl, rfl, rfl⟩) fun vs s4 ⟨o, H4, I4, ps, eo, e4⟩ => ?_
  subst eo e4
  cases pl
  cases pu
  have I5 : Inv X pins σ H4 { s4 with heap := s4.heap.push { cls := .type "slice", data := .fields #[.none, .none, vs] } } := I4.kept (t' := s4.toks) fun b ob q => Heap.get?_push_of_some _ q
  rcases q1 with ⟨a, xs, ex, hx, q⟩ | ⟨a, xs, ex, hx, q⟩
  · subst ex
    cases r1
    obtain ⟨its, r, ht, hz⟩ := I5.list hx
    have hlen := r.length
    show wpAny (model X.prog X.w) X.A (subscriptTail e (.Slice none none (some (.UnaryOp .USub (.Constant (.int 1) k p1) p2)) p3) (.ref a) (.ref s4.heap.objs.size)) (EP X pins σ Q) X.xe { s4 with heap := s4.heap.push { cls := .type "slice", data := .fields #[.none, .none, vs] } }
    refine tail_any (ops := [.ref a, .ref s4.heap.objs.size]) ht.isList.typeIs (PySem.slot_list_getitem.lookup) ?_ (by with_unfolding_all rfl)
    refine wpAny_getItem_list_slice ht.isList (Heap.IsSliceOf.new _ .none .none vs) .none .none ps (by decide) ?_ (by rw [List.size_toArray]; omega)
    rw [PySem.W.krv_pick]
    refine ⟨.ref _, _, I5.laid (t' := s4.toks) (o := .lst xs.reverse) (fun b ob q => Heap.get?_push_of_some _ q) (Nat.le_refl _) ?_, rfl, q _ (I5.hok.fresh (Nat.le_refl _))⟩
    exact ⟨by rw [List.length_reverse]; exact hz, _, 0, r.reverse, Heap.get?_push_size _ rfl⟩
  · subst ex
    cases r1
    obtain ⟨its, r, ht, hz⟩ := I5.tuple hx
    have hlen : its.toArray.size = xs.length := by rw [List.size_toArray]; exact r.length.symm
    show wpAny (model X.prog X.w) X.A (subscriptTail e (.Slice none none (some (.UnaryOp .USub (.Constant (.int 1) k p1) p2)) p3) (.ref a) (.ref s4.heap.objs.size)) (EP X pins σ Q) X.xe { s4 with heap := s4.heap.push { cls := .type "slice", data := .fields #[.none, .none, vs] } }
    refine tail_any (ops := [.ref a, .ref s4.heap.objs.size]) ht.typeIs PyProof.Rows.slot_tuple_getitem.lookup ?_ (by with_unfolding_all rfl)
    refine getItem_tuple_back ht (Heap.IsSliceOf.new _ .none .none vs) ps ?_ (by rw [hlen]; exact hz)
    refine ⟨.ref _, _, I5.laid (t' := s4.toks) (o := .tup xs.reverse) (fun b ob q => Heap.get?_push_of_some _ q) (Nat.le_refl _) ?_, rfl, q _ (I5.hok.fresh (Nat.le_refl _))⟩
    exact ⟨by rw [List.length_reverse]; exact hz, _, r.reverse, IsTup.new _ _⟩
end Ev

/-! displays, places, calls -/
namespace Ev
open PySem PySem.Spec PyProof.Rows L2 LamX
section
variable {X : Cx} {a b c : Expr} {pos : Pos} {w0 : Wd} {H0 : Hp} {ma mb mc : Lv → M Val}
theorem all2_refs {K : PySem.W.Frag} {w w1 : Wd} {H H1 : Hp} (l : Le w H w1 H1) {vs : List Val} {xs : List V} (r : All2 (Rv K w) vs xs) : All2 (Rv K w1) vs xs := Rvs.mono l r
theorem freshF_of {w w1 : Wd} {H H1 : Hp} {p : Addr} {o : HO} (l : Le w H w1 H1) (hF : w.F p = none) (hS : p ∉ w.mu ++ w.nu) (hp : H p = some o) : w1.F p = none := by
  cases q : w1.F p with
  | none => rfl
  | some u =>
    rcases l.fn p u q with z | z | z
    · rw [hF] at z; cases z
    · rw [hp] at z; cases z
    · exact absurd (List.mem_append_right _ z) hS
theorem freshS_of {w w1 : Wd} {H H1 : Hp} {p : Addr} {o : HO} (l : Le w H w1 H1) (hS : p ∉ w.mu ++ w.nu) (hp : H p = some o) : p ∉ w1.mu ++ w1.nu := by
  obtain ⟨r, e1, e2⟩ := l.mu
  obtain ⟨q, f1, f2⟩ := l.nu
  intro z
  rw [e1, f1] at z
  rcases List.mem_append.mp z with z | z
  · rcases List.mem_append.mp z with z | z
    · exact hS (List.mem_append_left _ z)
    · rw [e2 p z] at hp; cases hp
  · rcases List.mem_append.mp z with z | z
    · exact hS (List.mem_append_right _ z)
    · rw [f2 p z] at hp; cases hp
theorem Rv.congr {K : PySem.W.Frag} {w w' : Wd} (eF : Sub w.F w'.F) (mu : ∃ r, w'.mu = w.mu ++ r) (nu : ∃ r, w'.nu = w.nu ++ r) {v : Val} {x : V} (h : Rv K w v x) : Rv K w' v x := by
  cases v with
  | d d => exact Rp.mono eF d h
  | g n =>
    obtain ⟨a, h1, h2⟩ := h
    obtain ⟨r, e⟩ := mu
    refine ⟨a, ?_, h2⟩
    rw [e, List.getElem?_append_left (List.getElem?_eq_some_iff.mp h1).1]; exact h1
  | l n =>
    obtain ⟨a, h1, h2⟩ := h
    obtain ⟨r, e⟩ := nu
    refine ⟨a, ?_, h2⟩
    rw [e, List.getElem?_append_left (List.getElem?_eq_some_iff.mp h1).1]; exact h1
  | s ns =>
    obtain ⟨a, h1, h2⟩ := h
    exact ⟨a, h1, sqL_mono eF h2⟩
  | e a => exact h
/-- a list that stands, unknown to the world, gets its place -/
theorem lay_ok {K : PySem.W.Frag} {ws w : Wd} {Hs H : Hp} {e : Lv} {s s' : Sto} {σ : L2.St} {p : Addr} {xs : List V} {vs : List Val} {wh : Wh} {v : Val} (hw : w0.nu = []) (R : Rl K w0 H0 w e s σ H) (l : Le ws Hs w H) (hs : Hs p = none) (h0 : H0 p = none)
    (hF : w.F p = none) (hS : p ∉ w.mu ++ w.nu) (hp : H p = some (.lst xs)) (r : All2 (Rv K w) vs xs) (h : place wh vs s = some (v, s')) : ∃ w', Rl K w0 H0 w' e s' σ H ∧ Le ws Hs w' H ∧ Rv K w' v (.ref p) := by
  cases wh with
  | pure =>
    obtain ⟨ds, s1, h1, h2⟩ := bd_inv (show bd (keeps vs) (fun xs => rt (Val.d (.list xs))) s = some (v, s') from h)
    obtain ⟨e1, e2⟩ := rt_inv h2
    subst e1 e2
    obtain ⟨w1, R1, l1, r1⟩ := keeps_ok hw R r h1
    have hF1 := freshF_of l1 hF hS hp
    have R2 := R1.freeze h0 hF1 (freshS_of l1 hS hp) hp
    refine ⟨_, R2, (l.trans l1).freeze (.inl hs) hF1, ?_⟩
    show Rp K (upd w1.F p (.lst xs)) (.list ds) (.ref p)
    unfold Rp
    exact ⟨p, xs, rfl, upd_same, RpA.mono (sub_upd (Sub.refl _) hF1) ds r1⟩
  | loc =>
    have h : some (Val.l s.L.length, ({ s with L := s.L ++ [.lst vs] } : Sto)) = some (v, s') := h
    cases h
    have hR : Ro K { w with nu := w.nu ++ [p] } H p (.lst vs) := ⟨hF, xs, hp, r.imp fun _ _ q => Rv.congr (w := w) (w' := { w with nu := w.nu ++ [p] }) (Sub.refl _) ⟨[], by simp⟩ ⟨[p], rfl⟩ q⟩
    refine ⟨_, R.adoptL h0 hS (by rw [hp]; simp) hR, l.adoptL hs, p, ?_, rfl⟩
    show (w.nu ++ [p])[s.L.length]? = some p
    rw [R.L.len]
    simp
  | glob =>
    obtain ⟨us, s1, h1, h2⟩ := bd_inv (show bd (keepVs vs) (fun us => fun s => some (Val.g s.G.length, ({ s with G := s.G ++ [.lst us] } : Sto))) s = some (v, s') from h)
    cases (show some (Val.g s1.G.length, ({ s1 with G := s1.G ++ [.lst us] } : Sto)) = some (v, s') from h2)
    obtain ⟨w1, R1, l1, r1, _⟩ := keepVs_ok hw R r h1
    have hF1 := freshF_of l1 hF hS hp
    have hR : Ro K { w1 with mu := w1.mu ++ [p] } H p (.lst us) := ⟨hF1, xs, hp, r1.imp fun _ _ q => Rv.congr (w := w1) (w' := { w1 with mu := w1.mu ++ [p] }) (Sub.refl _) ⟨[p], rfl⟩ ⟨[], by simp⟩ q⟩
    refine ⟨_, R1.adoptG h0 (freshS_of l1 hS hp) (by rw [hp]; simp) hR, (l.trans l1).adoptG hs, p, ?_, rfl⟩
    show (w1.mu ++ [p])[s1.G.length]? = some p
    rw [R1.G.len]
    simp
/-- a new list -/
theorem place_ok {K : PySem.W.Frag} {w : Wd} {H : Hp} {e : Lv} {s s' : Sto} {σ : L2.St} {p : Addr} {xs : List V} {vs : List Val} {wh : Wh} {v : Val} (hw : w0.nu = []) (R : Rl K w0 H0 w e s σ H) (r : All2 (Rv K w) vs xs) (h : place wh vs s = some (v, s')) (hp : H p = none) :
    ∃ w', Rl K w0 H0 w' e s' σ (upd H p (.lst xs)) ∧ Le w H w' (upd H p (.lst xs)) ∧ Rv K w' v (.ref p) :=
  lay_ok hw (R.scratch (R.le.back hp) (R.freshF hp) (R.freshS hp) (.none hp)) (Le.scratch .refl hp (.none hp)) hp (R.le.back hp) (R.freshF hp) (R.freshS hp) upd_same r h
/-! ### displays -/
theorem a_nil : PA X [] (tA X.K w0 H0 fun _ => rt []) := pa_imp pa_nil fun σ H Q h => by
  obtain ⟨w, e, s, vs, s', R, ev, k⟩ := h
  obtain ⟨e1, e2⟩ := rt_inv ev
  subst e1 e2
  exact k w [] H R .refl .nil
theorem a_cons {es : List Expr} {mr : Lv → M (List Val)} (ha : PE X a (tE X.K w0 H0 ma)) (hr : PA X es (tA X.K w0 H0 mr)) (hs : starEach (a :: es) X.env = (false, eval a X.env) :: starEach es X.env) :
    PA X (a :: es) (tA X.K w0 H0 fun e => bd (ma e) fun v => bd (mr e) fun vs => rt (v :: vs)) := pa_imp (pa_cons ha hr hs) fun σ H Q h => by
  obtain ⟨w, e, s, vs, s', R, ev, k⟩ := h
  obtain ⟨v1, s1, e1, ev⟩ := bd_inv ev
  obtain ⟨v2, s2, e2, ev⟩ := bd_inv ev
  obtain ⟨e3, e4⟩ := rt_inv ev
  subst e3 e4
  exact ⟨w, e, s, v1, s1, R, e1, fun w1 x H1 R1 l1 r1 => ⟨w1, e, s1, v2, _, R1, e2, fun w2 xs H2 R2 l2 r2 => k w2 _ H2 R2 (l1.trans l2) (.cons (r1.mono l2) r2)⟩⟩
theorem e_tup {es : List Expr} {x1 : Nat} {mr : Lv → M (List Val)} (hw : w0.nu = []) (h : PA X es (tA X.K w0 H0 mr)) :
    PE X (.Tuple es x1 pos) (tE X.K w0 H0 fun e => bd (mr e) fun vs => bd (keeps vs) fun xs => if xs.length ≤ 16777216 then rt (.d (.tuple xs)) else no) := pe_imp (pe_tup h) fun σ H Q h => by
  obtain ⟨w, e, s, v, s', R, ev, k⟩ := h
  obtain ⟨v1, s1, e1, ev⟩ := bd_inv ev
  obtain ⟨ds, s2, e2, ev⟩ := bd_inv ev
  refine ⟨w, e, s, v1, s1, R, e1, fun w1 xs H1 R1 l1 r1 => ?_⟩
  obtain ⟨w2, R2, l2, r2⟩ := keeps_ok hw R1 r1 e2
  split at ev
  · rename_i hz
    obtain ⟨e3, e4⟩ := rt_inv ev
    subst e3 e4
    refine ⟨by rw [size_line, ← rpA_len r2]; exact hz, fun p hp => ?_⟩
    obtain ⟨R3, l3⟩ := R2.new (o := .tup xs) hp
    refine k _ _ _ R3 ((l1.trans l2).trans l3) ?_
    show Rp _ _ _ _
    unfold Rp
    exact ⟨p, xs, rfl, SqT.of upd_same, RpA.mono l3.f ds r2⟩
  · cases ev
theorem e_lst {es : List Expr} {wh : Wh} {mr : Lv → M (List Val)} (hw : w0.nu = []) (h : PA X es (tA X.K w0 H0 mr)) :
    PE X (.List es pos) (tE X.K w0 H0 fun e => bd (mr e) fun vs => if vs.length ≤ 16777216 then place wh vs else no) := pe_imp (pe_lst h) fun σ H Q h => by
  obtain ⟨w, e, s, v, s', R, ev, k⟩ := h
  obtain ⟨v1, s1, e1, ev⟩ := bd_inv ev
  refine ⟨w, e, s, v1, s1, R, e1, fun w1 xs H1 R1 l1 r1 => ?_⟩
  split at ev
  · rename_i hz
    refine ⟨by rw [size_line, ← r1.len]; exact hz, fun p hp => ?_⟩
    obtain ⟨w2, R2, l2, r2⟩ := place_ok hw R1 r1 ev hp
    exact k _ _ _ R2 (l1.trans l2) r2
  · cases ev
theorem e_dct0 : PE X (.Dict [] [] pos) (tE X.K w0 H0 fun _ => fun s => some (.l s.L.length, { s with L := s.L ++ [.dct []] })) := pe_imp pe_dnewK fun σ H Q h => by
  obtain ⟨w, e, s, v, s', R, ev, k⟩ := h
  cases (show some (Val.l s.L.length, ({ s with L := s.L ++ [.dct []] } : Sto)) = some (v, s') from ev)
  intro p hp
  have R1 : Rl X.K w0 H0 w e s σ (upd H p (.dK [])) := R.scratch (R.le.back hp) (R.freshF hp) (R.freshS hp) (.none hp)
  have hR : Ro X.K { w with nu := w.nu ++ [p] } (upd H p (.dK [])) p (.dct []) := ⟨R.freshF hp, [], upd_same, by unfold RpK; rfl⟩
  refine k _ _ _ (R1.adoptL (R.le.back hp) (R.freshS hp) (by rw [upd_same]; simp) hR) ((Le.scratch .refl hp (.none hp)).adoptL hp) ⟨p, ?_, rfl⟩
  show (w.nu ++ [p])[s.L.length]? = some p
  rw [R.L.len]
  simp
/-! ### places, slices -/
def semIx (X : Cx) : R2 := fun x y H Q => ∀ (value slice : Expr) (pins : List (Addr × Obj)) (sh : Shared) (si : L2.St) (v u : Value), Inv X pins si H sh → RelV x v → RelV y u →
  subscripted slice false v u = operate [v, u] (getItem v u) → wpAny (model X.prog X.w) X.A (subscriptTail value slice v u) (EP X pins si Q) X.xe sh
theorem ix_sem : IxR X (semIx X) := fun value slice pins s σ H x y v u Q I rx ry h hs => h value slice pins s σ v u I rx ry hs
theorem e_idx (C : Cn0 X) (ha : PE X a (tE X.K w0 H0 ma)) (hb : PE X b (tE X.K w0 H0 mb)) (hs : PlainIx b) :
    PE X (.Subscript a b pos) (tE X.K w0 H0 fun e => bd (ma e) fun v => bd (mb e) fun u => idxV v u) := pe_imp (pe_ix ix_sem ha hb hs) fun σ H Q h => by
  obtain ⟨w, e, s, v, s', R, ev, k⟩ := h
  obtain ⟨v1, s1, e1, ev⟩ := bd_inv ev
  obtain ⟨v2, s2, e2, ev⟩ := bd_inv ev
  refine ⟨w, e, s, v1, s1, R, e1, fun w1 x H1 R1 l1 r1 => ⟨w1, e, s1, v2, s2, R1, e2, fun w2 y H2 R2 l2 r2 => ?_⟩⟩
  exact fun value slice pins sh si v u I rx ry hs => (idx_ok C I rx ry R2 (r1.mono l2) r2 ev (fun w' z H' R' l' r' => k w' z H' R' ((l1.trans l2).trans l') r') hs).2
def semSl (X : Cx) : V → Option Int → Option Int → Hp → VK → Prop := fun x lo hi H Q => rSlL X.K x lo hi H Q ∨ rSlA X.K x lo hi H Q
theorem o_none : PO X none (tO X.K w0 H0 fun _ => rt none) := ⟨fun pins sh σ H Q I h => by
  obtain ⟨w, e, s, i, s', R, ev, k⟩ := h
  obtain ⟨e1, e2⟩ := rt_inv ev
  subst e1 e2
  exact po_none.run pins sh σ H Q I (k w H R .refl)⟩
theorem o_some (ha : PE X a (tE X.K w0 H0 ma)) : PO X (some a) (tO X.K w0 H0 fun e => bd (ma e) fun v => bd (peek v) fun x => match x with | .int i => rt (some i) | _ => no) := ⟨fun pins sh σ H Q I h => by
  obtain ⟨w, e, s, i, s', R, ev, k⟩ := h
  obtain ⟨v1, s1, e1, ev⟩ := bd_inv ev
  refine (po_some ha).run pins sh σ H Q I ⟨w, e, s, v1, s1, R, e1, fun w1 x H1 R1 l1 r1 => ?_⟩
  obtain ⟨x1, t1, ev⟩ := pk R1 r1 ev
  cases x1 with
  | int j =>
    obtain ⟨e3, e4⟩ := rt_inv ev
    subst e3 e4
    exact ⟨j, t1, k w1 H1 R1 l1⟩
  | _ => cases ev⟩
theorem all2_cut {K : PySem.W.Frag} {F : Hp} {ds : List PyData} {xs : List V} (r : RpA K F ds xs) (lo hi : Option Int) : RpA K F (cutP ds lo hi) (cutV xs lo hi) := by
  unfold cutP cutV
  rw [rpA_len r]
  exact rpA_iff.mpr (((rpA_iff.mp r).drop _).take _)
theorem cut_all {ds : List PyData} {lo hi : Option Int} (h : HT.sIx ds.length 0 lo = 0 ∧ HT.sIx ds.length ds.length hi = ds.length) : cutP ds lo hi = ds := by
  unfold cutP
  rw [h.1, h.2]
  simp
theorem e_slc {lo hi : Option Expr} {p2 : Pos} {ml mh : Lv → M (Option Int)} (ha : PE X a (tE X.K w0 H0 ma)) (hl : PO X lo (tO X.K w0 H0 ml)) (hu : PO X hi (tO X.K w0 H0 mh)) :
    PE X (.Subscript a (.Slice lo hi none p2) pos) (tE X.K w0 H0 fun e => bd (ma e) fun v => bd (ml e) fun i => bd (mh e) fun j => bd (peek v) fun x => ofO ((sliceD i j x).map .d)) :=
  pe_imp (pe_slice (sl_list.or sl_tupA) ha hl hu) fun σ H Q h => by
  obtain ⟨w, e, s, v, s', R, ev, k⟩ := h
  obtain ⟨v1, s1, e1, ev⟩ := bd_inv ev
  obtain ⟨v2, s2, e2, ev⟩ := bd_inv ev
  obtain ⟨v3, s3, e3, ev⟩ := bd_inv ev
  refine ⟨w, e, s, v1, s1, R, e1, fun w1 x H1 R1 l1 r1 => ⟨w1, e, s1, v2, s2, R1, e2, fun w2 H2 R2 l2 => ⟨w2, e, s2, v3, s3, R2, e3, fun w3 H3 R3 l3 => ?_⟩⟩⟩
  obtain ⟨x1, t1, ev⟩ := pk R3 ((r1.mono l2).mono l3) ev
  obtain ⟨d, e5, e6, e7⟩ := of_map ev
  subst e6 e7
  have L := (l1.trans l2).trans l3
  cases x1 with
  | list ds =>
    obtain ⟨p, xs, e8, h1, h2⟩ := t1
    subst e8
    cases (show some (PyData.list (cutP ds v2 v3)) = some d from e5)
    refine .inl ⟨p, xs, rfl, SqL.of h1, fun q hq => ?_⟩
    obtain ⟨R4, l4⟩ := R3.new (o := .lst (cutV xs v2 v3)) hq
    refine k _ _ _ R4 (L.trans l4) ?_
    show Rp _ _ _ _
    unfold Rp
    exact ⟨q, _, rfl, upd_same, RpA.mono l4.f _ (all2_cut h2 _ _)⟩
  | tuple ds =>
    obtain ⟨p, xs, e8, h1, h2⟩ := t1
    subst e8
    cases (show some (PyData.tuple (cutP ds v2 v3)) = some d from e5)
    refine .inr ⟨p, xs, rfl, sqT_mono R3.fh h1, fun z => ?_, fun _ q hq => ?_⟩
    · refine k _ _ _ R3 L ?_
      rw [← rpA_len h2] at z
      show Rp _ _ (PyData.tuple (cutP ds v2 v3)) _
      rw [cut_all z]
      unfold Rp
      exact ⟨p, xs, rfl, h1, h2⟩
    · obtain ⟨R4, l4⟩ := R3.new (o := .tup (cutV xs v2 v3)) hq
      refine k _ _ _ R4 (L.trans l4) ?_
      show Rp _ _ _ _
      unfold Rp
      exact ⟨q, _, rfl, SqT.of upd_same, RpA.mono l4.f _ (all2_cut h2 _ _)⟩
  | _ => cases e5
theorem e_rev {k0 : Nat} {p1 p2 p3 : Pos} (ha : PE X a (tE X.K w0 H0 ma)) : PE X (.Subscript a (.Slice none none (some (.UnaryOp .USub (.Constant (.int 1) k0 p1) p2)) p3) pos) (tE X.K w0 H0 fun e => bd (ma e) fun v => bd (peek v) fun x => ofO ((revD x).map .d)) :=
  pe_imp (pe_back ha) fun σ H Q h => by
  obtain ⟨w, e, s, v, s', R, ev, k⟩ := h
  obtain ⟨v1, s1, e1, ev⟩ := bd_inv ev
  refine ⟨w, e, s, v1, s1, R, e1, fun w1 x H1 R1 l1 r1 => ?_⟩
  obtain ⟨x1, t1, ev⟩ := pk R1 r1 ev
  obtain ⟨d, e5, e6, e7⟩ := of_map ev
  subst e6 e7
  cases x1 with
  | list ds =>
    obtain ⟨p, xs, e8, h1, h2⟩ := t1
    subst e8
    cases (show some (PyData.list ds.reverse) = some d from e5)
    refine .inl ⟨p, xs, rfl, SqL.of h1, fun q hq => ?_⟩
    obtain ⟨R4, l4⟩ := R1.new (o := .lst xs.reverse) hq
    refine k _ _ _ R4 (l1.trans l4) ?_
    show Rp _ _ _ _
    unfold Rp
    exact ⟨q, _, rfl, upd_same, RpA.mono l4.f _ (rpA_iff.mpr (rpA_iff.mp h2).rev)⟩
  | tuple ds =>
    obtain ⟨p, xs, e8, h1, h2⟩ := t1
    subst e8
    cases (show some (PyData.tuple ds.reverse) = some d from e5)
    refine .inr ⟨p, xs, rfl, sqT_mono R1.fh h1, fun q hq => ?_⟩
    obtain ⟨R4, l4⟩ := R1.new (o := .tup xs.reverse) hq
    refine k _ _ _ R4 (l1.trans l4) ?_
    show Rp _ _ _ _
    unfold Rp
    exact ⟨q, _, rfl, SqT.of upd_same, RpA.mono l4.f _ (rpA_iff.mpr (rpA_iff.mp h2).rev)⟩
  | _ => cases e5
/-! ### built-in calls -/
theorem e_b1 {f : B1} {e : Expr} (C : Cn X)
    (ha : PE X e (tCB (semC X (b1F f)) (tCons (tE X.K w0 H0 ma) tNil))) : PE X e (tE X.K w0 H0 fun e => bd (ma e) fun v => b1V f v) := pe_imp ha fun σ H Q h => by
  obtain ⟨w, e, s, v, s', R, ev, k⟩ := h
  obtain ⟨v1, s1, e1, ev⟩ := bd_inv ev
  refine ⟨w, e, s, v1, s1, R, e1, fun w1 x H1 R1 l1 r1 => fun pins sh si us I rv => ?_⟩
  obtain ⟨u, eu, rx⟩ := vals1 rv
  subst eu
  have dat : ∀ {x1 : PyData} {s' : Sto}, Rt X.K H1 w1.F x1 x → ofO ((b1D f x1).map Val.d) s1 = some (v, s') → (∀ w' z H', Rl X.K w0 H0 w' e s' σ H' → Le w H w' H' → Rv X.K w' v z → Q z H') → wpAny (model X.prog X.w) X.A (call (b1F f) [u]) (EP X pins si Q) X.xe sh := fun t1 ev k => by
    obtain ⟨d, e5, e6, e7⟩ := of_map ev
    subst e6 e7
    exact b1_ok C I rx R1 t1 e5 fun w' z H' R' l' r' => k w' z H' R' (l1.trans l') r'
  cases v1 with
  | e a => cases (show (none : Option (Val × Sto)) = some (v, s') from ev)
  | s ns =>
    cases f with
    | len =>
      obtain ⟨e5, e6⟩ := rt_inv (show rt (Val.d (.int ns.length)) s1 = some (v, s') from ev)
      subst e5 e6
      obtain ⟨p, e7, hq⟩ := r1
      subst e7
      exact call_len_seq pins sh si H1 _ _ Q I (.cons rx .nil) ⟨p, _, rfl, .inl (sqL_mono R1.fh hq), by rw [List.length_map]; exact k w1 _ H1 R1 l1 (show Rp _ _ _ _ from rp_int)⟩
    | _ => cases ev
  | d y =>
    obtain ⟨x1, t1, ev⟩ := pk R1 r1 (show bd (peek (.d y)) (fun x => ofO ((b1D f x).map Val.d)) s1 = some (v, s') from ev)
    exact dat t1 ev k
  | g n =>
    obtain ⟨x1, t1, ev⟩ := pk R1 r1 (show bd (peek (.g n)) (fun x => ofO ((b1D f x).map Val.d)) s1 = some (v, s') from ev)
    exact dat t1 ev k
  | l n =>
    obtain ⟨x1, t1, ev⟩ := pk R1 r1 (show bd (peek (.l n)) (fun x => ofO ((b1D f x).map Val.d)) s1 = some (v, s') from ev)
    exact dat t1 ev k
def b2F : B2 → Value
  | .max => .builtin "max"
  | .min => .builtin "min"
theorem e_b2 {f : B2} {e : Expr} (C : Cn X)
    (ha : PE X e (tCB (semC X (b2F f)) (tCons (tE X.K w0 H0 ma) (tCons (tE X.K w0 H0 mb) tNil)))) : PE X e (tE X.K w0 H0 fun e => bd (ma e) fun v => bd (mb e) fun u => bd (peek v) fun x => bd (peek u) fun y => ofO ((b2D f x y).map .d)) := pe_imp ha fun σ H Q h => by
  obtain ⟨w, e, s, v, s', R, ev, k⟩ := h
  obtain ⟨v1, s1, e1, ev⟩ := bd_inv ev
  obtain ⟨v2, s2, e2, ev⟩ := bd_inv ev
  refine ⟨w, e, s, v1, s1, R, e1, fun w1 x H1 R1 l1 r1 => ⟨w1, e, s1, v2, s2, R1, e2, fun w2 y H2 R2 l2 r2 => fun pins sh si us I rv => ?_⟩⟩
  obtain ⟨x1, t1, ev⟩ := pk R2 (r1.mono l2) ev
  obtain ⟨y1, t2, ev⟩ := pk R2 r2 ev
  obtain ⟨d, e5, e6, e7⟩ := of_map ev
  subst e6 e7
  unfold b2D at e5
  split at e5
  · cases (show x = .int _ from t1)
    cases (show y = .int _ from t2)
    cases e5
    exact call_max2 C.calm pins sh si H2 _ us Q I rv ⟨_, _, rfl, k w2 _ H2 R2 (l1.trans l2) (show Rp _ _ _ _ from rp_int)⟩
  · cases (show x = .int _ from t1)
    cases (show y = .int _ from t2)
    cases e5
    exact call_min2 C.calm pins sh si H2 _ us Q I rv ⟨_, _, rfl, k w2 _ H2 R2 (l1.trans l2) (show Rp _ _ _ _ from rp_int)⟩
  · cases e5
def tyN : Ty → String
  | .int => "int"
  | .bool => "bool"
  | .str => "str"
  | .tuple => "tuple"
  | .list => "list"
  | .dict => "dict"
theorem isi_ok {t : Ty} {pins : List (Addr × Obj)} {si : L2.St} {H : Hp} {sh : Shared} {Q : VK} {x : V} {v : Value} {w : Wd} {e : Lv} {s : Sto} {σ : L2.St} {d : PyData} (I : Inv X pins si H sh) (R : Rl X.K w0 H0 w e s σ H) (rx : RelV x v) (hx : Rt X.K H w.F d x) (k : Q (.bl (isiD t d)) H) :
    wpAny (model X.prog X.w) X.A (call (.builtin "isinstance") [v, .type (tyN t)]) (EP X pins si Q) X.xe sh := by
  obtain ⟨as, ra⟩ := hx.rd I R rx
  have fin : ∀ tk, sh.toks ≤ tk → EP X pins si Q (.bool (isiD t d)) { sh with toks := tk } := fun tk _ => ⟨.bl (isiD t d), H, I.tok _, rfl, k⟩
  cases t with
  | int => exact PySem.W.isinstance_int_data ra fin
  | bool => exact PySem.W.isinstance_bool_data ra fin
  | str => exact PySem.W.isinstance_str_data ra fin
  | tuple => exact PySem.W.isinstance_tuple_data ra fin
  | list => exact PySem.W.isinstance_list_data ra fin
  | dict => exact PySem.W.isinstance_dict_data ra fin
theorem e_isi {t : Ty} {e : Expr} (ha : PE X e (tCB (semC X (.builtin "isinstance")) (tCons (tE X.K w0 H0 ma) (tCons (tC (.ty (tyN t))) tNil)))) :
    PE X e (tE X.K w0 H0 fun e => bd (ma e) fun v => bd (peek v) fun x => rt (.d (.bool (isiD t x)))) := pe_imp ha fun σ H Q h => by
  obtain ⟨w, e, s, v, s', R, ev, k⟩ := h
  obtain ⟨v1, s1, e1, ev⟩ := bd_inv ev
  refine ⟨w, e, s, v1, s1, R, e1, fun w1 x H1 R1 l1 r1 => fun pins sh si us I rv => ?_⟩
  obtain ⟨u1, u2, eu, rx, r2⟩ := vals2 rv
  subst eu
  cases (show u2 = Value.type (tyN t) from r2)
  obtain ⟨x1, t1, ev⟩ := pk R1 r1 ev
  obtain ⟨e6, e7⟩ := rt_inv ev
  subst e6 e7
  exact isi_ok I R1 rx t1 (k w1 _ H1 R1 l1 (show Rp _ _ _ _ from rp_bool))
/-! ### calls of defs -/
/-- what is known of a row: the classes that may be raised, the tables of code objects -/
structure Gx where
  cl : Nat → Value
  T : List (Addr × Str)
structure W0 (g : Gx) (w0 : Wd) (H0 : Hp) : Prop where
  T : w0.T = g.T
  tb : Tabs g.T H0
theorem W0.teq {g : Gx} {K : PySem.W.Frag} {w : Wd} {H : Hp} {e : Lv} {s : Sto} {σ : L2.St} (h : W0 g w0 H0) (R : Rl K w0 H0 w e s σ H) : w.T = g.T := R.le.teq.trans h.T
theorem W0.tabs {g : Gx} {K : PySem.W.Frag} {w : Wd} {H : Hp} {e : Lv} {s : Sto} {σ : L2.St} (h : W0 g w0 H0) (R : Rl K w0 H0 w e s σ H) : Tabs g.T H := h.T ▸ R.le.tb (h.T.symm ▸ h.tb)
def spE (K : PySem.W.Frag) (g : Gx) (x : List Val → List SO → Option ((Val ⊕ Nat) × List SO)) (n : Nat) : Sp := fun xs H Q E => xs.length = n ∧ ∃ w vs G r G', w.nu = [] ∧ w.T = g.T ∧ Tabs g.T H ∧ Rl K w H w [] ⟨[], G⟩ [] H ∧ All2 (Rv K w) vs xs ∧ x vs G = some (r, G') ∧
  ∀ w' H', w'.nu = [] → Rl K w H w' [] ⟨[], G'⟩ [] H' → Le w H w' H' → (match r with
    | .inl v => ∀ z, Rv K w' v z → Q z H'
    | .inr c => E (g.cl c) none H')
theorem noV_ok {K : PySem.W.Frag} {w : Wd} : ∀ {vs : List Val} {xs : List V}, noV vs = true → All2 (Rv K w) vs xs → All2 (Rv K { w with nu := [] }) vs xs
  | [], _, _, .nil => .nil
  | v :: vs, _, h, .cons r rs => by
    cases v with
    | l n => cases h
    | d d => exact .cons r (noV_ok (show noV vs = true from h) rs)
    | g n => exact .cons r (noV_ok (show noV vs = true from h) rs)
    | s n => exact .cons r (noV_ok (show noV vs = true from h) rs)
    | e n => exact .cons r (noV_ok (show noV vs = true from h) rs)
theorem noG_ok {K : PySem.W.Frag} {w : Wd} {H : Hp} : ∀ {G : List SO} {as : List Addr}, noG G = true → Rs K w H G as → Rs K { w with nu := [] } H G as
  | [], _, _, .nil => .nil
  | o :: os, _, h, .cons r rs => by
    cases o with
    | lst vs =>
      have h : noV vs = true ∧ noG os = true := by simpa [noG] using h
      obtain ⟨h1, xs, h2, h3⟩ := r
      exact .cons ⟨h1, xs, h2, noV_ok h.1 h3⟩ (noG_ok h.2 rs)
    | dct kvs => exact .cons r (noG_ok (show noG os = true from h) rs)
    | frz x => exact .cons r (noG_ok (show noG os = true from h) rs)
    | ins c fs => exact r.elim
/-- the callee's start: the caller's own objects are nobody's -/
theorem Rl.enter {K : PySem.W.Frag} {w : Wd} {H : Hp} {e : Lv} {s : Sto} {σ : L2.St} (R : Rl K w0 H0 w e s σ H) (g : noG s.G = true) : Rl K { w with nu := [] } H { w with nu := [] } [] ⟨[], s.G⟩ [] H :=
  ⟨.refl, R.fh, R.ft, by
    show (w.mu ++ []).Nodup
    rw [List.append_nil]
    exact (List.nodup_append.mp R.nd).1, fun a ha => R.tr a (List.mem_append_left _ (by simpa using ha)), noG_ok g R.G, .nil, .nil⟩
/-- .. and the way back -/
theorem Rl.leave {K : PySem.W.Frag} {w w' : Wd} {H H' : Hp} {e : Lv} {s : Sto} {G' : List SO} {σ : L2.St} (R : Rl K w0 H0 w e s σ H) (hn : w'.nu = []) (R' : Rl K { w with nu := [] } H w' [] ⟨[], G'⟩ [] H') (l : Le { w with nu := [] } H w' H') :
    Rl K w0 H0 { w' with nu := w.nu } e { s with G := G' } σ H' ∧ Le w H { w' with nu := w.nu } H' := by
  have fn : ∀ a o, w'.F a = some o → w.F a = some o ∨ H a = none ∨ a ∈ w.nu := fun a o q => by
    rcases l.fn a o q with z | z | z
    · exact .inl z
    · exact .inr (.inl z)
    · cases z
  have L : Le w H { w' with nu := w.nu } H' := ⟨l.f, fn, l.mu, ⟨[], by simp, by simp⟩, fun a o q ht h1 _ => l.same0 a o q ht h1 (by simp), l.trk, l.teq, l.tb⟩
  obtain ⟨r, e1, e2⟩ := l.mu
  have nd := List.nodup_append.mp R.nd
  have nd' := List.nodup_append.mp R'.nd
  refine ⟨⟨R.le.trans L, R'.fh, R'.ft, ?_, fun a ha => ?_, ?_, ?_, R.mono_env L⟩, L⟩
  · show (w'.mu ++ w.nu).Nodup
    refine List.nodup_append.mpr ⟨nd'.1, nd.2.1, fun a ha b hb => ?_⟩
    rintro rfl
    rw [e1] at ha
    rcases List.mem_append.mp ha with z | z
    · exact nd.2.2 a z a hb rfl
    · exact R.tr a (List.mem_append_right _ hb) (e2 a z)
  · rcases List.mem_append.mp ha with z | z
    · exact R'.tr a (List.mem_append_left _ z)
    · exact l.trk a (R.tr a (List.mem_append_right _ z))
  · exact R'.G.imp fun o a h => Ro.congr (w := w') (w' := { w' with nu := w.nu }) (Sub.refl _) ⟨[], by simp⟩ ⟨w.nu, by simp [hn]⟩ (fun _ q => q) (fun q => q) h
  · refine R.L.impM fun o a ha h => h.keep L (fun u q ht => l.same0 a u q ht (fun z => nd.2.2 a z a ha rfl) (by simp)) fun q => ?_
    show w'.F a = none
    cases z : w'.F a with
    | none => rfl
    | some u =>
      rcases l.fn a u z with y | y | y
      · rw [show w.F a = _ from y] at q; cases q
      · exact absurd y (R.tr a (List.mem_append_right _ ha))
      · cases y
theorem noV_by : ∀ {us : List Val}, (∀ v ∈ us, ∀ n, v ≠ .l n) → noV us = true
  | [], _ => rfl
  | u :: us, h => by
    have ih := noV_by (us := us) fun v hv => h v (List.mem_cons_of_mem _ hv)
    cases u with
    | l n => exact absurd rfl (h (.l n) List.mem_cons_self n)
    | d _ => exact ih
    | g _ => exact ih
    | s _ => exact ih
    | e _ => exact ih
theorem e_call {n f : Nat} {T : Tx} {g : Gx} {e : Expr} {mr : Lv → M (List Val)} (hw : w0.nu = []) (hT : W0 g w0 H0) (hl : ∀ (lv : Lv) (s : Sto) vs s', mr lv s = some (vs, s') → vs.length = n)
    (h : PE X e (tCall (spE X.K g (T.xr f) n) [] C8.E0 (tA X.K w0 H0 mr))) :
    PE X e (tE X.K w0 H0 fun e => bd (mr e) fun vs => bd (keepVs vs) fun vs => callV T f vs) := pe_imp h fun σ H Q h => by
  obtain ⟨w, e, s, v, s', R, ev, k⟩ := h
  obtain ⟨v1, s1, e1, ev⟩ := bd_inv ev
  obtain ⟨us, s2, e2, ev⟩ := bd_inv ev
  refine ⟨w, e, s, v1, s1, R, e1, fun w1 xs H1 R1 l1 r1 => ?_⟩
  obtain ⟨w2, R2, l2, r2, hn2⟩ := keepVs_ok hw R1 r1 e2
  have ev : (if noG s2.G then (T.fn f us s2.G).map fun p => (p.1, ({ s2 with G := p.2 } : Sto)) else none) = some (v, s') := ev
  split at ev
  · rename_i hg
    obtain ⟨⟨r, G'⟩, h3, h4⟩ := Option.map_eq_some_iff.mp ev
    cases h4
    have nv : noV us = true := noV_by hn2
    rw [List.append_nil]
    have h3 : valO (T.xr f us s2.G) = some (r, G') := h3
    have h4 : T.xr f us s2.G = some (.inl r, G') := by
      cases q : T.xr f us s2.G with
      | none => rw [q] at h3; cases h3
      | some p =>
        obtain ⟨a, b⟩ := p
        rw [q] at h3
        cases a with
        | inl v => cases h3; rfl
        | inr c => cases h3
    refine ⟨by rw [← r1.len]; exact hl _ _ _ _ e1, { w2 with nu := [] }, us, s2.G, .inl r, G', rfl, (show w2.T = g.T from hT.teq R2), hT.tabs R2, R2.enter hg, noV_ok nv r2, h4, fun w' H' hn R' l' z r' => ?_⟩
    obtain ⟨R3, l3⟩ := R2.leave hn R' l'
    exact k _ z H' R3 ((l1.trans l2).trans l3) (Rv.congr (w := w') (w' := { w' with nu := w2.nu }) (Sub.refl _) ⟨[], by simp⟩ ⟨w2.nu, by simp [hn]⟩ r')
  · cases ev
/-! ### methods -/
theorem e_app {e : Expr} (C : Cn0 X) (hw : w0.nu = []) (h : PE X e (tBM X.K "list" (semM X "list.append") (tE X.K w0 H0 ma) (tCons (tE X.K w0 H0 mb) tNil))) :
    PE X e (tE X.K w0 H0 fun e => bd (ma e) fun o => bd (lstV o) fun _ => bd (mb e) fun a => bd (appV o a) fun _ => rt (.d .none)) := pe_imp h fun σ H Q h => by
  obtain ⟨w, e, s, v, s', R, ev, k⟩ := h
  obtain ⟨v1, s1, e1, ev⟩ := bd_inv ev
  obtain ⟨_, s2, e2, ev⟩ := bd_inv ev
  obtain ⟨v3, s3, e3, ev⟩ := bd_inv ev
  obtain ⟨_, s4, e4, ev⟩ := bd_inv ev
  obtain ⟨e5, e6⟩ := rt_inv ev
  subst e5 e6
  refine ⟨w, e, s, v1, s1, R, e1, fun w1 x H1 R1 l1 r1 => ?_⟩
  have e2 : (match getO v1 s1 with | some (.lst _) => some ((), s1) | _ => none) = some ((), s2) := e2
  split at e2
  · rename_i xs hq
    cases e2
    refine ⟨app_ty (v := v1) (s' := s1) (u := ()) hw R1 r1 ⟨xs, hq⟩, w1, e, s1, v3, s3, R1, e3, fun w2 y H2 R2 l2 r2 => fun pins sh si vv us I rx rs => ?_⟩
    obtain ⟨u, eu, ry⟩ := vals1 rs
    subst eu
    exact app_ok2 C hw I rx ry R2 (r1.mono l2) r2 e4 fun w' H' R' l' => k w' _ H' R' ((l1.trans l2).trans l') (show Rp _ _ _ _ from rp_none)
  · cases e2
theorem e_get {e : Expr} (C : Cn0 X) (hw : w0.nu = []) (h : PE X e (tDGet2 (tE X.K w0 H0 ma) (tE X.K w0 H0 mb) (tE X.K w0 H0 mc))) :
    PE X e (tE X.K w0 H0 fun e => bd (ma e) fun d => bd (dctV d) fun _ => bd (mb e) fun k => bd (mc e) fun x => getV d k x) := pe_imp h fun σ H Q h => by
  obtain ⟨w, e, s, v, s', R, ev, k⟩ := h
  obtain ⟨v1, s1, e1, ev⟩ := bd_inv ev
  obtain ⟨_, s2, e2, ev⟩ := bd_inv ev
  obtain ⟨v3, s3, e3, ev⟩ := bd_inv ev
  obtain ⟨v4, s4, e4, eg⟩ := bd_inv ev
  refine ⟨w, e, s, v1, s1, R, e1, fun w1 x H1 R1 l1 r1 => ?_⟩
  obtain ⟨d1, t1, e2'⟩ := pk R1 r1 e2
  cases d1 with
  | dict kvs =>
    obtain ⟨_, e5⟩ := rt_inv e2'
    subst e5
    obtain ⟨p, ks, e6, hp, hr⟩ := t1
    subst e6
    refine ⟨p, rfl, .inl ⟨ks, .inl hp⟩, w1, e, s2, v3, s3, R1, e3, fun w2 y H2 R2 l2 r2 => ⟨w2, e, s3, v4, s4, R2, e4, fun w3 z H3 R3 l3 r3 => ?_⟩⟩
    obtain ⟨kd, tk, eg⟩ := pk R3 (r2.mono l3) eg
    obtain ⟨xd, s5, e5, eg⟩ := bd_inv eg
    obtain ⟨w4, R4, l4, r4⟩ := keep_ok hw R3 r3 e5
    obtain ⟨dd, td, eh⟩ := pk R4 (((r1.mono l2).mono l3).mono l4) eg
    cases dd with
    | dict kvs2 =>
      obtain ⟨p', ks2, e6, hp2, hr2⟩ := td
      cases e6
      have ev : (if isKey kd then rt (Val.d ((lookD kd kvs2).getD xd)) else no) s5 = some (v, s') := eh
      split at ev
      · rename_i hk
        obtain ⟨e7, e8⟩ := rt_inv ev
        subst e7 e8
        obtain ⟨q, e9⟩ := isKey_kP hk
        subst e9
        cases rt_key tk
        have lk := look_ok q hr2
        refine ⟨valV ks2 q, DGet.k hp2, k w4 _ H3 R4 (((l1.trans l2).trans l3).trans l4) ?_⟩
        show Rp _ _ _ _
        cases hl : lookD (kP q) kvs2 with
        | none => rw [lk.2 hl]; exact r4
        | some d =>
          obtain ⟨x, h3, h4⟩ := lk.1 d hl
          rw [h3]; exact h4
      · cases ev
    | _ => cases eh
  | _ => cases e2'
theorem e_dctp {pos : Pos} : PE X (.Dict [] [] pos) (tE X.K w0 H0 fun _ => rt (Val.d (.dict []))) := pe_imp pe_dnewK fun σ H Q h => by
  obtain ⟨w, e, s, v, s', R, ev, k⟩ := h
  obtain ⟨e1, e2⟩ := rt_inv ev
  subst e1 e2
  intro p hp
  obtain ⟨R2, l2⟩ := R.new (o := .dK []) hp
  refine k _ (.ref p) _ R2 l2 ?_
  show Rp X.K (upd w.F p (.dK [])) (.dict []) (.ref p)
  unfold Rp
  exact ⟨p, [], rfl, upd_same, by unfold RpK; rfl⟩
/-! ### list.count, list.index -/
theorem flF_v {K : PySem.W.Frag} {F : Hp} {d : PyData} {v : V} (h : flF d = true) (r : Rp K F d v) : flatV v = true := by
  cases d with
  | none => unfold Rp at r; subst r; rfl
  | bool b => unfold Rp at r; subst r; rfl
  | int i => unfold Rp at r; subst r; rfl
  | str x => unfold Rp at r; subst r; rfl
  | _ => cases h
theorem flF_all {K : PySem.W.Frag} {F : Hp} : ∀ {ds : List PyData} {vs : List V}, ds.all flF = true → All2 (Rp K F) ds vs → vs.all flatV = true
  | [], _, _, .nil => rfl
  | d :: ds, _, h, .cons r rs => by
    rw [List.all_cons, Bool.and_eq_true] at h
    rw [List.all_cons, Bool.and_eq_true]
    exact ⟨flF_v h.1 r, flF_all h.2 rs⟩
theorem eqF_v {K : PySem.W.Frag} {F : Hp} {d x : PyData} {v u : V} (h : flF d = true) (hx : flF x = true) (r : Rp K F d v) (q : Rp K F x u) : eqF d x = eqV v u := by
  cases d <;> first | cases h | skip
  all_goals (unfold Rp at r; subst r)
  all_goals (cases x <;> first | cases hx | skip)
  all_goals (unfold Rp at q; subst q; rfl)
theorem cnt_v {K : PySem.W.Frag} {F : Hp} {x : PyData} {u : V} (hx : flF x = true) (q : Rp K F x u) : ∀ {ds : List PyData} {vs : List V} {its : List Value}, ds.all flF = true → All2 (Rp K F) ds vs → Vals vs its → its.countP (eqU u) = ds.countP fun d => eqF d x
  | [], _, _, _, .nil, .nil => rfl
  | d :: ds, v :: vs, i :: its, h, .cons r rs, .cons t ts => by
    rw [List.all_cons, Bool.and_eq_true] at h
    rw [List.countP_cons, List.countP_cons, cnt_v hx q h.2 rs ts, eqU_of t (flF_v h.1 r), eqF_v h.1 hx r q]
theorem mt_count {X : Cx} : MtR X "list.count" (fun x xs H Q => ∃ (a : Addr) (ys : List V) (y : V), x = V.ref a ∧ xs = [y] ∧ SqL X.K H a ys ∧ flatV y = true ∧ ys.all flatV = true ∧ ∀ its, Vals ys its → Q (.int (its.countP (eqU y) : Nat)) H) := by
  intro pins s σ H x xs v us Q I rx rxs h
  obtain ⟨a, ys, y, rfl, rfl, hs, fy, fys, q⟩ := h
  cases rx
  obtain ⟨u, rfl, ru⟩ := rxs.one
  obtain ⟨its, rv, ⟨⟨cls, dd, data, sl⟩, n, ho, hc, hdn, hd⟩, hlen⟩ := I.list hs
  simp only at hc hd
  subst hc hd
  refine call_meets PySem.F.slot_list_count ⟨_, ho, rfl⟩ PySem.F.entry_list_count (PySem.F.args_list_count_2 _ _)
    (SeqAt.list_countAt a its.toArray n dd sl u (eqU y)) ⟨ho, fun u' hu' => mem_eqAt ru fy rv fys u' (by simpa using hu'), ?_⟩
  exact ⟨.int (its.countP (eqU y) : Nat), H, I.tok _, ⟨s.toks, rfl⟩, q its rv⟩
theorem e_lm {f : LM} {e : Expr} {id : String} (hid : id = (match f with | .count => "list.count" | .index => "list.index") := by rfl) (h : PE X e (tBM X.K "list" (semM X id) (tE X.K w0 H0 ma) (tCons (tE X.K w0 H0 mb) tNil))) :
    PE X e (tE X.K w0 H0 fun e => bd (ma e) fun v => bd (lisV v) fun _ => bd (mb e) fun u => bd (peek v) fun x => bd (peek u) fun y => ofO ((lmD f x y).map .d)) := pe_imp h fun σ H Q h => by
  obtain ⟨w, e, s, v, s', R, ev, k⟩ := h
  obtain ⟨v1, s1, e1, ev1⟩ := bd_inv ev
  obtain ⟨_, s2, e2, ev2⟩ := bd_inv ev1
  obtain ⟨v3, s3, e3, ev3⟩ := bd_inv ev2
  refine ⟨w, e, s, v1, s1, R, e1, fun w1 x H1 R1 l1 r1 => ?_⟩
  obtain ⟨d1, t1, e2'⟩ := pk R1 r1 e2
  cases d1 with
  | list ds0 =>
    obtain ⟨_, e5⟩ := rt_inv e2'
    subst e5
    obtain ⟨p, xs0, e6, hp0, _⟩ := t1
    subst e6
    refine ⟨.inl ⟨rfl, xs0, SqL.of hp0⟩, w1, e, s2, v3, s3, R1, e3, fun w2 y H2 R2 l2 r2 => fun pins sh si vv us I rx rs => ?_⟩
    obtain ⟨xd, t3, ev4⟩ := pk R2 (r1.mono l2) ev3
    obtain ⟨yd, t4, ev5⟩ := pk R2 r2 ev4
    obtain ⟨d, e7, e8, e9⟩ := of_map ev5
    subst e8 e9
    have yr : flF yd = true → Rp X.K w2.F yd y := fun h => by
      cases yd with
      | none => exact t4
      | bool b => exact t4
      | int i => exact t4
      | str x => exact t4
      | _ => cases h
    cases f with
    | count =>
      subst hid
      unfold lmD at e7
      split at e7
      · rename_i heq
        split at e7
        · rename_i hh
          simp only [Bool.and_eq_true, decide_eq_true_eq] at hh
          cases e7
          obtain ⟨p', xs, e10, hp, hr⟩ := t3
          cases e10
          refine mt_count pins sh si H2 _ _ vv us Q I rx rs ⟨p, xs, y, rfl, rfl, SqL.of hp, flF_v hh.1.2 (yr hh.1.2), flF_all hh.1.1 (rpA_iff.mp hr), fun its rv => ?_⟩
          rw [cnt_v hh.1.2 (yr hh.1.2) hh.1.1 (rpA_iff.mp hr) rv]
          exact k w2 _ H2 R2 (l1.trans l2) (show Rp _ _ _ _ from rp_int)
        · cases e7
      · cases ‹LM.count = LM.index›
      · cases e7
    | index =>
      subst hid
      unfold lmD at e7
      split at e7
      · cases ‹LM.index = LM.count›
      · split at e7
        · rename_i hh
          simp only [Bool.and_eq_true, decide_eq_true_eq] at hh
          obtain ⟨i, h7, h8⟩ := Option.map_eq_some_iff.mp e7
          cases h8
          obtain ⟨p', xs, e10, hp, hr⟩ := t3
          cases e10
          have hr2 := rpA_iff.mp hr
          obtain ⟨hi, h10, h11⟩ := List.findIdx?_eq_some_iff_getElem.mp h7
          obtain ⟨z, hz, rz⟩ := hr2.at_ (List.getElem?_eq_getElem hi)
          have fl : ∀ {m : Nat} (hm : m < _), flF _ = true := fun {m} hm => List.all_eq_true.mp hh.1.1 _ (List.getElem_mem hm)
          refine mt_index pins sh si H2 _ _ vv us Q I rx rs ⟨p, xs, y, i, z, rfl, rfl, SqL.of hp, flF_v hh.1.2 (yr hh.1.2), flF_all hh.1.1 hr2, hz, ?_, fun m z' hm hz' => ?_, k w2 _ H2 R2 (l1.trans l2) (show Rp _ _ _ _ from rp_int)⟩
          · rw [← eqF_v (fl hi) hh.1.2 rz (yr hh.1.2)]; exact h10
          · obtain ⟨d', hd', rd⟩ := hr2.atR hz'
            obtain ⟨hml, hme⟩ := List.getElem?_eq_some_iff.mp hd'
            subst hme
            rw [← eqF_v (fl hml) hh.1.2 rd (yr hh.1.2)]
            simpa using h11 m hm
        · cases e7
      · cases e7
  | _ => cases e2'
end
end Ev

/-! what is walked: lists, tuples, ranges, enumerate, zip -/
namespace Ev
open PySem PySem.Spec PyProof.Rows L2
/-! ### iterators that make a tuple at each turn -/
/-- at turn i below n a new tuple of xs, R i xs, while G stands -/
def Jt (n : Nat) (G : Hp → Prop) (R : Nat → List V → Prop) : It :=
  ⟨fun i H => i < n ∧ G H, fun i H v H' => ∃ T xs, v = .ref T ∧ H T = none ∧ H' = upd H T (.tup xs) ∧ R i xs, fun i H => i = n ∧ G H⟩
theorem turn_walk {P : Program} {W : World} {K : PySem.W.Frag} {elts : List Expr} {kk : Nat} {tpos : Pos} {it : Addr} {fp wr : List Addr} {n : Nat} {G : Hp → Prop} {R : Nat → List V → Prop} {tn : Nat → Heap → Prop}
    (hmem : it ∈ fp) (hobj : ∀ i h, tn i h → ∀ b ∈ fp, ∃ o, h.get? b = some o ∧ ∀ v, o.data ≠ .cell v) (hkeep : ∀ i h h', tn i h → (∀ b ∈ fp, ∀ o, h.get? b = some o → h'.get? b = some o) → tn i h') (hwr : ∀ b ∈ wr, b ∈ fp)
    (hself : ∀ (A : Around) (i : Nat) (s : Shared) (Q : Value → Shared → Prop) (E : Value → Shared → Prop), tn i s.heap → Q (.ref it) s → wpAny (model P W) A (pyIter (.ref it)) Q E s)
    (hw : ∀ (X : Cx), X.prog = P → X.w = W → X.K = K → X.calm = true → ∀ (pins : List (Addr × Obj)) (s : Shared) (si : L2.St) (H : Hp), L2.Inv X pins si H s → G H →
      ∃ (Pt : Nat → Array Value → Prop) (St : Nat → Heap → Prop) (Mid : Nat → Addr → Heap → Prop) (fq : List Addr), WalksT P W X.A it fq wr n Pt St Mid ∧ (∀ i h, St i h → tn i h) ∧ (∀ i, tn i s.heap → St i s.heap) ∧
        ∀ i vals, i < n → Pt i vals → ∃ xs, R i xs ∧ Vals xs vals.toList ∧ xs.length ≤ 16) :
    Turn P W K (.Tuple elts kk tpos) (Jt n G R) fp it tn where
  mem := hmem
  obj := hobj
  keep := hkeep
  item := by
    intro X hP hW hK hc i pins s si H E I hf st hg
    subst hP hW hK
    obtain ⟨hi, hG⟩ := hg
    obtain ⟨Pt, St, Mid, fq, w, w1, w2, w3⟩ := hw X rfl rfl rfl hc pins s si H I hG
    refine w.item i s _ _ hi (w2 i st) fun T vals h1 tk hp hT hv hm hk => ⟨_, rfl, w.go elts kk tpos i T { s with heap := h1, toks := tk } _ _ hm fun h2 st2 hk2 => ?_⟩
    obtain ⟨xs, r1, r2, r3⟩ := w3 i vals hi hp
    have k2 : ∀ b o, b ∉ fp → s.heap.get? b = some o → h2.get? b = some o := fun b o hb e => hk2 b o (fun z => hb (hwr b z)) (hk b o (fun z => hb (hwr b z)) e)
    have hv2 : h2.IsTuple T vals := hv.at fun o e => hk2 T o (w.apart _ _ _ hm) e
    have new : ObjOk X.prog X.w (upd H T (.tup xs)) h2 T (.tup xs) := ⟨Nat.le_trans r3 (by rw [size_line]; decide), vals.toList, r2, by rw [Array.toArray_toList]; exact hv2⟩
    have I2 : L2.Inv X pins si (upd H T (.tup xs)) { s with heap := h2, toks := tk } := I.turnedNew (ch := fp) k2 hf hT new
    refine ⟨.ref T, _, I2, rfl, ⟨T, xs, rfl, I.hok.fresh hT, rfl, r1⟩, w1 _ _ st2, fun b hb => ?_⟩
    obtain ⟨o, ho, _⟩ := hobj i _ st b hb
    rw [upd_ne (Nat.ne_of_lt (Nat.lt_of_lt_of_le (Heap.lt_size ho) hT))]
    exact (hf b hb).1
  done := by
    intro X hP hW hK hc i pins s si H E I hf st hg
    subst hP hW hK
    obtain ⟨hi, hG⟩ := hg
    obtain ⟨Pt, St, Mid, fq, w, w1, w2, w3⟩ := hw X rfl rfl rfl hc pins s si H I hG
    subst hi
    exact w.done s _ _ (w2 _ st) fun h2 tk hk => ⟨rfl, I.turnedL (ch := fp) (fun b o hb e => hk b o (fun z => hb (hwr b z)) e) hf⟩
  self := hself
/-! ### a list or a tuple as a source -/
def Src (K : PySem.W.Frag) (b : Bool) (H : Hp) (a : Addr) (xs : List V) : Prop := if b then SqT K H a xs else SqL K H a xs
def srcH (b : Bool) (h : Heap) (a : Addr) (its : Array Value) : Prop := if b then h.IsTuple a its else h.IsList a its
def itH (b : Bool) (h : Heap) (it a : Addr) (i : Nat) : Prop := if b then h.IsTupleIter it a i else h.IsListIter it a i
def itO (b : Bool) (a : Addr) : Obj := { cls := .type (if b then "tuple_iterator" else "list_iterator"), data := .fields #[.ref a, .int 0 0] }
theorem src_h {X : Cx} {pins : List (Addr × Obj)} {si : L2.St} {H : Hp} {s : Shared} (I : L2.Inv X pins si H s) {b : Bool} {a : Addr} {xs : List V} (h : Src X.K b H a xs) : ∃ its, Vals xs its ∧ srcH b s.heap a its.toArray := by
  cases b with
  | false =>
    obtain ⟨its, r, p, _⟩ := I.list (show SqL X.K H a xs from h)
    exact ⟨its, r, p.isList⟩
  | true =>
    obtain ⟨its, r, p, _⟩ := I.tuple (show SqT X.K H a xs from h)
    exact ⟨its, r, p⟩
theorem src_lt {b : Bool} {h : Heap} {a : Addr} {its : Array Value} (p : srcH b h a its) : a < h.objs.size := by
  cases b with
  | false => obtain ⟨o, e, _⟩ := (show h.IsList a its from p); exact Heap.lt_size e
  | true => obtain ⟨o, e, _⟩ := (show h.IsTuple a its from p); exact Heap.lt_size e
theorem src_draws {P : Program} {W : World} {A : Around} (hh : A.handled = none) (b : Bool) (it a : Addr) (ne : a ≠ it) (its : Array Value) :
    Draws P W A it [it, a] its.size (fun i v => its[i]? = some v) (fun i h => itH b h it a i ∧ srcH b h a its) := by
  cases b with
  | false => exact Draws.list hh it a ne its
  | true => exact Draws.tuple hh it a ne its
theorem src_begins (b : Bool) (a : Addr) (its : Array Value) : Begins (.ref a) (itO b a) (fun h => srcH b h a its) := by
  cases b with
  | false => exact begins_list a its
  | true => exact begins_tuple a its
theorem it_new {b : Bool} {h : Heap} {it a : Addr} (e : h.get? it = some (itO b a)) : itH b h it a 0 := by
  cases b with
  | false => exact ⟨_, e, rfl, rfl⟩
  | true => exact ⟨_, e, rfl, rfl⟩
theorem it_obj {b : Bool} {h : Heap} {it a : Addr} {i : Nat} (e : itH b h it a i) : ∃ o, h.get? it = some o ∧ ∀ v, o.data ≠ .cell v := by
  cases b with
  | false => obtain ⟨o, e, _, d⟩ := (show h.IsListIter it a i from e); exact ⟨o, e, fun v z => by rw [d] at z; cases z⟩
  | true => obtain ⟨o, e, _, d⟩ := (show h.IsTupleIter it a i from e); exact ⟨o, e, fun v z => by rw [d] at z; cases z⟩
theorem it_keep {b : Bool} {h h' : Heap} {it a : Addr} {i : Nat} (e : itH b h it a i) (k : ∀ o, h.get? it = some o → h'.get? it = some o) : itH b h' it a i := by
  cases b with
  | false => exact (show h.IsListIter it a i from e).at k
  | true => exact (show h.IsTupleIter it a i from e).at k
/-! ### enumerate -/
theorem meets_enum1 {v : Value} {o : Obj} {H : Heap → Prop} (B : Begins v o H) :
    Meets (Builtin.«enumerate.__new__» ⟨[.type "enumerate", v], []⟩) (fun _ R s => H s.heap ∧
      R (.ok (.ret (.ref (s.heap.push o).objs.size))) { s with heap := (s.heap.push o).push { cls := .type "enumerate", data := .fields #[.none, .bool false, .ref s.heap.objs.size, rawInt 0, .none, .none] } }) :=
  .of_wp fun prog w A R s h => by
    obtain ⟨hp, g, d, tk, os⟩ := s
    obtain ⟨h1, h⟩ := h
    have sub := sub_enumerate
    have begin_ : ∀ {A' : Around} {E Q : Value → Shared → Prop}, Q (.ref hp.objs.size) ⟨hp.push o, g, d, tk, os⟩ → wpAny (model prog w) A' (pyIter v) Q E ⟨hp, g, d, tk, os⟩ := fun q => B.iter prog w _ _ _ _ h1 q
    wp_walk using begin_
    refine wpAny_stack_any fun st => wpAny_pure ?_
    split
    · rename_i c _ _ _ _ _
      cases (c == Value.type "enumerate") <;> (wp_walk using begin_; exact ⟨_, rfl, h⟩)
    · wp_walk using begin_
      exact ⟨_, rfl, h⟩
theorem enum1 {P : Program} {W : World} {A : Around} {E : Value → Shared → Prop} {s : Shared} {v : Value} {o : Obj} {H : Heap → Prop} {Q : Value → Shared → Prop} (B : Begins v o H) (h1 : H s.heap)
    (h : ∀ h', IsEnum h' (s.heap.objs.size + 1) s.heap.objs.size 0 .none → h'.get? s.heap.objs.size = some o → (∀ b o, s.heap.get? b = some o → h'.get? b = some o) → Q (.ref (s.heap.objs.size + 1)) { s with heap := h' }) :
    wpAny (model P W) A (call (.type "enumerate") [v]) Q E s := by
  refine callType_new F.called_enumerate (by decide) (F.typeCall_enumerate_1 _) (F.newCall_enumerate_1 _) (fun obj => F.args_object_init_2 obj _) F.entry_enumerate_new (meets_enum1 B) ⟨h1, ?_⟩
  have sz : (s.heap.push o).objs.size = s.heap.objs.size + 1 := Heap.size_push ..
  have he : IsEnum ((s.heap.push o).push { cls := .type "enumerate", data := .fields #[.none, .bool false, .ref s.heap.objs.size, rawInt 0, .none, .none] }) (s.heap.push o).objs.size s.heap.objs.size 0 .none := Heap.get?_push_size _ rfl
  show _ ∧ _
  rw [sz] at he ⊢
  exact ⟨⟨_, he, rfl⟩, h _ he (Heap.get?_push_of_some _ (Heap.get?_push_size _ B.free)) fun b o x => Heap.get?_push_of_some _ (Heap.get?_push_of_some _ x)⟩
theorem turn_enumS {P : Program} {W : World} {K : PySem.W.Frag} {elts : List Expr} {kk : Nat} {tpos : Pos} {b : Bool} {a e it : Addr} {xs : List V} (h1 : e ≠ it) (h2 : a ≠ e) (h3 : a ≠ it) :
    Turn P W K (.Tuple elts kk tpos) (Jt xs.length (fun H => Src K b H a xs) (fun i ys => ∃ x, xs[i]? = some x ∧ ys = [.int (i : Nat), x])) [e, it] e (fun i h => (∃ old, IsEnum h e it ((0 : Int) + (i : Nat)) old) ∧ itH b h it a i) := by
  refine turn_walk (wr := [e, it]) (by simp) (fun i h st c hc => ?_) (fun i h h' st k => ?_) (fun b hb => hb) (fun A i s Q E st h => ?_) (fun X hP hW hK hc pins s si H I hG => ?_)
  · obtain ⟨⟨old, he⟩, hi⟩ := st
    have hc : c = e ∨ c = it := by simpa using hc
    rcases hc with q | q
    · subst q; exact ⟨_, he, fun v z => nomatch z⟩
    · subst q; exact it_obj hi
  · obtain ⟨⟨old, he⟩, hi⟩ := st
    exact ⟨⟨old, k e (by simp) _ he⟩, it_keep hi fun o q => k it (by simp) o q⟩
  · obtain ⟨⟨old, he⟩, _⟩ := st
    exact wpAny_pyIter_enum he h
  · subst hP hW hK
    obtain ⟨its, rv, hs⟩ := src_h I hG
    have D := src_draws (P := X.prog) (W := X.w) (A := X.A.in1) (I.ok.hd hc) b it a h3 its.toArray
    refine ⟨_, _, _, _, (show xs.length = its.toArray.size by rw [List.size_toArray]; exact rv.length) ▸ WalksT.enumFrom 0 D e h1 (by simp [h1, Ne.symm h2]) (by simp), fun i h st => ⟨st.1, st.2.1⟩, fun i st => ⟨st.1, st.2, hs⟩, fun i vals hi hp => ?_⟩
    obtain ⟨t, x, hx, ev⟩ := hp
    subst ev
    obtain ⟨z, hz⟩ : ∃ z, xs[i]? = some z := ⟨xs[i], by simp [hi]⟩
    obtain ⟨u, hu, ru⟩ := rv.get hz
    have e2 : x = u := by
      have e3 : its[i]? = some x := by simpa using hx
      rw [e3] at hu; exact Option.some.inj hu
    subst e2
    exact ⟨_, ⟨z, hz, rfl⟩, .cons ⟨t, by rw [Int.zero_add]⟩ (.cons ru .nil), by show 2 ≤ 16; decide⟩
section
variable {X : Cx} {a b : Expr} {ta tb : TE} {p pos tpos : Pos} {elts : List Expr} {kk : Nat}
theorem pi_enumS {t : TA} (hg : Gl X "enumerate") (hm : X.mg "enumerate" = none) (ha : PA X [a] t) (hs : starEach [a] X.env = [(false, eval a X.env)]) :
    PI X (.Tuple elts kk tpos) (.Call (.Name "enumerate" p) [a] [] pos) (fun σ H R => t σ H fun vs H1 => ∃ (b : Bool) (c : Addr) (xs : List V), vs = [.ref c] ∧ Src X.K b H1 c xs ∧ R (Jt xs.length (fun H => Src X.K b H c xs) (fun i ys => ∃ x, xs[i]? = some x ∧ ys = [.int (i : Nat), x])) H1) := by
  refine ⟨fun pins s σ H R I h => ?_⟩
  refine Call_ (ld_blt I hg hm boot_enumerate (PyProof.Rows.callWith_type1 (thn (ha.run pos pins s σ H _ I h) fun us s1 ⟨vs, H1, I1, r1, b, c, xs, e2, hx, q⟩ => ?_) hs rfl))
  subst e2
  obtain ⟨u, e3, rx⟩ := vals1 r1
  subst e3
  cases rx
  obtain ⟨its, rv, hs'⟩ := src_h I1 hx
  refine enum1 (src_begins b c its.toArray) hs' fun h' he hi hk => wpAny_pyIter_enum he ?_
  have I2 : L2.Inv X pins σ H1 { s1 with heap := h' } := I1.kept (t' := s1.toks) hk
  have lt : c < s1.heap.objs.size := src_lt hs'
  refine ⟨s1.heap.objs.size + 1, [s1.heap.objs.size + 1, s1.heap.objs.size], _, _, H1, rfl, I2, turn_enumS (b := b) (a := c) (Nat.succ_ne_self _) (Nat.ne_of_lt (Nat.lt_succ_of_lt lt)) (Nat.ne_of_lt lt), ⟨⟨.none, he⟩, it_new hi⟩, fun d hd => ?_, q⟩
  have hle : s1.heap.objs.size ≤ d := by
    have hd : d = s1.heap.objs.size + 1 ∨ d = s1.heap.objs.size := by simpa using hd
    rcases hd with z | z
    · rw [z]; exact Nat.le_succ _
    · rw [z]; exact Nat.le_refl _
  exact I1.fpOk hle (I1.hok.fresh hle)
/-! ### zip -/
theorem turn_zipS {P : Program} {W : World} {K : PySem.W.Frag} {elts : List Expr} {kk : Nat} {tpos : Pos} {b1 b2 : Bool} {a1 a2 z TI TO i1 i2 : Addr} {xs ys : List V} (S : ZipSep2 z TI TO i1 i2 [i1, a1] [i2, a2]) (h1 : a1 ≠ i1) (h2 : a2 ≠ i2) :
    Turn P W K (.Tuple elts kk tpos) (Jt (min xs.length ys.length) (fun H => Src K b1 H a1 xs ∧ Src K b2 H a2 ys) (fun i vs => ∃ x y, xs[i]? = some x ∧ ys[i]? = some y ∧ vs = [x, y])) [z, TI, TO, i1, i2] z
      (fun i h => IsZip h z TI TO .none ∧ IsTupOf2 h TI (.ref i1) (.ref i2) ∧ (∃ a1 a2, IsTupOf2 h TO a1 a2) ∧ itH b1 h i1 a1 i ∧ itH b2 h i2 a2 i) := by
  refine turn_walk (wr := [z, TO, i1, i2]) (by simp) (fun i h st c hc => ?_) (fun i h h' st k => ?_) (fun b hb => ?_) (fun A i s Q E st h => ?_) (fun X hP hW hK hc pins s si H I hG => ?_)
  · obtain ⟨hz, hTI, ⟨x, y, hTO⟩, st1, st2⟩ := st
    have hc : c = z ∨ c = TI ∨ c = TO ∨ c = i1 ∨ c = i2 := by simpa using hc
    rcases hc with q | q | q | q | q
    · subst q; exact ⟨_, hz, fun v z => nomatch z⟩
    · subst q; exact ⟨_, hTI, fun v z => nomatch z⟩
    · subst q; exact ⟨_, hTO, fun v z => nomatch z⟩
    · subst q; exact it_obj st1
    · subst q; exact it_obj st2
  · obtain ⟨hz, hTI, ⟨x, y, hTO⟩, st1, st2⟩ := st
    exact ⟨k z (by simp) _ hz, k TI (by simp) _ hTI, ⟨x, y, k TO (by simp) _ hTO⟩, it_keep st1 fun o q => k i1 (by simp) o q, it_keep st2 fun o q => k i2 (by simp) o q⟩
  · have hb : b = z ∨ b = TO ∨ b = i1 ∨ b = i2 := by simpa using hb
    rcases hb with q | q | q | q <;> simp [q]
  · exact wpAny_pyIter_zip st.1 h
  · subst hP hW hK
    obtain ⟨its, rv, hs⟩ := src_h I hG.1
    obtain ⟨jts, rw_, ht⟩ := src_h I hG.2
    have D1 := src_draws (P := X.prog) (W := X.w) (A := X.A.in1) (I.ok.hd hc) b1 i1 a1 h1 its.toArray
    have D2 := src_draws (P := X.prog) (W := X.w) (A := X.A.in1) (I.ok.hd hc) b2 i2 a2 h2 jts.toArray
    refine ⟨_, _, _, _, (show min xs.length ys.length = min its.toArray.size jts.toArray.size by rw [List.size_toArray, List.size_toArray, rv.length, rw_.length]) ▸ WalksT.zipD2 S D1 D2,
      fun i h st => ⟨st.1, st.2.1, st.2.2.1, st.2.2.2.1.1, st.2.2.2.2.1⟩, fun i st => ⟨st.1, st.2.1, st.2.2.1, ⟨st.2.2.2.1, hs⟩, st.2.2.2.2, ht⟩, fun i vals hi hp => ?_⟩
    obtain ⟨x, y, hx, hy, ev⟩ := hp
    subst ev
    have l1 : i < xs.length := by omega
    have l2 : i < ys.length := by omega
    obtain ⟨u, hu, ru⟩ := rv.get (show xs[i]? = some xs[i] by simp [l1])
    obtain ⟨v, hv, rv'⟩ := rw_.get (show ys[i]? = some ys[i] by simp [l2])
    have e1 : x = u := by
      have e3 : its[i]? = some x := by simpa using hx
      rw [e3] at hu; exact Option.some.inj hu
    have e2 : y = v := by
      have e3 : jts[i]? = some y := by simpa using hy
      rw [e3] at hv; exact Option.some.inj hv
    subst e1 e2
    exact ⟨_, ⟨xs[i], ys[i], by simp [l1], by simp [l2], rfl⟩, .cons ru (.cons rv' .nil), by show 2 ≤ 16; decide⟩
theorem pi_zipS {t : TA} (hg : Gl X "zip") (hm : X.mg "zip" = none) (ha : PA X [a, b] t) (hs : starEach [a, b] X.env = (false, eval a X.env) :: starEach [b] X.env) (hpl : (backTo pos (starEach [b] X.env)).any (·.1) = false) :
    PI X (.Tuple elts kk tpos) (.Call (.Name "zip" p) [a, b] [] pos) (fun σ H R => t σ H fun vs H1 => ∃ (b1 b2 : Bool) (c d : Addr) (xs ys : List V), vs = [.ref c, .ref d] ∧ Src X.K b1 H1 c xs ∧ Src X.K b2 H1 d ys ∧
      R (Jt (min xs.length ys.length) (fun H => Src X.K b1 H c xs ∧ Src X.K b2 H d ys) (fun i vs => ∃ x y, xs[i]? = some x ∧ ys[i]? = some y ∧ vs = [x, y])) H1) := by
  refine ⟨fun pins s σ H R I h => ?_⟩
  refine Call_ (ld_blt I hg hm PyProof.Rows.boot_zip (PyProof.Rows.callWith_type1 (thn (ha.run pos pins s σ H _ I h) fun us s1 ⟨vs, H1, I1, r1, b1, b2, c, d, xs, ys, e2, hx, hy, q⟩ => ?_) hs hpl))
  subst e2
  obtain ⟨u, v, e3, rx, ry⟩ := vals2 r1
  subst e3
  cases rx
  cases ry
  obtain ⟨its, rv, hs'⟩ := src_h I1 hx
  obtain ⟨jts, rv2, ht'⟩ := src_h I1 hy
  have lt1 : c < s1.heap.objs.size := src_lt hs'
  have lt2 : d < s1.heap.objs.size := src_lt ht'
  refine zip_begins2 (src_begins b1 c its.toArray) (src_begins b2 d jts.toArray) hs' ht' fun h' hz hTI hTO hi hj _ hk => wpAny_pyIter_zip hz ?_
  have I2 : L2.Inv X pins σ H1 { s1 with heap := h' } := I1.kept (t' := s1.toks) hk
  refine ⟨s1.heap.objs.size + 4, [s1.heap.objs.size + 4, s1.heap.objs.size + 2, s1.heap.objs.size + 3, s1.heap.objs.size, s1.heap.objs.size + 1], _, _, H1, rfl, I2,
    turn_zipS (b1 := b1) (b2 := b2) (a1 := c) (a2 := d) (zip_sep2 (N := s1.heap.objs.size) (by simpa using lt1) (by simpa using lt2)) (Nat.ne_of_lt lt1) (Nat.ne_of_lt (Nat.lt_succ_of_lt lt2)), ⟨hz, hTI, ⟨_, _, hTO⟩, it_new hi, it_new hj⟩, fun x hx' => ?_, q⟩
  have hle : s1.heap.objs.size ≤ x := by
    have hx' : x = s1.heap.objs.size + 4 ∨ x = s1.heap.objs.size + 2 ∨ x = s1.heap.objs.size + 3 ∨ x = s1.heap.objs.size ∨ x = s1.heap.objs.size + 1 := by simpa using hx'
    rcases hx' with z | z | z | z | z
    · rw [z]; exact Nat.le_add_right _ _
    · rw [z]; exact Nat.le_add_right _ _
    · rw [z]; exact Nat.le_add_right _ _
    · rw [z]; exact Nat.le_refl _
    · rw [z]; exact Nat.le_add_right _ _
  exact I1.fpOk hle (I1.hok.fresh hle)
end
end Ev

/-! zip over any number of lists and tuples, strict or not, its own tuple free or out -/
namespace Ev
open PySem PySem.Spec PyProof.Rows L2
section
variable {prog : Program} {w : World} {A : Around} {E : Value → Shared → Prop} {s : Shared}
theorem wp_forIn {M : Model} {α β : Type} {f : α → β → Sem (ForInStep β)} {Q : β → Shared → Prop} (I : Nat → β → Shared → Prop) : ∀ (xs ys : List α) (k : Nat) {b : β} {s : Shared}, ys = xs.drop k → k ≤ xs.length → I k b s →
    (∀ k x b s, xs[k]? = some x → I k b s → wpAny M A (f x b) (fun r s' => match r with | .yield b' => I (k + 1) b' s' | .done b' => Q b' s') E s) → (∀ b s, I xs.length b s → Q b s) → wpAny M A (forIn ys b f) Q E s
  | xs, [], k, b, s, hy, hl, h0, hs, hf => by
    rw [List.forIn_nil]
    have hk : xs.length ≤ k := by
      have : (xs.drop k).length = 0 := by rw [← hy]; rfl
      rw [List.length_drop] at this
      omega
    have e : k = xs.length := by omega
    exact wpAny_pure (hf _ _ (e ▸ h0))
  | xs, y :: ys, k, b, s, hy, hl, h0, hs, hf => by
    rw [List.forIn_cons]
    have hx : xs[k]? = some y := by
      have : (xs.drop k)[0]? = some y := by rw [← hy]; rfl
      rw [List.getElem?_drop] at this
      simpa using this
    have hlt : k < xs.length := (List.getElem?_eq_some_iff.mp hx).1
    refine wpAny_bind (wpAny_mono (hs k y b s hx h0) (fun r s' h => ?_) fun _ _ h => h)
    cases r with
    | done b' => exact wpAny_pure h
    | yield b' =>
      refine wp_forIn I xs ys (k + 1) ?_ (by omega) h hs hf
      have : (xs.drop k).tail = ys := by rw [← hy]; rfl
      rw [← this, List.tail_drop]
/-- a source of a zip: its iterator, itself, what it holds -/
structure Sr where
  b : Bool
  it : Addr
  a : Addr
  its : Array Value
def Sr.At (q : Sr) (i : Nat) (h : Heap) : Prop := itH q.b h q.it q.a i ∧ srcH q.b h q.a q.its
theorem Sr.draws {q : Sr} (hh : A.handled = none) (hne : q.a ≠ q.it) : Draws prog w A q.it [q.it, q.a] q.its.size (fun i v => q.its[i]? = some v) (fun i h => q.At i h) := src_draws hh q.b q.it q.a hne q.its
theorem Sr.At.keep {q : Sr} {i : Nat} {h h' : Heap} (e : q.At i h) (k : ∀ c, c = q.it ∨ c = q.a → ∀ o, h.get? c = some o → h'.get? c = some o) : q.At i h' := by
  refine ⟨it_keep e.1 fun o => k q.it (.inl rfl) o, ?_⟩
  have hs := e.2
  obtain ⟨b, it, a, its⟩ := q
  cases b with
  | false => exact (show h.IsList a its from hs).at fun o => k a (.inr rfl) o
  | true => exact (show h.IsTuple a its from hs).at fun o => k a (.inr rfl) o
theorem zd_item {st : Bool} {q : Sr} {i : Nat} {v : Value} {Q : Option Value → Shared → Prop} (hh : A.handled = none) (hne : q.a ≠ q.it) (hst : q.At i s.heap) (hv : q.its[i]? = some v)
    (h : ∀ h' tk, q.At (i + 1) h' → Heap.SameBut q.it s.heap h' → Q (some v) { s with heap := h', toks := tk }) :
    wpAny (model prog w) A (if st = true then Builtin.SmallTypes.nextOrEnd (.ref q.it) else do return some (← Builtin.SmallTypes.nextOf (.ref q.it))) Q E s := by
  have hlt : i < q.its.size := (Array.getElem?_eq_some_iff.mp hv).1
  have D := Sr.draws (prog := prog) (w := w) (A := A) (q := q) hh hne
  cases st with
  | false =>
    rw [if_neg Bool.false_ne_true]
    refine wpAny_bind (D.item i s _ _ hlt hst fun x h' tk hx st' sb => wpAny_pure ?_)
    have : v = x := by rw [hv] at hx; exact Option.some.inj hx
    subst this
    exact h h' tk st' sb
  | true =>
    rw [if_pos rfl]
    unfold Builtin.SmallTypes.nextOrEnd
    refine wpAny_bind (wpAny_attempt (D.item i s _ _ hlt hst fun x h' tk hx st' sb => wpAny_pure ?_))
    have : v = x := by rw [hv] at hx; exact Option.some.inj hx
    subst this
    exact h h' tk st' sb
theorem zd_end {st : Bool} {q : Sr} {Q : Option Value → Shared → Prop} (hh : A.handled = none) (hne : q.a ≠ q.it) (hst : q.At q.its.size s.heap)
    (h1 : st = true → ∀ h', Heap.ExtBut q.it s.heap h' → Q none { s with heap := h' })
    (h2 : st = false → ∀ h' e, Heap.ExtBut q.it s.heap h' → (∃ o, h'.get? e = some o ∧ o.cls = .type "StopIteration") → E (.ref e) { s with heap := h' }) :
    wpAny (model prog w) A (if st = true then Builtin.SmallTypes.nextOrEnd (.ref q.it) else do return some (← Builtin.SmallTypes.nextOf (.ref q.it))) Q E s := by
  have D := Sr.draws (prog := prog) (w := w) (A := A) (q := q) hh hne
  cases st with
  | false =>
    rw [if_neg Bool.false_ne_true]
    exact wpAny_bind (D.done s _ _ hst fun h' e sb he => h2 rfl h' e sb he)
  | true =>
    rw [if_pos rfl]
    unfold Builtin.SmallTypes.nextOrEnd
    refine wpAny_bind (wpAny_attempt (D.done s _ _ hst fun h' e sb he => ?_))
    obtain ⟨o, ho, hc⟩ := he
    refine wpAny_bind (wpAny_isInstance (T := "StopIteration") (b := true) ⟨o, ho, hc⟩ isSubtype_stop ?_)
    exact wpAny_pure (h1 rfl h' sb)
abbrev ZObj (f0 f1 : Value) (st : Bool) (TI TO : Addr) : Obj := { cls := .type "zip", dict := none, data := .fields #[f0, f1, .bool st, .ref TI, .ref TO], slots := #[] }
abbrev TObj (vs : Array Value) : Obj := { cls := .type "tuple", data := .seq vs }
/-- its own tuple: none out, or one that was handed out -/
def OutF (f0 : Value) : Prop := f0 = .none ∨ ∃ a : Nat, f0 = rawInt a
structure ZSep (z TI TO : Addr) (qs : List Sr) : Prop where
  TIz : TI ≠ z
  TOz : TO ≠ z
  TITO : TI ≠ TO
  it : ∀ q ∈ qs, q.it ≠ z ∧ q.it ≠ TI ∧ q.it ≠ TO
  a : ∀ q ∈ qs, q.a ≠ z ∧ q.a ≠ TO
  ia : ∀ q ∈ qs, ∀ p ∈ qs, q.a ≠ p.it
  nd : ∀ (j k : Nat) (q p : Sr), qs[j]? = some q → qs[k]? = some p → j ≠ k → q.it ≠ p.it
theorem ZSep.off {z TI TO : Addr} {qs : List Sr} (S : ZSep z TI TO qs) {j k : Nat} {q p : Sr} (hq : qs[j]? = some q) (hp : qs[k]? = some p) (ne : j ≠ k) : q.it ≠ p.it := S.nd j k q p hq hp ne
/-- how the cells of a zip stand: f0, f1 its own tuple's state -/
structure ZAt (z TI TO : Addr) (st : Bool) (qs : List Sr) (f0 f1 : Value) (h : Heap) : Prop where
  z : h.get? z = some (ZObj f0 f1 st TI TO)
  ti : h.get? TI = some (TObj (qs.map fun q => Value.ref q.it).toArray)
  to : ∃ os, h.get? TO = some (TObj os) ∧ os.size = qs.length
def ZOther (z TO : Addr) (qs : List Sr) (h h' : Heap) : Prop := ∀ c o, c ≠ z → c ≠ TO → (∀ q ∈ qs, c ≠ q.it) → h.get? c = some o → h'.get? c = some o
theorem ZOther.refl {z TO : Addr} {qs : List Sr} {h : Heap} : ZOther z TO qs h h := fun _ _ _ _ _ e => e
theorem ZOther.trans {z TO : Addr} {qs : List Sr} {h h' h'' : Heap} (a : ZOther z TO qs h h') (b : ZOther z TO qs h' h'') : ZOther z TO qs h h'' := fun c o h1 h2 h3 e => b c o h1 h2 h3 (a c o h1 h2 h3 e)
/-- a turn's loop: the first k sources are drawn from -/
structure ZRun (z TI TO : Addr) (st : Bool) (qs : List Sr) (f0 f1 : Value) (i k : Nat) (h0 h : Heap) : Prop where
  zat : ZAt z TI TO st qs f0 f1 h
  lo : ∀ j q, j < k → qs[j]? = some q → q.At (i + 1) h
  hi : ∀ j q, k ≤ j → qs[j]? = some q → q.At i h
  ot : ZOther z TO qs h0 h
  sz : h.objs.size = h0.objs.size
theorem ZRun.draw {z TI TO : Addr} {st : Bool} {qs : List Sr} {f0 f1 : Value} {i k : Nat} {h0 h h' : Heap} (S : ZSep z TI TO qs) (R : ZRun z TI TO st qs f0 f1 i k h0 h) {q : Sr} (hq : qs[k]? = some q) (hn : q.At (i + 1) h') (sb : Heap.SameBut q.it h h') :
    ZRun z TI TO st qs f0 f1 i (k + 1) h0 h' := by
  have hm := List.mem_of_getElem? hq
  obtain ⟨n1, n2, n3⟩ := S.it q hm
  obtain ⟨os, ho, hz⟩ := R.zat.to
  refine ⟨⟨sb.extBut _ _ n1.symm R.zat.z, sb.extBut _ _ n2.symm R.zat.ti, os, sb.extBut _ _ n3.symm ho, hz⟩, fun j p hj hp => ?_, fun j p hj hp => ?_, R.ot.trans fun c o _ _ h3 e => sb.extBut _ _ (h3 q hm) e, by rw [sb.1, R.sz]⟩
  · by_cases e : j = k
    · subst e
      rw [hq] at hp
      cases hp
      exact hn
    · refine (R.lo j p (by omega) hp).keep fun c hc o he => sb.extBut _ _ ?_ he
      rcases hc with rfl | rfl
      · exact S.off hp hq e
      · exact S.ia p (List.mem_of_getElem? hp) q hm
  · refine (R.hi j p (by omega) hp).keep fun c hc o he => sb.extBut _ _ ?_ he
    rcases hc with rfl | rfl
    · exact S.off hp hq (by omega)
    · exact S.ia p (List.mem_of_getElem? hp) q hm
theorem ZRun.store {z TI TO : Addr} {st : Bool} {qs : List Sr} {f0 f1 : Value} {i k : Nat} {h0 h h' : Heap} (S : ZSep z TI TO qs) (R : ZRun z TI TO st qs f0 f1 i k h0 h) {os : Array Value} (ho : h'.get? TO = some (TObj os)) (hz : os.size = qs.length) (sb : Heap.SameBut TO h h') :
    ZRun z TI TO st qs f0 f1 i k h0 h' := by
  refine ⟨⟨sb.extBut _ _ S.TOz.symm R.zat.z, sb.extBut _ _ S.TITO R.zat.ti, os, ho, hz⟩, fun j p hj hp => ?_, fun j p hj hp => ?_, R.ot.trans fun c o _ h2 _ e => sb.extBut _ _ h2 e, by rw [sb.1, R.sz]⟩
  · refine (R.lo j p hj hp).keep fun c hc o he => sb.extBut _ _ ?_ he
    rcases hc with rfl | rfl
    · exact (S.it p (List.mem_of_getElem? hp)).2.2
    · exact (S.a p (List.mem_of_getElem? hp)).2
  · refine (R.hi j p hj hp).keep fun c hc o he => sb.extBut _ _ ?_ he
    rcases hc with rfl | rfl
    · exact (S.it p (List.mem_of_getElem? hp)).2.2
    · exact (S.a p (List.mem_of_getElem? hp)).2
theorem ZRun.setz {z TI TO : Addr} {st : Bool} {qs : List Sr} {f0 f1 g0 g1 : Value} {i k : Nat} {h0 h h' : Heap} (S : ZSep z TI TO qs) (R : ZRun z TI TO st qs f0 f1 i k h0 h) (ho : h'.get? z = some (ZObj g0 g1 st TI TO)) (sb : Heap.SameBut z h h') :
    ZRun z TI TO st qs g0 g1 i k h0 h' := by
  obtain ⟨os, hos, hz⟩ := R.zat.to
  refine ⟨⟨ho, sb.extBut _ _ S.TIz R.zat.ti, os, sb.extBut _ _ S.TOz hos, hz⟩, fun j p hj hp => ?_, fun j p hj hp => ?_, R.ot.trans fun c o h1 _ _ e => sb.extBut _ _ h1 e, by rw [sb.1, R.sz]⟩
  · refine (R.lo j p hj hp).keep fun c hc o he => sb.extBut _ _ ?_ he
    rcases hc with rfl | rfl
    · exact (S.it p (List.mem_of_getElem? hp)).1
    · exact (S.a p (List.mem_of_getElem? hp)).1
  · refine (R.hi j p hj hp).keep fun c hc o he => sb.extBut _ _ ?_ he
    rcases hc with rfl | rfl
    · exact (S.it p (List.mem_of_getElem? hp)).1
    · exact (S.a p (List.mem_of_getElem? hp)).1
/-- what a turn of a zip leaves: T the new tuple -/
structure ZNew (z TI TO : Addr) (st : Bool) (qs : List Sr) (i : Nat) (h0 : Heap) (T : Addr) (vals : Array Value) (h : Heap) : Prop where
  out : ∃ f0 f1, ZAt z TI TO st qs f0 f1 h ∧ OutF f0
  nx : ∀ q ∈ qs, q.At (i + 1) h
  vs : vals.size = qs.length ∧ ∀ (j : Nat) (q : Sr), qs[j]? = some q → vals[j]? = q.its[i]?
  new : h.get? T = some (TObj vals)
  ot : ZOther z TO qs h0 h
  sz : h.objs.size = h0.objs.size + 1
theorem idx_at {qs : List Sr} {k : Nat} {x : Value × Nat} (h : ((qs.map fun q => Value.ref q.it).toArray.toList.zipIdx)[k]? = some x) : ∃ q, qs[k]? = some q ∧ x = (.ref q.it, k) := by
  rw [List.getElem?_zipIdx] at h
  simp only [List.getElem?_map, Option.map_map] at h
  cases q : qs[k]? with
  | none => rw [q] at h; simp at h
  | some p =>
    rw [q] at h
    refine ⟨p, rfl, ?_⟩
    simp at h
    exact h.symm
theorem wp_alive {a : Addr} {Q : Option Obj → Shared → Prop} (h : Q (s.heap.get? a) s) : wpAny (model prog w) A (loadIfAlive a) Q E s := fun _ _ _ => h
/-- its own tuple, free or not: either way, what is known stands -/
theorem own_free {z TI TO : Addr} {st : Bool} {qs : List Sr} {f0 f1 : Value} {i k : Nat} {h0 : Heap} {Q : Bool → Shared → Prop} (S : ZSep z TI TO qs) (R : ZRun z TI TO st qs f0 f1 i k h0 s.heap) (hf : OutF f0)
    (h1 : Q true s) (h2 : ∀ h', ZRun z TI TO st qs f0 (.bool true) i k h0 h' → Q false { s with heap := h' }) : wpAny (model prog w) A (Builtin.SmallTypes.ownedTupleIsFree (.ref z)) Q E s := by
  unfold Builtin.SmallTypes.ownedTupleIsFree
  have hz := R.zat.z
  refine wpAny_bind (wpAny_field hz rfl (x := f0) rfl ?_)
  rcases hf with rfl | ⟨a, rfl⟩
  · exact wpAny_pure h1
  · show wpAny _ _ (do
      if (← loadIfAlive (a : Int).toNat).isNone then return true
      if (← field (.ref z) 1) != .bool true then setField (.ref z) 1 (.bool true)
      return false) _ _ _
    refine wpAny_bind (wp_alive ?_)
    split
    · exact wpAny_pure h1
    · refine wpAny_bind (wpAny_field hz rfl (x := f1) rfl ?_)
      show wpAny _ _ (if (f1 != Value.bool true) = true then (do let _ ← setField (.ref z) 1 (.bool true); pure false) else pure false) _ _ _
      split
      · refine wpAny_bind (wpAny_setField_rec hz (by simp) fun h' hz' sb => ?_)
        exact wpAny_pure (h2 h' (R.setz S hz' sb))
      · rename_i he
        have e : f1 = .bool true := by simpa using he
        subst e
        exact wpAny_pure (h2 s.heap R)
theorem idx_from {qs : List Sr} {k : Nat} {x : Value × Nat} (h : ((((qs.map fun q => Value.ref q.it).toArray.toList).drop 1).zipIdx 1)[k]? = some x) : ∃ q, qs[k + 1]? = some q ∧ x = (.ref q.it, k + 1) := by
  rw [List.getElem?_zipIdx] at h
  simp only [List.getElem?_drop, List.getElem?_map, Option.map_map] at h
  rw [Nat.add_comm 1 k] at h
  cases q : qs[k + 1]? with
  | none => rw [q] at h; simp at h
  | some p =>
    rw [q] at h
    refine ⟨p, rfl, ?_⟩
    simp at h
    rw [← h, Nat.add_comm]
theorem zs_item {z TI TO : Addr} {st : Bool} {qs : List Sr} {f0 f1 : Value} {i : Nat} {Q : Value → Shared → Prop} (hh : A.handled = none) (S : ZSep z TI TO qs) (hne : qs ≠ []) (hfew : qs.length ≤ 16) (Z : ZAt z TI TO st qs f0 f1 s.heap) (hf : OutF f0) (hq : ∀ q ∈ qs, q.At i s.heap ∧ i < q.its.size)
    (hQ : ∀ T vals h' tk, T = s.heap.objs.size → ZNew z TI TO st qs i s.heap T vals h' → Q (.ref T) { s with heap := h', toks := tk }) :
    wpAny (model prog w) A (Builtin.«zip.__next__» ⟨[.ref z], []⟩) (fun fin s' => ∃ v, fin = .done (.ret v) ∧ Q v s') E s := by
  obtain ⟨hp, g, d, tk0, os0⟩ := s
  have R0 : ZRun z TI TO st qs f0 f1 i 0 hp hp := ⟨Z, fun j q hj => absurd hj (Nat.not_lt_zero _), fun j q _ hj => (hq q (List.mem_of_getElem? hj)).1, ZOther.refl, rfl⟩
  have hv : ∀ {k : Nat} {q : Sr}, qs[k]? = some q → ∃ v, q.its[i]? = some v := fun {k q} e => ⟨q.its[i]'((hq q (List.mem_of_getElem? e)).2), by simp⟩
  have hd : ∀ {k : Nat} {q : Sr}, qs[k]? = some q → q.a ≠ q.it := fun {k q} e => S.ia q (List.mem_of_getElem? e) q (List.mem_of_getElem? e)
  have hsz : ((qs.map fun q => Value.ref q.it).toArray).size = qs.length := by simp
  have hem : (((qs.map fun q => Value.ref q.it).toArray).isEmpty = true) = False := by
    apply eq_false
    intro h
    cases qs with
    | nil => exact hne rfl
    | cons => simp at h
  show wpAny _ _ (field (.ref z) 2 >>= _) _ _ _
  refine wpAny_bind (wpAny_field Z.z rfl (x := .bool st) rfl ?_)
  have hst : (Value.bool st == Value.bool true) = st := by cases st <;> rfl
  show wpAny _ _ (field (.ref z) 3 >>= _) _ _ _
  refine wpAny_bind (wpAny_field Z.z rfl (x := .ref TI) rfl ?_)
  refine wpAny_bind (wpAny_seqItems Z.ti rfl ?_)
  simp only [hem, if_false]
  show wpAny _ _ (Builtin.SmallTypes.ownedTupleIsFree (.ref z) >>= _) _ _ _
  refine wpAny_bind (own_free S R0 hf ?_ fun h1 R1 => ?_)
  · -- its own tuple is free
    simp only [if_true]
    refine wpAny_bind (wpAny_rule ?_)
    refine wpAny_bind (wpAny_field Z.z rfl (x := .ref TO) rfl ?_)
    refine wpAny_bind (wpAny_setField_rec Z.z (by simp) fun g0 hz0 hs0 => ?_)
    have R1 : ZRun z TI TO st qs .ellipsis f1 i 0 hp g0 := R0.setz S hz0 hs0
    refine wpAny_bind ?_
    refine wp_forIn (fun k b s' => b = ⟨none, ⟨⟩⟩ ∧ ∃ h' tk os, s' = ⟨h', g, d, tk, os0⟩ ∧ ZRun z TI TO st qs .ellipsis f1 i k hp h' ∧ h'.get? TO = some (TObj os) ∧ os.size = qs.length ∧ ∀ (j : Nat) (q : Sr), j < k → qs[j]? = some q → os[j]? = q.its[i]?) _ _ 0 rfl (Nat.zero_le _) ?_ ?_ ?_
    · obtain ⟨os, ho, hz⟩ := R1.zat.to
      exact ⟨rfl, g0, tk0, os, rfl, R1, ho, hz, fun j q hj => absurd hj (Nat.not_lt_zero _)⟩
    · rintro k x b s' hx ⟨rfl, h', tk, os, rfl, R, ho, hz, hos⟩
      obtain ⟨q, hqk, rfl⟩ := idx_at hx
      obtain ⟨v, hvv⟩ := hv hqk
      have hkl : k < qs.length := (List.getElem?_eq_some_iff.mp hqk).1
      refine wpAny_bind (wpAny_onRaise ?_)
      simp only [hst]
      refine zd_item (st := st) hh (hd hqk) (R.hi k q (Nat.le_refl _) hqk) hvv fun h2 tk2 hn sb => ?_
      have R2 := R.draw S hqk hn sb
      have ho2 : h2.get? TO = some (TObj os) := sb.extBut _ _ (S.it q (List.mem_of_getElem? hqk)).2.2.symm ho
      refine wpAny_bind (wpAny_seqItems (s := ⟨h2, g, d, tk2, os0⟩) ho2 rfl ?_)
      refine wpAny_bind (wpAny_updateSeq (s := ⟨h2, g, d, tk2, os0⟩) ho2 rfl ?_)
      have ho3 : (h2.update TO (fun o => o.mapSeq (·.setIfInBounds k v))).get? TO = some (TObj (os.setIfInBounds k v)) := by
        rw [Heap.get?_update_self _ ho2 rfl]
        simp [Obj.mapSeq]
      have sb3 : Heap.SameBut TO h2 (h2.update TO (fun o => o.mapSeq (·.setIfInBounds k v))) := Heap.SameBut.update ..
      refine wpAny_bind (wpAny_letGo (wpAny_pure ⟨rfl, _, tk2, os.setIfInBounds k v, rfl, R2.store S ho3 (by simpa using hz) sb3, ho3, by simpa using hz, fun j p hj hp' => ?_⟩))
      by_cases e : j = k
      · subst e
        rw [hqk] at hp'
        cases hp'
        rw [hvv, Array.getElem?_setIfInBounds_self_of_lt (by omega)]
      · rw [Array.getElem?_setIfInBounds_ne (by omega)]
        exact hos j p (by omega) hp'
    · rintro b s' ⟨rfl, h', tk, os, rfl, R, ho, hz, hos⟩
      have hl : ((qs.map fun q => Value.ref q.it).toArray.toList.zipIdx).length = qs.length := by simp
      rw [hl] at R hos
      show wpAny _ _ (seqItems? (.ref TO) >>= _) _ _ ⟨h', g, d, tk, os0⟩
      refine wpAny_bind (wpAny_seqItems (s := ⟨h', g, d, tk, os0⟩) ho rfl ?_)
      refine wpAny_bind (wpAny_newTuple ?_ (by rw [size_line, Array.length_toList]; omega))
      show wpAny _ _ (Builtin.SmallTypes.ownedTupleHandOut (.ref z) (.ref h'.objs.size) >>= _) _ _ ⟨h'.push (TObj os.toList.toArray), g, d, tk, os0⟩
      rw [Array.toArray_toList]
      refine wpAny_bind ?_
      unfold Builtin.SmallTypes.ownedTupleHandOut
      have hzl : z < h'.objs.size := Heap.lt_size R.zat.z
      have hz6 : (h'.push (TObj os)).get? z = some (ZObj .ellipsis f1 st TI TO) := Heap.get?_push_of_some _ R.zat.z
      refine wpAny_bind (wpAny_setField_rec hz6 (by simp) fun h7 hz7 hs7 => ?_)
      replace hz7 : h7.get? z = some (ZObj (rawInt (h'.objs.size : Nat)) f1 st TI TO) := hz7
      refine wpAny_setField_rec hz7 (by simp) fun h8 hz8 hs8 => ?_
      replace hz8 : h8.get? z = some (ZObj (rawInt (h'.objs.size : Nat)) (.bool false) st TI TO) := hz8
      have up : ∀ c o, c ≠ z → h'.get? c = some o → h8.get? c = some o := fun c o c1 e => hs8.extBut _ _ c1 (hs7.extBut _ _ c1 (Heap.get?_push_of_some _ e))
      have hT : h8.get? h'.objs.size = some (TObj os) := hs8.extBut _ _ (Nat.ne_of_gt hzl) (hs7.extBut _ _ (Nat.ne_of_gt hzl) (Heap.get?_push_size _ rfl))
      refine wpAny_pure ⟨_, rfl, hQ _ os h8 tk R.sz ?_⟩
      rw [R.sz]
      rw [R.sz] at hT
      refine ⟨⟨_, _, ⟨hz8, up _ _ S.TIz R.zat.ti, os, up _ _ S.TOz ho, hz⟩, .inr ⟨_, rfl⟩⟩, fun q hm => ?_, ⟨hz, fun j q hj => hos j q (List.getElem?_eq_some_iff.mp hj).1 hj⟩, hT, fun c o c1 c2 c3 e => up c o c1 (R.ot c o c1 c2 c3 e), by rw [hs8.1, hs7.1, Heap.size_push, R.sz]⟩
      obtain ⟨j, hj⟩ := List.getElem?_of_mem hm
      refine (R.lo j q (List.getElem?_eq_some_iff.mp hj).1 hj).keep fun c hc o e => up c o ?_ e
      rcases hc with rfl | rfl
      · exact (S.it q hm).1
      · exact (S.a q hm).1
  · -- it is out
    rw [if_neg Bool.false_ne_true]
    rw [← Array.forIn_toList]
    refine wpAny_bind ?_
    refine wp_forIn (fun k b s' => ∃ vs h' tk, b = ⟨none, vs⟩ ∧ s' = ⟨h', g, d, tk, os0⟩ ∧ ZRun z TI TO st qs f0 (.bool true) i k hp h' ∧ vs.size = k ∧ ∀ (j : Nat) (q : Sr), j < k → qs[j]? = some q → vs[j]? = q.its[i]?) _ _ 0 rfl (Nat.zero_le _) ?_ ?_ ?_
    · exact ⟨#[], h1, tk0, rfl, rfl, R1, rfl, fun j q hj => absurd hj (Nat.not_lt_zero _)⟩
    · rintro k x b s' hx ⟨vs, h', tk, rfl, rfl, R, hz, hos⟩
      obtain ⟨q, hqk, rfl⟩ : ∃ q, qs[k]? = some q ∧ x = .ref q.it := by
        have hx : (qs.map fun q => Value.ref q.it)[k]? = some x := by simpa using hx
        rw [List.getElem?_map] at hx
        obtain ⟨q, h1, h2⟩ := Option.map_eq_some_iff.mp hx
        exact ⟨q, h1, h2.symm⟩
      obtain ⟨v, hvv⟩ := hv hqk
      refine wpAny_bind (wpAny_holding ?_)
      simp only [hst]
      refine zd_item (st := st) hh (hd hqk) (R.hi k q (Nat.le_refl _) hqk) hvv fun h2 tk2 hn sb => ?_
      refine wpAny_pure ⟨vs.push v, h2, tk2, rfl, rfl, R.draw S hqk hn sb, by simp [hz], fun j p hj hp' => ?_⟩
      by_cases e : j = k
      · subst e
        rw [hqk] at hp'
        cases hp'
        rw [hvv, ← hz, Array.getElem?_push_size]
      · rw [Array.getElem?_push_lt (by omega)]
        rw [← hos j p (by omega) hp']
        simp [show j < vs.size by omega]
    · rintro b s' ⟨vs, h', tk, rfl, rfl, R, hz, hos⟩
      have hl : ((qs.map fun q => Value.ref q.it).toArray.toList).length = qs.length := by simp
      rw [hl] at R hos hz
      refine wpAny_bind (wpAny_newTuple ?_ (by show vs.toList.length ≤ sizeLine; rw [size_line, Array.length_toList]; omega))
      rw [Array.toArray_toList]
      refine wpAny_pure ⟨_, rfl, hQ _ vs _ tk R.sz ?_⟩
      have up : ∀ c o, h'.get? c = some o → (h'.push (TObj vs)).get? c = some o := fun c o e => Heap.get?_push_of_some _ e
      obtain ⟨os, ho, hz2⟩ := R.zat.to
      refine ⟨⟨_, _, ⟨up _ _ R.zat.z, up _ _ R.zat.ti, os, up _ _ ho, hz2⟩, hf⟩, fun q hm => ?_, ⟨hz, fun j q hj => hos j q (List.getElem?_eq_some_iff.mp hj).1 hj⟩, ?_, fun c o c1 c2 c3 e => up c o (R.ot c o c1 c2 c3 e), by rw [Heap.size_push, R.sz]⟩
      · obtain ⟨j, hj⟩ := List.getElem?_of_mem hm
        exact (R.lo j q (List.getElem?_eq_some_iff.mp hj).1 hj).keep fun c hc o e => up c o e
      · exact Heap.get?_push_size _ rfl
theorem nx_end {q : Sr} {Q : Option Value → Shared → Prop} (hh : A.handled = none) (hne : q.a ≠ q.it) (hst : q.At q.its.size s.heap) (h1 : ∀ h', Heap.ExtBut q.it s.heap h' → Q none { s with heap := h' }) :
    wpAny (model prog w) A (Builtin.SmallTypes.nextOrEnd (.ref q.it)) Q E s := by
  have z := zd_end (prog := prog) (w := w) (A := A) (E := E) (s := s) (st := true) (Q := Q) hh hne hst (fun _ => h1) (fun e => by cases e)
  rwa [if_pos rfl] at z
theorem st_end {α : Type} {Q : α → Shared → Prop} (hh : A.handled = none) (hE : ∀ h' e, (∀ c o, s.heap.get? c = some o → h'.get? c = some o) → (∃ o, h'.get? e = some o ∧ o.cls = .type "StopIteration") → E (.ref e) { s with heap := h' }) :
    wpAny (model prog w) A (Builtin.SmallTypes.stopIteration : Sem α) Q E s := by
  unfold Builtin.SmallTypes.stopIteration
  refine wpAny_bind ?_
  simp only [newExc, newTuple]
  refine wpAny_bind (wpAny_newObj_type ?_ (by size_fits))
  refine wpAny_bind (m := firstArgMember _ _) (wpAny_of_eq (a := Value.none) (by first | rfl | (simp only [firstArgMember]; rfl)) ?_)
  refine wpAny_newObj_type ?_ (by size_fits)
  refine wpAny_raiseNew_none hh (hE _ _ (fun c o e => Heap.get?_push_of_some _ (Heap.get?_push_of_some _ e)) ⟨_, Heap.get?_push_size _ rfl, rfl⟩)
theorem zs_end {z TI TO : Addr} {st : Bool} {qs : List Sr} {f0 f1 : Value} {i : Nat} {Q : Fin → Shared → Prop} (hh : A.handled = none) (S : ZSep z TI TO qs) (hfew : qs.length ≤ 16) (Z : ZAt z TI TO st qs f0 f1 s.heap) (hf : OutF f0) (hq : ∀ q ∈ qs, q.At i s.heap ∧ i ≤ q.its.size) (hend : ∃ q ∈ qs, q.its.size = i) (hall : st = true → ∀ q ∈ qs, q.its.size = i)
    (hE : ∀ h' tk e, ZOther z TO qs s.heap h' → (∃ o, h'.get? e = some o ∧ o.cls = .type "StopIteration") → E (.ref e) { s with heap := h', toks := tk }) :
    wpAny (model prog w) A (Builtin.«zip.__next__» ⟨[.ref z], []⟩) Q E s := by
  obtain ⟨hp, g, d, tk0, os0⟩ := s
  have hne : qs ≠ [] := by
    obtain ⟨q, hm, _⟩ := hend
    rintro rfl
    cases hm
  have R0 : ZRun z TI TO st qs f0 f1 i 0 hp hp := ⟨Z, fun j q hj => absurd hj (Nat.not_lt_zero _), fun j q _ hj => (hq q (List.mem_of_getElem? hj)).1, ZOther.refl, rfl⟩
  have hd : ∀ {k : Nat} {q : Sr}, qs[k]? = some q → q.a ≠ q.it := fun {k q} e => S.ia q (List.mem_of_getElem? e) q (List.mem_of_getElem? e)
  have hsz : ((qs.map fun q => Value.ref q.it).toArray).size = qs.length := by simp
  have hem : (((qs.map fun q => Value.ref q.it).toArray).isEmpty = true) = False := by
    apply eq_false
    intro h
    cases qs with
    | nil => exact hne rfl
    | cons => simp at h
  show wpAny _ _ (field (.ref z) 2 >>= _) _ _ _
  refine wpAny_bind (wpAny_field Z.z rfl (x := .bool st) rfl ?_)
  have hst : (Value.bool st == Value.bool true) = st := by cases st <;> rfl
  show wpAny _ _ (field (.ref z) 3 >>= _) _ _ _
  refine wpAny_bind (wpAny_field Z.z rfl (x := .ref TI) rfl ?_)
  refine wpAny_bind (wpAny_seqItems Z.ti rfl ?_)
  simp only [hem, if_false]
  show wpAny _ _ (Builtin.SmallTypes.ownedTupleIsFree (.ref z) >>= _) _ _ _
  have other : ∀ {k : Nat} {q : Sr} {h h' : Heap}, qs[k]? = some q → Heap.ExtBut q.it h h' → ZOther z TO qs h h' := fun {k q h h'} e x c o _ _ c3 y => x c o (c3 q (List.mem_of_getElem? e)) y
  refine wpAny_bind (own_free S R0 hf ?_ fun h1 R1 => ?_)
  · simp only [if_true]
    refine wpAny_bind (wpAny_rule ?_)
    refine wpAny_bind (wpAny_field Z.z rfl (x := .ref TO) rfl ?_)
    refine wpAny_bind (wpAny_setField_rec Z.z (by simp) fun g0 hz0 hs0 => ?_)
    have R1 : ZRun z TI TO st qs .ellipsis f1 i 0 hp g0 := R0.setz S hz0 hs0
    refine wpAny_bind ?_
    refine wp_forIn (fun k b s' => b = ⟨none, ⟨⟩⟩ ∧ ∃ h' tk os, s' = ⟨h', g, d, tk, os0⟩ ∧ ZRun z TI TO st qs .ellipsis f1 i k hp h' ∧ h'.get? TO = some (TObj os) ∧ os.size = qs.length ∧ ∀ (j : Nat) (q : Sr), j < k → qs[j]? = some q → i < q.its.size) _ _ 0 rfl (Nat.zero_le _) ?_ ?_ ?_
    · obtain ⟨os, ho, hz⟩ := R1.zat.to
      exact ⟨rfl, g0, tk0, os, rfl, R1, ho, hz, fun j q hj => absurd hj (Nat.not_lt_zero _)⟩
    · rintro k x b s' hx ⟨rfl, h', tk, os, rfl, R, ho, hz, hos⟩
      obtain ⟨q, hqk, rfl⟩ := idx_at hx
      have hm := List.mem_of_getElem? hqk
      have hkl : k < qs.length := (List.getElem?_eq_some_iff.mp hqk).1
      refine wpAny_bind (wpAny_onRaise ?_)
      simp only [hst]
      by_cases hlt : i < q.its.size
      · refine zd_item (st := st) hh (hd hqk) (R.hi k q (Nat.le_refl _) hqk) (v := q.its[i]) (by simp [hlt]) fun h2 tk2 hn sb => ?_
        have R2 := R.draw S hqk hn sb
        have ho2 : h2.get? TO = some (TObj os) := sb.extBut _ _ (S.it q hm).2.2.symm ho
        refine wpAny_bind (wpAny_seqItems (s := ⟨h2, g, d, tk2, os0⟩) ho2 rfl ?_)
        refine wpAny_bind (wpAny_updateSeq (s := ⟨h2, g, d, tk2, os0⟩) ho2 rfl ?_)
        have ho3 : (h2.update TO (fun o => o.mapSeq (·.setIfInBounds k q.its[i]))).get? TO = some (TObj (os.setIfInBounds k q.its[i])) := by
          rw [Heap.get?_update_self _ ho2 rfl]
          simp [Obj.mapSeq]
        have sb3 : Heap.SameBut TO h2 (h2.update TO (fun o => o.mapSeq (·.setIfInBounds k q.its[i]))) := Heap.SameBut.update ..
        refine wpAny_bind (wpAny_letGo (wpAny_pure ⟨rfl, _, tk2, os.setIfInBounds k q.its[i], rfl, R2.store S ho3 (by simpa using hz) sb3, ho3, by simpa using hz, fun j p hj hp' => ?_⟩))
        by_cases e : j = k
        · subst e
          rw [hqk] at hp'
          cases hp'
          exact hlt
        · exact hos j p (by omega) hp'
      · have hi : i = q.its.size := by have := (hq q hm).2; omega
        have hx2 := R.hi k q (Nat.le_refl _) hqk
        rw [hi] at hx2
        have hzz := R.zat.z
        refine zd_end (st := st) hh (hd hqk) hx2 (fun e h2 sb => ?_) fun e h2 er sb he => ?_
        · -- strict: the first one is at its end, so all are
          subst e
          have hk0 : k = 0 := by
            by_cases z0 : k = 0
            · exact z0
            · obtain ⟨p, hp'⟩ : ∃ p, qs[0]? = some p := ⟨qs[0], by simp⟩
              have := hos 0 p (by omega) hp'
              have := hall rfl p (List.mem_of_getElem? hp')
              omega
          subst hk0
          have hz2 : h2.get? z = some (ZObj .ellipsis f1 true TI TO) := sb _ _ (S.it q hm).1.symm hzz
          refine wpAny_bind (wpAny_setField_rec (s := ⟨h2, g, d, tk, os0⟩) hz2 (by simp) fun h3 hz3 sb3 => ?_)
          have rest : ∀ {j : Nat} {p : Sr}, 0 + 1 ≤ j → qs[j]? = some p → p.At i h3 := fun {j p} hj hp' => (R.hi j p (Nat.zero_le _) hp').keep fun c hc o e => by
            have hm' := List.mem_of_getElem? hp'
            rcases hc with rfl | rfl
            · exact sb3.extBut _ _ (S.it p hm').1 (sb _ _ (S.off hp' hqk (by omega)) e)
            · exact sb3.extBut _ _ (S.a p hm').1 (sb _ _ (S.ia p hm' q hm) e)
          refine wpAny_bind ?_
          show wpAny _ _ (bind (forIn _ _ _) _) _ _ _
          refine wpAny_bind (wp_forIn (fun k b s' => ∃ h' tk, s' = ⟨h', g, d, tk, os0⟩ ∧ ZOther z TO qs hp h' ∧ ∀ (j : Nat) (p : Sr), k + 1 ≤ j → qs[j]? = some p → p.At i h') _ _ 0 rfl (Nat.zero_le _) ⟨_, _, rfl, ((R.ot.trans (other hqk sb)).trans fun c o c1 _ _ e => sb3.extBut _ _ c1 e), fun j p hj hp' => rest hj hp'⟩ ?_ ?_)
          · rintro k x b s' hx ⟨h4, tk4, rfl, ho4, hr4⟩
            obtain ⟨p, hpk, rfl⟩ := idx_from hx
            have hz4 := hr4 (k + 1) p (Nat.le_refl _) hpk
            have hi4 := hall rfl p (List.mem_of_getElem? hpk)
            rw [← hi4] at hz4
            refine wpAny_bind (nx_end (s := ⟨h4, g, d, tk4, os0⟩) hh (hd hpk) hz4 fun h5 sb5 => ?_)
            refine wpAny_pure ⟨h5, tk4, rfl, ho4.trans (other hpk sb5), fun j p' hj hp5 => (hr4 j p' (by omega) hp5).keep fun c hc o e => sb5 _ _ ?_ e⟩
            rcases hc with rfl | rfl
            · exact S.off hp5 hpk (by omega)
            · exact S.ia p' (List.mem_of_getElem? hp5) p (List.mem_of_getElem? hpk)
          · rintro b s' ⟨h4, tk4, rfl, ho4, hr4⟩
            refine wpAny_bind (wpAny_rule ?_)
            exact st_end (s := ⟨h4, g, d, tk4, os0⟩) hh fun h5 er k5 he => hE h5 tk4 er (ho4.trans fun c o _ _ _ e => k5 c o e) he
        · have hz2 : h2.get? z = some (ZObj .ellipsis f1 st TI TO) := sb _ _ (S.it q hm).1.symm hzz
          refine wpAny_setField_rec (s := ⟨h2, g, d, tk, os0⟩) hz2 (by simp) fun h3 hz3 sb3 => ?_
          obtain ⟨oe, hoe, hce⟩ := he
          replace hoe : h2.get? er = some oe := hoe
          have hez : er ≠ z := fun x => by subst x; rw [hz2] at hoe; cases hoe; simp at hce
          exact hE h3 tk er ((R.ot.trans (other hqk sb)).trans fun c o c1 _ _ e => sb3.extBut _ _ c1 e) ⟨oe, sb3.extBut _ _ hez hoe, hce⟩
    · rintro b s' ⟨rfl, h', tk, os, rfl, R, ho, hz, hos⟩
      obtain ⟨q, hm, he⟩ := hend
      obtain ⟨j, hj⟩ := List.getElem?_of_mem hm
      have := hos j q (by simpa using (List.getElem?_eq_some_iff.mp hj).1) hj
      omega
  · rw [if_neg Bool.false_ne_true]
    rw [← Array.forIn_toList]
    refine wpAny_bind ?_
    refine wp_forIn (fun k b s' => ∃ vs h' tk, b = ⟨none, vs⟩ ∧ s' = ⟨h', g, d, tk, os0⟩ ∧ ZRun z TI TO st qs f0 (.bool true) i k hp h' ∧ vs.size = k ∧ ∀ (j : Nat) (q : Sr), j < k → qs[j]? = some q → i < q.its.size) _ _ 0 rfl (Nat.zero_le _) ?_ ?_ ?_
    · exact ⟨#[], h1, tk0, rfl, rfl, R1, rfl, fun j q hj => absurd hj (Nat.not_lt_zero _)⟩
    · rintro k x b s' hx ⟨vs, h', tk, rfl, rfl, R, hz, hos⟩
      obtain ⟨q, hqk, rfl⟩ : ∃ q, qs[k]? = some q ∧ x = .ref q.it := by
        have hx : (qs.map fun q => Value.ref q.it)[k]? = some x := by simpa using hx
        rw [List.getElem?_map] at hx
        obtain ⟨q, h1, h2⟩ := Option.map_eq_some_iff.mp hx
        exact ⟨q, h1, h2.symm⟩
      have hm := List.mem_of_getElem? hqk
      have hkl : k < qs.length := (List.getElem?_eq_some_iff.mp hqk).1
      refine wpAny_bind (wpAny_holding ?_)
      simp only [hst]
      by_cases hlt : i < q.its.size
      · refine zd_item (st := st) hh (hd hqk) (R.hi k q (Nat.le_refl _) hqk) (v := q.its[i]) (by simp [hlt]) fun h2 tk2 hn sb => ?_
        refine wpAny_pure ⟨vs.push q.its[i], h2, tk2, rfl, rfl, R.draw S hqk hn sb, by simp [hz], fun j p hj hp' => ?_⟩
        by_cases e : j = k
        · subst e
          rw [hqk] at hp'
          cases hp'
          exact hlt
        · exact hos j p (by omega) hp'
      · have hi : i = q.its.size := by have := (hq q hm).2; omega
        have hx2 := R.hi k q (Nat.le_refl _) hqk
        rw [hi] at hx2
        refine zd_end (st := st) hh (hd hqk) hx2 (fun e h3 sb => ?_) fun e h2 er sb he => hE h2 tk er (R.ot.trans (other hqk sb)) he
        · subst e
          have hk0 : k = 0 := by
            by_cases z0 : k = 0
            · exact z0
            · obtain ⟨p, hp'⟩ : ∃ p, qs[0]? = some p := ⟨qs[0], by simp⟩
              have := hos 0 p (by omega) hp'
              have := hall rfl p (List.mem_of_getElem? hp')
              omega
          subst hk0
          have hvs : vs = #[] := Array.eq_empty_of_size_eq_zero hz
          subst hvs
          have rest : ∀ {j : Nat} {p : Sr}, 0 + 1 ≤ j → qs[j]? = some p → p.At i h3 := fun {j p} hj hp' => (R.hi j p (Nat.zero_le _) hp').keep fun c hc o e => by
            have hm' := List.mem_of_getElem? hp'
            rcases hc with rfl | rfl
            · exact sb _ _ (S.off hp' hqk (by omega)) e
            · exact sb _ _ (S.ia p hm' q hm) e
          refine wpAny_bind ?_
          show wpAny _ _ (bind (forIn _ _ _) _) _ _ _
          refine wpAny_bind (wp_forIn (fun k b s' => ∃ h' tk, s' = ⟨h', g, d, tk, os0⟩ ∧ ZOther z TO qs hp h' ∧ ∀ (j : Nat) (p : Sr), k + 1 ≤ j → qs[j]? = some p → p.At i h') _ _ 0 rfl (Nat.zero_le _) ⟨_, _, rfl, (R.ot.trans (other hqk sb)), fun j p hj hp' => rest hj hp'⟩ ?_ ?_)
          · rintro k x b s' hx ⟨h4, tk4, rfl, ho4, hr4⟩
            obtain ⟨p, hpk, rfl⟩ := idx_from hx
            have hz4 := hr4 (k + 1) p (Nat.le_refl _) hpk
            have hi4 := hall rfl p (List.mem_of_getElem? hpk)
            rw [← hi4] at hz4
            refine wpAny_bind (nx_end (s := ⟨h4, g, d, tk4, os0⟩) hh (hd hpk) hz4 fun h5 sb5 => ?_)
            refine wpAny_pure ⟨h5, tk4, rfl, ho4.trans (other hpk sb5), fun j p' hj hp5 => (hr4 j p' (by omega) hp5).keep fun c hc o e => sb5 _ _ ?_ e⟩
            rcases hc with rfl | rfl
            · exact S.off hp5 hpk (by omega)
            · exact S.ia p' (List.mem_of_getElem? hp5) p (List.mem_of_getElem? hpk)
          · rintro b s' ⟨h4, tk4, rfl, ho4, hr4⟩
            refine wpAny_bind (wpAny_rule ?_)
            exact st_end (s := ⟨h4, g, d, tk4, os0⟩) hh fun h5 er k5 he => hE h5 tk4 er (ho4.trans fun c o _ _ _ e => k5 c o e) he
    · rintro b s' ⟨vs, h', tk, rfl, rfl, R, hz, hos⟩
      obtain ⟨q, hm, he⟩ := hend
      obtain ⟨j, hj⟩ := List.getElem?_of_mem hm
      have := hos j q (by simpa using (List.getElem?_eq_some_iff.mp hj).1) hj
      omega
end
end Ev

/-! enumerate(zip(..)) -/
namespace Ev
open PySem PySem.Spec PyProof.Rows L2
section
variable {prog : Program} {w : World} {A : Around} {E : Value → Shared → Prop} {s : Shared}
theorem zn_item {z TI TO : Addr} {st : Bool} {qs : List Sr} {f0 f1 : Value} {i : Nat} {Q : Value → Shared → Prop} (hh : A.handled = none) (S : ZSep z TI TO qs) (hne : qs ≠ []) (hfew : qs.length ≤ 16) (Z : ZAt z TI TO st qs f0 f1 s.heap) (hf : OutF f0) (hq : ∀ q ∈ qs, q.At i s.heap ∧ i < q.its.size)
    (hQ : ∀ T vals h' tk, T = s.heap.objs.size → ZNew z TI TO st qs i s.heap T vals h' → Q (.ref T) { s with heap := h', toks := tk }) :
    wpAny (model prog w) A (Builtin.SmallTypes.nextOf (.ref z)) Q E s := by
  have hT : s.TypeIs (.ref z) "zip" := ⟨_, Z.z, rfl⟩
  unfold Builtin.SmallTypes.nextOf
  exact wpAny_bind (wpAny_callSpecial?_slot (name := Str.ofString "__next__") hT F.slot_zip_next
    (wpAny_call_entry F.slot_zip_next hT F.entry_zip_next (zs_item (A := A.in1) hh S hne hfew Z hf hq fun T vals h' tk e n => wpAny_pure (hQ T vals h' tk e n)) (F.args_zip_next_1 _)))
theorem zn_end {z TI TO : Addr} {st : Bool} {qs : List Sr} {f0 f1 : Value} {i : Nat} {Q : Value → Shared → Prop} (hh : A.handled = none) (S : ZSep z TI TO qs) (hfew : qs.length ≤ 16) (Z : ZAt z TI TO st qs f0 f1 s.heap) (hf : OutF f0) (hq : ∀ q ∈ qs, q.At i s.heap ∧ i ≤ q.its.size) (hend : ∃ q ∈ qs, q.its.size = i) (hall : st = true → ∀ q ∈ qs, q.its.size = i)
    (hE : ∀ h' tk e, ZOther z TO qs s.heap h' → (∃ o, h'.get? e = some o ∧ o.cls = .type "StopIteration") → E (.ref e) { s with heap := h', toks := tk }) :
    wpAny (model prog w) A (Builtin.SmallTypes.nextOf (.ref z)) Q E s := by
  have hT : s.TypeIs (.ref z) "zip" := ⟨_, Z.z, rfl⟩
  unfold Builtin.SmallTypes.nextOf
  exact wpAny_bind (wpAny_callSpecial?_slot (name := Str.ofString "__next__") hT F.slot_zip_next
    (wpAny_call_entry F.slot_zip_next hT F.entry_zip_next (zs_end (A := A.in1) hh S hfew Z hf hq hend hall fun h' tk e a b => hE h' tk e a b) (F.args_zip_next_1 _)))
/-- the cells of an enumerate over a zip -/
structure EZ (e z TI TO : Addr) (st : Bool) (qs : List Sr) (i : Nat) (h : Heap) : Prop where
  en : ∃ old, IsEnum h e z (i : Int) old
  zi : ∃ f0 f1, ZAt z TI TO st qs f0 f1 h ∧ OutF f0
  at_ : ∀ q ∈ qs, q.At i h
structure ESep (e z TI TO : Addr) (qs : List Sr) : Prop where
  s : ZSep z TI TO qs
  ne : qs ≠ []
  few : qs.length ≤ 16
  z : e ≠ z
  ti : e ≠ TI
  to : e ≠ TO
  it : ∀ q ∈ qs, e ≠ q.it
  a : ∀ q ∈ qs, e ≠ q.a
theorem zat_keep {z TI TO : Addr} {st : Bool} {qs : List Sr} {f0 f1 : Value} {h h' : Heap} (Z : ZAt z TI TO st qs f0 f1 h) (k : ∀ c, c = z ∨ c = TI ∨ c = TO → ∀ o, h.get? c = some o → h'.get? c = some o) : ZAt z TI TO st qs f0 f1 h' := by
  obtain ⟨os, ho, hz⟩ := Z.to
  exact ⟨k z (.inl rfl) _ Z.z, k TI (.inr (.inl rfl)) _ Z.ti, os, k TO (.inr (.inr rfl)) _ ho, hz⟩
theorem ez_item {e z TI TO : Addr} {st : Bool} {qs : List Sr} {i : Nat} {Q : Option Value → Shared → Prop} (hh : A.handled = none) (S : ESep e z TI TO qs) (Z : EZ e z TI TO st qs i s.heap) (hlt : ∀ q ∈ qs, i < q.its.size)
    (hQ : ∀ T0 T vals h' tk t, T0 = s.heap.objs.size → T = s.heap.objs.size + 1 → (∃ x, IsEnumOut h' e z ((i : Int) + 1) x T) → (∃ f0 f1, ZAt z TI TO st qs f0 f1 h' ∧ OutF f0) → (∀ q ∈ qs, q.At (i + 1) h') →
      vals.size = qs.length → (∀ (j : Nat) (q : Sr), qs[j]? = some q → vals[j]? = q.its[i]?) → h'.get? T0 = some (TObj vals) → h'.get? T = some (TObj #[.int (i : Int) t, .ref T0]) →
      (∀ c o, c ≠ e → c ≠ z → c ≠ TO → (∀ q ∈ qs, c ≠ q.it) → s.heap.get? c = some o → h'.get? c = some o) → Q (some (.ref T)) { s with heap := h', toks := tk }) :
    wpAny (model prog w) A (pyNext (.ref e)) Q E s := by
  obtain ⟨hp, g, d, tk₀, os⟩ := s
  obtain ⟨old, he⟩ := Z.en
  obtain ⟨f0, f1, Zz, hf⟩ := Z.zi
  have hT : Shared.TypeIs ⟨hp, g, d, tk₀, os⟩ (.ref e) "enumerate" := ⟨_, he, rfl⟩
  unfold pyNext
  refine wpAny_bind (wpAny_attempt (wpAny_callSpecial?_slot (name := Str.ofString "__next__") hT F.slot_enumerate_next
    (wpAny_call_entry F.slot_enumerate_next hT F.entry_enumerate_next ?_ (F.args_enumerate_next_1 _))))
  show wpAny _ _ (field (.ref e) 2 >>= _) _ _ _
  refine wpAny_bind (wpAny_field he rfl (x := .ref z) rfl ?_)
  refine wpAny_bind (zn_item hh S.s S.ne S.few Zz hf (fun q hm => ⟨Z.at_ q hm, hlt q hm⟩) fun T0 vals h₁ tk eT N => ?_)
  replace eT : T0 = hp.objs.size := eT
  have hel : e < hp.objs.size := Heap.lt_size he
  have he₁ : IsEnum h₁ e z (i : Int) old := N.ot _ _ S.z S.to S.it he
  show wpAny _ _ (field (.ref e) 3 >>= _) _ _ ⟨h₁, g, d, tk, os⟩
  refine wpAny_bind (wpAny_field he₁ rfl (x := rawInt (i : Int)) rfl ?_)
  show wpAny _ _ (field (.ref e) 4 >>= _) _ _ ⟨h₁, g, d, tk, os⟩
  refine wpAny_bind (wpAny_field he₁ rfl (x := .none) rfl ?_)
  show wpAny _ _ (mkInt (i : Int) >>= _) _ _ ⟨h₁, g, d, tk, os⟩
  refine wpAny_bind (wpAny_mkInt ?_)
  show wpAny _ _ (setField (.ref e) 3 (rawInt ((i : Int) + 1)) >>= _) _ _ ⟨h₁, g, d, tk + 1, os⟩
  refine wpAny_bind (wpAny_setField_rec he₁ (by simp) fun h₂ he₂ hs₂ => ?_)
  replace hs₂ : Heap.SameBut e h₁ h₂ := hs₂
  replace he₂ : IsEnum h₂ e z ((i : Int) + 1) old := he₂
  show wpAny _ _ (setField (.ref e) 4 .none >>= _) _ _ ⟨h₂, g, d, tk + 1, os⟩
  refine wpAny_bind (wpAny_setField_rec he₂ (by simp) fun h₃ he₃ hs₃ => ?_)
  replace hs₃ : Heap.SameBut e h₂ h₃ := hs₃
  replace he₃ : IsEnum h₃ e z ((i : Int) + 1) old := he₃
  show wpAny _ _ (newTuple [.int (i : Int) tk, .ref T0] >>= _) _ _ ⟨h₃, g, d, tk + 1, os⟩
  refine wpAny_bind (wpAny_newTuple ?_)
  have hsz : h₃.objs.size = hp.objs.size + 1 := by rw [hs₃.1, hs₂.1]; exact N.sz
  have he₄ : IsEnum (h₃.push (TObj #[.int (i : Int) tk, .ref T0])) e z ((i : Int) + 1) old := Heap.get?_push_of_some _ he₃
  show wpAny _ _ (Builtin.SmallTypes.ownedTupleIsFree (.ref e) >>= _) _ _ ⟨h₃.push (TObj #[.int (i : Int) tk, .ref T0]), g, d, tk + 1, os⟩
  generalize hh₄ : h₃.push (TObj #[.int (i : Int) tk, .ref T0]) = h₄ at he₄
  have ht₄ : h₄.get? (hp.objs.size + 1) = some (TObj #[.int (i : Int) tk, .ref T0]) := by rw [← hh₄, ← hsz]; exact Heap.get?_push_size _ rfl
  have k14 : ∀ c o, c ≠ e → h₁.get? c = some o → h₄.get? c = some o := fun c o hc y => by
    rw [← hh₄]; exact Heap.get?_push_of_some _ (hs₃.extBut c o hc (hs₂.extBut c o hc y))
  rw [hsz]
  refine wpAny_bind ?_
  unfold Builtin.SmallTypes.ownedTupleIsFree
  refine wpAny_bind (wpAny_field he₄ rfl (x := .none) rfl (wpAny_pure ?_))
  simp only [if_true]
  refine wpAny_bind (wpAny_rule ?_)
  refine wpAny_bind (wpAny_field he₄ rfl (x := old) rfl ?_)
  refine wpAny_bind (wpAny_setField_rec he₄ (by simp) fun h₅ he₅ hs₅ => ?_)
  replace hs₅ : Heap.SameBut e h₄ h₅ := hs₅
  replace he₅ : IsEnum h₅ e z ((i : Int) + 1) (.ref T0) := he₅
  show wpAny _ _ (Builtin.SmallTypes.ownedTupleHandOut (.ref e) (.ref (hp.objs.size + 1)) >>= _) _ _ ⟨h₅, g, d, tk + 1, os⟩
  refine wpAny_bind ?_
  unfold Builtin.SmallTypes.ownedTupleHandOut
  refine wpAny_bind (wpAny_setField_rec he₅ (by simp) fun h₆ he₆ hs₆ => ?_)
  replace hs₆ : Heap.SameBut e h₅ h₆ := hs₆
  replace he₆ : IsEnumOut h₆ e z ((i : Int) + 1) (.ref T0) (hp.objs.size + 1) := he₆
  refine wpAny_setField_rec he₆ (by simp) fun h₇ he₇ hs₇ => ?_
  replace hs₇ : Heap.SameBut e h₆ h₇ := hs₇
  replace he₇ : IsEnumOut h₇ e z ((i : Int) + 1) (.ref T0) (hp.objs.size + 1) := he₇
  have k17 : ∀ c o, c ≠ e → h₁.get? c = some o → h₇.get? c = some o := fun c o hc y => hs₇.extBut c o hc (hs₆.extBut c o hc (hs₅.extBut c o hc (k14 c o hc y)))
  have hne1 : hp.objs.size + 1 ≠ e := Nat.ne_of_gt (Nat.lt_succ_of_lt hel)
  obtain ⟨g0, g1, Z1, hf1⟩ := N.out
  refine wpAny_bind (wpAny_letGo (wpAny_pure ⟨_, rfl, ?_⟩))
  refine wpAny_pure (hQ T0 (hp.objs.size + 1) vals h₇ (tk + 1) tk eT rfl ⟨_, he₇⟩ ⟨g0, g1, zat_keep Z1 fun c hc o y => k17 c o ?_ y, hf1⟩ (fun q hm => (N.nx q hm).keep fun c hc o y => k17 c o ?_ y) N.vs.1 N.vs.2 (k17 _ _ (by rw [eT]; exact Nat.ne_of_gt hel) N.new) (hs₇.extBut _ _ hne1 (hs₆.extBut _ _ hne1 (hs₅.extBut _ _ hne1 ht₄))) fun c o c1 c2 c3 c4 y => k17 c o c1 (N.ot c o c2 c3 c4 y))
  · rcases hc with rfl | rfl | rfl
    · exact S.z.symm
    · exact S.ti.symm
    · exact S.to.symm
  · rcases hc with rfl | rfl
    · exact (S.it q hm).symm
    · exact (S.a q hm).symm
theorem ez_end {e z TI TO : Addr} {st : Bool} {qs : List Sr} {i : Nat} {Q : Option Value → Shared → Prop} (hh : A.handled = none) (S : ESep e z TI TO qs) (Z : EZ e z TI TO st qs i s.heap) (hle : ∀ q ∈ qs, i ≤ q.its.size) (hend : ∃ q ∈ qs, q.its.size = i) (hall : st = true → ∀ q ∈ qs, q.its.size = i)
    (hQ : ∀ h' tk, (∀ c o, c ≠ z → c ≠ TO → (∀ q ∈ qs, c ≠ q.it) → s.heap.get? c = some o → h'.get? c = some o) → Q none { s with heap := h', toks := tk }) :
    wpAny (model prog w) A (pyNext (.ref e)) Q E s := by
  obtain ⟨old, he⟩ := Z.en
  obtain ⟨f0, f1, Zz, hf⟩ := Z.zi
  have hT : s.TypeIs (.ref e) "enumerate" := ⟨_, he, rfl⟩
  unfold pyNext
  refine wpAny_bind (wpAny_attempt (wpAny_callSpecial?_slot (name := Str.ofString "__next__") hT F.slot_enumerate_next
    (wpAny_call_entry F.slot_enumerate_next hT F.entry_enumerate_next ?_ (F.args_enumerate_next_1 _))))
  show wpAny _ _ (field (.ref e) 2 >>= _) _ _ _
  refine wpAny_bind (wpAny_field he rfl (x := .ref z) rfl ?_)
  refine wpAny_bind (zn_end hh S.s S.few Zz hf (fun q hm => ⟨Z.at_ q hm, hle q hm⟩) hend hall fun h' tk er ho hx' => ?_)
  obtain ⟨o, ho', hc⟩ := hx'
  refine wpAny_bind (wpAny_isInstance (T := "StopIteration") (b := true) ⟨o, ho', hc⟩ isSubtype_stop ?_)
  exact wpAny_pure (hQ _ _ ho)
end
theorem push_back {h : Heap} {ob o : Obj} {b : Addr} (e : (h.push ob).get? b = some o) (ne : b ≠ h.objs.size) : h.get? b = some o := by
  obtain ⟨e1, e2⟩ := Heap.get?_some_iff.mp e
  refine Heap.get?_some_iff.mpr ⟨?_, e2⟩
  cases h
  simpa [Heap.push, Array.getElem?_push, ne] using e1
/-- at turn i two new tuples: the inner one of xs, the outer one of the number and it -/
def Jz (n : Nat) (G : Hp → Prop) (R : Nat → List V → Prop) : It :=
  ⟨fun i H => i < n ∧ G H, fun i H v H' => ∃ T0 T xs, v = .ref T ∧ H T0 = none ∧ H T = none ∧ T0 ≠ T ∧ H' = upd (upd H T0 (.tup xs)) T (.tup [.int (i : Nat), .ref T0]) ∧ R i xs, fun i H => i = n ∧ G H⟩
theorem turn_ez {P : Program} {W : World} {K : PySem.W.Frag} {elts : List Expr} {kk : Nat} {tpos : Pos} {b1 b2 : Bool} {a1 a2 e z TI TO i1 i2 : Addr} {xs ys : List V}
    (S : ∀ (its jts : Array Value), ESep e z TI TO [⟨b1, i1, a1, its⟩, ⟨b2, i2, a2, jts⟩]) :
    Turn P W K (.Tuple elts kk tpos) (Jz (min xs.length ys.length) (fun H => Src K b1 H a1 xs ∧ Src K b2 H a2 ys) (fun i vs => ∃ x y, xs[i]? = some x ∧ ys[i]? = some y ∧ vs = [x, y])) [e, z, TI, TO, i1, i2] e
      (fun i h => (∃ old, IsEnum h e z (i : Int) old) ∧ (∃ f0 f1, ZAt z TI TO false [⟨b1, i1, a1, #[]⟩, ⟨b2, i2, a2, #[]⟩] f0 f1 h ∧ OutF f0) ∧ itH b1 h i1 a1 i ∧ itH b2 h i2 a2 i) where
  mem := by simp
  obj := fun i h st c hc => by
    obtain ⟨⟨old, he⟩, ⟨f0, f1, Z, _⟩, t1, t2⟩ := st
    obtain ⟨os, ho, _⟩ := Z.to
    have hc : c = e ∨ c = z ∨ c = TI ∨ c = TO ∨ c = i1 ∨ c = i2 := by simpa using hc
    rcases hc with rfl | rfl | rfl | rfl | rfl | rfl
    · exact ⟨_, he, fun v z => nomatch z⟩
    · exact ⟨_, Z.z, fun v z => nomatch z⟩
    · exact ⟨_, Z.ti, fun v z => nomatch z⟩
    · exact ⟨_, ho, fun v z => nomatch z⟩
    · exact it_obj t1
    · exact it_obj t2
  keep := fun i h h' st k => by
    obtain ⟨⟨old, he⟩, ⟨f0, f1, Z, hf⟩, t1, t2⟩ := st
    refine ⟨⟨old, k e (by simp) _ he⟩, ⟨f0, f1, zat_keep Z fun c hc o y => k c ?_ o y, hf⟩, it_keep t1 fun o q => k i1 (by simp) o q, it_keep t2 fun o q => k i2 (by simp) o q⟩
    rcases hc with rfl | rfl | rfl <;> simp
  item := by
    intro X hP hW hK hc i pins s si H E I hf st hg
    subst hP hW hK
    obtain ⟨hi, hG1, hG2⟩ := hg
    obtain ⟨⟨old, he⟩, ⟨f0, f1, Z, hof⟩, t1, t2⟩ := st
    obtain ⟨its, rv, hs⟩ := src_h I hG1
    obtain ⟨jts, rw_, ht⟩ := src_h I hG2
    have S := S its.toArray jts.toArray
    have Z' : ZAt z TI TO false [⟨b1, i1, a1, its.toArray⟩, ⟨b2, i2, a2, jts.toArray⟩] f0 f1 s.heap := ⟨Z.z, Z.ti, Z.to⟩
    have l1 : i < xs.length := by omega
    have l2 : i < ys.length := by omega
    refine ez_item (I.ok.hd hc) S ⟨⟨old, he⟩, ⟨f0, f1, Z', hof⟩, fun q hm => ?_⟩ (fun q hm => ?_) fun T0 T vals h' tk t eT0 eT hE hZ hA hvz hv hT0 hT hk => ?_
    · have hm : q = ⟨b1, i1, a1, its.toArray⟩ ∨ q = ⟨b2, i2, a2, jts.toArray⟩ := by simpa using hm
      rcases hm with rfl | rfl
      · exact ⟨t1, hs⟩
      · exact ⟨t2, ht⟩
    · have hm : q = ⟨b1, i1, a1, its.toArray⟩ ∨ q = ⟨b2, i2, a2, jts.toArray⟩ := by simpa using hm
      rcases hm with rfl | rfl
      · show i < its.toArray.size
        rw [List.size_toArray, ← rv.length]; exact l1
      · show i < jts.toArray.size
        rw [List.size_toArray, ← rw_.length]; exact l2
    obtain ⟨xo, ho⟩ := hE
    refine ⟨_, rfl, wpAny_letOwnedTupleGo_enum ho fun h2 he2 sb2 => ?_⟩
    have elt : e < s.heap.objs.size := Heap.lt_size he
    have hT0e : T0 ≠ e := by rw [eT0]; exact Nat.ne_of_gt elt
    have hTe : T ≠ e := by rw [eT]; exact Nat.ne_of_gt (Nat.lt_succ_of_lt elt)
    have k2 : ∀ b o, b ∉ [e, z, TI, TO, i1, i2] → s.heap.get? b = some o → h2.get? b = some o := fun b o hb y => by
      have hb : b ≠ e ∧ b ≠ z ∧ b ≠ TI ∧ b ≠ TO ∧ b ≠ i1 ∧ b ≠ i2 := by simpa [not_or] using hb
      obtain ⟨n1, n2, n3, n4, n5, n6⟩ := hb
      refine sb2.extBut _ _ n1 (hk b o n1 n2 n4 (fun q hm => ?_) y)
      have hm : q = ⟨b1, i1, a1, its.toArray⟩ ∨ q = ⟨b2, i2, a2, jts.toArray⟩ := by simpa using hm
      rcases hm with rfl | rfl
      · exact n5
      · exact n6
    have g0 : h2.get? T0 = some (TObj vals) := sb2.extBut _ _ hT0e hT0
    have g1 : h2.get? T = some (TObj #[.int (i : Int) t, .ref T0]) := sb2.extBut _ _ hTe hT
    obtain ⟨u, hu, ru⟩ := rv.get (show xs[i]? = some xs[i] by simp [l1])
    obtain ⟨v, hv', rv'⟩ := rw_.get (show ys[i]? = some ys[i] by simp [l2])
    have v0 : vals[0]? = some u := by
      rw [hv 0 ⟨b1, i1, a1, its.toArray⟩ rfl]; simpa using hu
    have v1 : vals[1]? = some v := by
      rw [hv 1 ⟨b2, i2, a2, jts.toArray⟩ rfl]; simpa using hv'
    have ev : vals = #[u, v] := by
      apply Array.ext'
      apply List.ext_getElem?
      intro j
      rcases j with _ | _ | j
      · simpa using v0
      · simpa using v1
      · rw [List.getElem?_eq_none (by simp [hvz]), List.getElem?_eq_none (by simp)]
    subst ev
    have sz1 : s.heap.objs.size ≤ T0 := Nat.le_of_eq eT0.symm
    have sz2 : s.heap.objs.size ≤ T := by rw [eT]; exact Nat.le_succ _
    have n0 : H T0 = none := I.hok.fresh sz1
    have n1 : H T = none := I.hok.fresh sz2
    have neT : T0 ≠ T := by rw [eT0, eT]; exact Nat.ne_of_lt (Nat.lt_succ_self _)
    have new0 : ObjOk X.prog X.w (upd H T0 (.tup [xs[i], ys[i]])) h2 T0 (.tup [xs[i], ys[i]]) := ⟨by show 2 ≤ sizeLine; rw [size_line]; decide, [u, v], .cons ru (.cons rv' .nil), _, g0, rfl, _, rfl⟩
    have I2 : L2.Inv X pins si (upd H T0 (.tup [xs[i], ys[i]])) { s with heap := h2, toks := tk } := I.turnedNew (ch := [e, z, TI, TO, i1, i2]) k2 hf sz1 new0
    have new1 : ObjOk X.prog X.w (upd (upd H T0 (.tup [xs[i], ys[i]])) T (.tup [.int (i : Nat), .ref T0])) h2 T (.tup [.int (i : Nat), .ref T0]) := ⟨by show 2 ≤ sizeLine; rw [size_line]; decide, [.int (i : Int) t, .ref T0], .cons ⟨t, rfl⟩ (.cons rfl .nil), _, g1, rfl, _, rfl⟩
    have inF : ∀ b ∈ [e, z, TI, TO, i1, i2], b < s.heap.objs.size := fun b hb => by
      obtain ⟨os, ho', _⟩ := Z.to
      have hb : b = e ∨ b = z ∨ b = TI ∨ b = TO ∨ b = i1 ∨ b = i2 := by simpa using hb
      rcases hb with rfl | rfl | rfl | rfl | rfl | rfl
      · exact elt
      · exact Heap.lt_size Z.z
      · exact Heap.lt_size Z.ti
      · exact Heap.lt_size ho'
      · obtain ⟨o, y, _⟩ := it_obj t1; exact Heap.lt_size y
      · obtain ⟨o, y, _⟩ := it_obj t2; exact Heap.lt_size y
    have n1' : (upd H T0 (.tup [xs[i], ys[i]])) T = none := by rw [upd_ne neT.symm]; exact n1
    have I3 : L2.Inv X pins si (upd (upd H T0 (.tup [xs[i], ys[i]])) T (.tup [.int (i : Nat), .ref T0])) { s with heap := h2, toks := tk } := by
      have zm : (s.heap.push (TObj #[u, v])).objs.size = s.heap.objs.size + 1 := Heap.size_push ..
      have gm : (s.heap.push (TObj #[u, v])).get? T0 = some (TObj #[u, v]) := by rw [eT0]; exact Heap.get?_push_size _ rfl
      have newm : ObjOk X.prog X.w (upd H T0 (.tup [xs[i], ys[i]])) (s.heap.push (TObj #[u, v])) T0 (.tup [xs[i], ys[i]]) := ⟨by show 2 ≤ sizeLine; rw [size_line]; decide, [u, v], .cons ru (.cons rv' .nil), _, gm, rfl, _, rfl⟩
      have Im : L2.Inv X pins si (upd H T0 (.tup [xs[i], ys[i]])) { s with heap := s.heap.push (TObj #[u, v]), toks := s.toks } := I.laid (fun b o y => Heap.get?_push_of_some _ y) sz1 newm
      refine Im.turnedNew (ch := [e, z, TI, TO, i1, i2]) (fun b o hb y => ?_) (fun b hb => ⟨?_, (hf b hb).2⟩) ?_ new1
      · by_cases hbT : b = T0
        · subst hbT
          have y : (s.heap.push (TObj #[u, v])).get? b = some o := y
          rw [gm] at y
          cases y
          exact g0
        · refine k2 b o hb ?_
          exact push_back y fun z => hbT (z.trans eT0.symm)
      · rw [upd_ne]
        · exact (hf b hb).1
        · rintro rfl
          have := inF b hb
          rw [eT0] at this
          exact absurd this (Nat.lt_irrefl _)
      · show (s.heap.push (TObj #[u, v])).objs.size ≤ T
        rw [zm, eT]
        exact Nat.le_refl _
    refine ⟨.ref T, _, I3, rfl, ⟨T0, T, _, rfl, n0, n1, neT, rfl, xs[i], ys[i], by simp [l1], by simp [l2], rfl⟩, ?_, fun b hb => ?_⟩
    · obtain ⟨g0', g1', Z1, hf1⟩ := hZ
      have h1 := hA ⟨b1, i1, a1, its.toArray⟩ (by simp)
      have h2' := hA ⟨b2, i2, a2, jts.toArray⟩ (by simp)
      refine ⟨⟨xo, ?_⟩, ⟨g0', g1', ?_, hf1⟩, it_keep h1.1 fun o y => sb2.extBut _ _ (S.it ⟨b1, i1, a1, its.toArray⟩ (by simp)).symm y, it_keep h2'.1 fun o y => sb2.extBut _ _ (S.it ⟨b2, i2, a2, jts.toArray⟩ (by simp)).symm y⟩
      · show IsEnum h2 e z ((i + 1 : Nat) : Int) xo
        have e1 : ((i + 1 : Nat) : Int) = (i : Int) + 1 := by omega
        rw [e1]
        exact he2
      · have Z2 : ZAt z TI TO false [⟨b1, i1, a1, #[]⟩, ⟨b2, i2, a2, #[]⟩] g0' g1' h' := ⟨Z1.z, Z1.ti, Z1.to⟩
        refine zat_keep Z2 fun c hc o y => sb2.extBut _ _ ?_ y
        rcases hc with rfl | rfl | rfl
        · exact S.z.symm
        · exact S.ti.symm
        · exact S.to.symm
    · have lt := inF b hb
      rw [upd_ne, upd_ne]
      · exact (hf b hb).1
      · rintro rfl; rw [eT0] at lt; exact absurd lt (Nat.lt_irrefl _)
      · rintro rfl; rw [eT] at lt; exact absurd lt (Nat.not_lt.mpr (Nat.le_succ _))
  done := by
    intro X hP hW hK hc i pins s si H E I hf st hg
    subst hP hW hK
    obtain ⟨hi, hG1, hG2⟩ := hg
    obtain ⟨⟨old, he⟩, ⟨f0, f1, Z, hof⟩, t1, t2⟩ := st
    obtain ⟨its, rv, hs⟩ := src_h I hG1
    obtain ⟨jts, rw_, ht⟩ := src_h I hG2
    have S := S its.toArray jts.toArray
    have Z' : ZAt z TI TO false [⟨b1, i1, a1, its.toArray⟩, ⟨b2, i2, a2, jts.toArray⟩] f0 f1 s.heap := ⟨Z.z, Z.ti, Z.to⟩
    have l1 := rv.length
    have l2 := rw_.length
    refine ez_end (I.ok.hd hc) S ⟨⟨old, he⟩, ⟨f0, f1, Z', hof⟩, fun q hm => ?_⟩ (fun q hm => ?_) ?_ (fun e => by cases e) fun h' tk hk => ⟨rfl, I.turnedL (ch := [e, z, TI, TO, i1, i2]) (fun b o hb y => ?_) hf⟩
    · have hm : q = ⟨b1, i1, a1, its.toArray⟩ ∨ q = ⟨b2, i2, a2, jts.toArray⟩ := by simpa using hm
      rcases hm with rfl | rfl
      · exact ⟨t1, hs⟩
      · exact ⟨t2, ht⟩
    · have hm : q = ⟨b1, i1, a1, its.toArray⟩ ∨ q = ⟨b2, i2, a2, jts.toArray⟩ := by simpa using hm
      rcases hm with rfl | rfl
      · show i ≤ its.toArray.size
        rw [List.size_toArray]; omega
      · show i ≤ jts.toArray.size
        rw [List.size_toArray]; omega
    · by_cases hle : xs.length ≤ ys.length
      · refine ⟨⟨b1, i1, a1, its.toArray⟩, by simp, ?_⟩
        show its.toArray.size = i
        rw [List.size_toArray]; omega
      · refine ⟨⟨b2, i2, a2, jts.toArray⟩, by simp, ?_⟩
        show jts.toArray.size = i
        rw [List.size_toArray]; omega
    · have hb : b ≠ e ∧ b ≠ z ∧ b ≠ TI ∧ b ≠ TO ∧ b ≠ i1 ∧ b ≠ i2 := by simpa [not_or] using hb
      obtain ⟨n1, n2, n3, n4, n5, n6⟩ := hb
      refine hk b o n2 n4 (fun q hm => ?_) y
      have hm : q = ⟨b1, i1, a1, its.toArray⟩ ∨ q = ⟨b2, i2, a2, jts.toArray⟩ := by simpa using hm
      rcases hm with rfl | rfl
      · exact n5
      · exact n6
  self := fun A i s Q E st h => by
    obtain ⟨⟨old, he⟩, _⟩ := st
    exact wpAny_pyIter_enum he h
theorem meets_enumZ {z : Addr} {o : Obj} (hz : ∀ (prog : Program) (w : World) (A : Around) (E Q : Value → Shared → Prop) (s : Shared), s.heap.get? z = some o → Q (.ref z) s → wpAny (model prog w) A (pyIter (.ref z)) Q E s) :
    Meets (Builtin.«enumerate.__new__» ⟨[.type "enumerate", .ref z], []⟩) (fun _ R s => s.heap.get? z = some o ∧
      R (.ok (.ret (.ref s.heap.objs.size))) { s with heap := s.heap.push { cls := .type "enumerate", data := .fields #[.none, .bool false, .ref z, rawInt 0, .none, .none] } }) :=
  .of_wp fun prog w A R s h => by
    obtain ⟨hp, g, d, tk, os⟩ := s
    obtain ⟨h1, h⟩ := h
    have sub := sub_enumerate
    have begin_ : ∀ {A' : Around} {E Q : Value → Shared → Prop}, Q (.ref z) ⟨hp, g, d, tk, os⟩ → wpAny (model prog w) A' (pyIter (.ref z)) Q E ⟨hp, g, d, tk, os⟩ := fun q => hz prog w _ _ _ _ h1 q
    wp_walk using begin_
    refine wpAny_stack_any fun st => wpAny_pure ?_
    split
    · rename_i c _ _ _ _ _
      cases (c == Value.type "enumerate") <;> (wp_walk using begin_; exact ⟨_, rfl, h⟩)
    · wp_walk using begin_
      exact ⟨_, rfl, h⟩
theorem enumZ {P : Program} {W : World} {A : Around} {E : Value → Shared → Prop} {s : Shared} {z TI TO : Addr} {Q : Value → Shared → Prop} (hz : IsZip s.heap z TI TO .none)
    (h : ∀ h', IsEnum h' s.heap.objs.size z 0 .none → (∀ b o, s.heap.get? b = some o → h'.get? b = some o) → Q (.ref s.heap.objs.size) { s with heap := h' }) :
    wpAny (model P W) A (call (.type "enumerate") [.ref z]) Q E s := by
  refine callType_new F.called_enumerate (by decide) (F.typeCall_enumerate_1 _) (F.newCall_enumerate_1 _) (fun obj => F.args_object_init_2 obj _) F.entry_enumerate_new (meets_enumZ (o := ZObj .none (.bool false) false TI TO) fun prog w A E Q s e q => wpAny_pyIter_zip (f0 := .none) e q) ⟨hz, ?_⟩
  have he : IsEnum (s.heap.push { cls := .type "enumerate", data := .fields #[.none, .bool false, .ref z, rawInt 0, .none, .none] }) s.heap.objs.size z 0 .none := Heap.get?_push_size _ rfl
  exact ⟨⟨_, he, rfl⟩, h _ he fun b o x => Heap.get?_push_of_some _ x⟩
section
variable {X : Cx} {a b : Expr} {p p2 pos pos2 tpos : Pos} {elts : List Expr} {kk : Nat}
theorem pi_ez {t : TA} (hge : Gl X "enumerate") (hme : X.mg "enumerate" = none) (hg : Gl X "zip") (hm : X.mg "zip" = none) (ha : PA X [a, b] t) (hs : starEach [a, b] X.env = (false, eval a X.env) :: starEach [b] X.env) (hpl : (backTo pos2 (starEach [b] X.env)).any (·.1) = false)
    (hse : starEach [.Call (.Name "zip" p2) [a, b] [] pos2] X.env = (false, eval (.Call (.Name "zip" p2) [a, b] [] pos2) X.env) :: starEach [] X.env) :
    PI X (.Tuple elts kk tpos) (.Call (.Name "enumerate" p) [.Call (.Name "zip" p2) [a, b] [] pos2] [] pos) (fun σ H R => t σ H fun vs H1 => ∃ (b1 b2 : Bool) (c d : Addr) (xs ys : List V), vs = [.ref c, .ref d] ∧ Src X.K b1 H1 c xs ∧ Src X.K b2 H1 d ys ∧
      R (Jz (min xs.length ys.length) (fun H => Src X.K b1 H c xs ∧ Src X.K b2 H d ys) (fun i vs => ∃ x y, xs[i]? = some x ∧ ys[i]? = some y ∧ vs = [x, y])) H1) := by
  refine ⟨fun pins s σ H R I h => ?_⟩
  refine Call_ (ld_blt I hge hme boot_enumerate (PyProof.Rows.callWith_type1 (args_cons (Call_ (ld_blt I hg hm PyProof.Rows.boot_zip (PyProof.Rows.callWith_type1 (thn (ha.run pos2 pins s σ H _ I h) fun us s1 ⟨vs, H1, I1, r1, b1, b2, c, d, xs, ys, e2, hx, hy, q⟩ => ?_) hs hpl))) hse) hse rfl))
  subst e2
  obtain ⟨u, v, e3, rx, ry⟩ := vals2 r1
  subst e3
  cases rx
  cases ry
  obtain ⟨its, rv, hs'⟩ := src_h I1 hx
  obtain ⟨jts, rv2, ht'⟩ := src_h I1 hy
  have lt1 : c < s1.heap.objs.size := src_lt hs'
  have lt2 : d < s1.heap.objs.size := src_lt ht'
  refine zip_begins2 (src_begins b1 c its.toArray) (src_begins b2 d jts.toArray) hs' ht' fun h1 hz hTI hTO hi hj hsz hk => args_nil ?_
  refine enumZ (s := { s1 with heap := h1 }) hz fun h2 he hk2 => wpAny_pyIter_enum he ?_
  have sz1 : ({ s1 with heap := h1 } : Shared).heap.objs.size = s1.heap.objs.size + 5 := hsz
  rw [sz1] at he ⊢
  have I2 : L2.Inv X pins σ H1 { s1 with heap := h2 } := I1.kept (t' := s1.toks) fun b o y => hk2 b o (hk b o y)
  generalize hN : s1.heap.objs.size = N at *
  have ne : ∀ {i j : Nat}, i ≠ j → N + i ≠ N + j := fun h z => h (Nat.add_left_cancel z)
  have lne : ∀ {x : Addr} (i : Nat), x < N → N + i ≠ x := fun {x} i h => Nat.ne_of_gt (Nat.lt_of_lt_of_le h (Nat.le_add_right _ _))
  refine ⟨N + 5, [N + 5, N + 4, N + 2, N + 3, N, N + 1], _, _, H1, rfl, I2,
    turn_ez (b1 := b1) (b2 := b2) (a1 := c) (a2 := d) (z := N + 4) (TI := N + 2) (TO := N + 3) (i1 := N) (i2 := N + 1) fun its jts => ⟨⟨ne (by decide), ne (by decide), ne (by decide), fun q hq => ?_, fun q hq => ?_, fun q hq r hr => ?_, fun j k q r hq hr hjk => ?_⟩, by simp, by simp, ne (by decide), ne (by decide), ne (by decide), fun q hq => ?_, fun q hq => ?_⟩,
    ⟨⟨.none, he⟩, ⟨.none, .bool false, ⟨hk2 _ _ hz, hk2 _ _ hTI, #[.none, .none], hk2 _ _ hTO, rfl⟩, .inl rfl⟩, it_new (hk2 _ _ hi), it_new (hk2 _ _ hj)⟩, fun x hx' => ?_, q⟩
  · have hq : q = ⟨b1, N, c, its⟩ ∨ q = ⟨b2, N + 1, d, jts⟩ := by simpa using hq
    rcases hq with rfl | rfl
    · exact ⟨ne (i := 0) (by decide), ne (i := 0) (by decide), ne (i := 0) (by decide)⟩
    · exact ⟨ne (by decide), ne (by decide), ne (by decide)⟩
  · have hq : q = ⟨b1, N, c, its⟩ ∨ q = ⟨b2, N + 1, d, jts⟩ := by simpa using hq
    rcases hq with rfl | rfl
    · exact ⟨(lne 4 lt1).symm, (lne 3 lt1).symm⟩
    · exact ⟨(lne 4 lt2).symm, (lne 3 lt2).symm⟩
  · have hq : q = ⟨b1, N, c, its⟩ ∨ q = ⟨b2, N + 1, d, jts⟩ := by simpa using hq
    have hr : r = ⟨b1, N, c, its⟩ ∨ r = ⟨b2, N + 1, d, jts⟩ := by simpa using hr
    rcases hq with rfl | rfl <;> rcases hr with rfl | rfl
    · exact (lne 0 lt1).symm
    · exact (lne 1 lt1).symm
    · exact (lne 0 lt2).symm
    · exact (lne 1 lt2).symm
  · rcases j with _ | _ | j <;> rcases k with _ | _ | k <;> simp at hq hr hjk <;> subst hq hr
    · exact ne (i := 0) (j := 1) (by decide)
    · exact ne (i := 1) (j := 0) (by decide)
  · have hq : q = ⟨b1, N, c, its⟩ ∨ q = ⟨b2, N + 1, d, jts⟩ := by simpa using hq
    rcases hq with rfl | rfl
    · exact ne (j := 0) (by decide)
    · exact ne (by decide)
  · have hq : q = ⟨b1, N, c, its⟩ ∨ q = ⟨b2, N + 1, d, jts⟩ := by simpa using hq
    rcases hq with rfl | rfl
    · exact lne 5 lt1
    · exact lne 5 lt2
  · have hle : s1.heap.objs.size ≤ x := by
      have hx' : x = N + 5 ∨ x = N + 4 ∨ x = N + 2 ∨ x = N + 3 ∨ x = N ∨ x = N + 1 := by simpa using hx'
      rw [hN]
      rcases hx' with z | z | z | z | z | z
      · rw [z]; exact Nat.le_add_right _ _
      · rw [z]; exact Nat.le_add_right _ _
      · rw [z]; exact Nat.le_add_right _ _
      · rw [z]; exact Nat.le_add_right _ _
      · rw [z]; exact Nat.le_refl _
      · rw [z]; exact Nat.le_add_right _ _
    exact I1.fpOk hle (I1.hok.fresh hle)
end
end Ev

/-! what is walked, over the evaluator -/
namespace Ev
open PySem PySem.Spec PyProof.Rows L2
structure Wk (K : PySem.W.Frag) (w : Wd) (J : It) (ds : List PyData) : Prop where
  goes : ∀ i H, i < ds.length → Sub w.F H → J.go i H
  stops : ∀ H, Sub w.F H → J.stop ds.length H
  yld : ∀ i H x H', i < ds.length → J.yld i H x H' → Sub w.F H → (H' = H ∧ ∃ d, ds[i]? = some d ∧ Rp K w.F d x) ∨ (∃ T xs es, x = .ref T ∧ H T = none ∧ H' = upd H T (.tup xs) ∧ ds[i]? = some (.tuple es) ∧ RpA K w.F es xs) ∨
    ∃ (T0 T : Addr) (j : Int) (xs : List V) (es : List PyData), x = .ref T ∧ H T0 = none ∧ H T = none ∧ T0 ≠ T ∧ H' = upd (upd H T0 (.tup xs)) T (.tup [.int j, .ref T0]) ∧ ds[i]? = some (.tuple [.int j, .tuple es]) ∧ RpA K w.F es xs
def tI (K : PySem.W.Frag) (w0 : Wd) (H0 : Hp) (m : Lv → M (List PyData)) : TI := fun σ H R => ∃ w e s ds s', Rl K w0 H0 w e s σ H ∧ m e s = some (ds, s') ∧
  ∀ w' J H', Rl K w0 H0 w' e s' σ H' → Le w H w' H' → Wk K w' J ds → R J H'
theorem Wk.turn {K : PySem.W.Frag} {w0 w w1 : Wd} {H0 H H' : Hp} {e : Lv} {s : Sto} {σ : L2.St} {J : It} {ds : List PyData} {i : Nat} {x : V} (k : Wk K w J ds) (R : Rl K w0 H0 w1 e s σ H) (l : Sub w.F w1.F) (hi : i < ds.length) (y : J.yld i H x H') :
    ∃ w2 d, ds[i]? = some d ∧ Rl K w0 H0 w2 e s σ H' ∧ Le w1 H w2 H' ∧ Rp K w2.F d x := by
  rcases k.yld i H x H' hi y (l.trans R.fh) with ⟨e1, d, h1, h2⟩ | ⟨T, xs, es, e1, hT, e2, h1, h2⟩ | ⟨T0, T, j, xs, es, e1, hT0, hT, hne, e2, h1, h2⟩
  · subst e1
    exact ⟨w1, d, h1, R, .refl, Rp.mono l d h2⟩
  · subst e1 e2
    obtain ⟨R2, l2⟩ := R.new (o := .tup xs) hT
    refine ⟨_, _, h1, R2, l2, ?_⟩
    unfold Rp
    exact ⟨T, xs, rfl, SqT.of upd_same, RpA.mono (l.trans l2.f) es h2⟩
  · subst e1 e2
    obtain ⟨R2, l2⟩ := R.new (o := .tup xs) hT0
    have hT' : (upd H T0 (.tup xs)) T = none := by rw [upd_ne hne.symm]; exact hT
    obtain ⟨R3, l3⟩ := R2.new (o := .tup [.int j, .ref T0]) hT'
    refine ⟨_, _, h1, R3, l2.trans l3, ?_⟩
    unfold Rp
    refine ⟨T, _, rfl, SqT.of upd_same, ?_⟩
    unfold RpA
    refine ⟨_, _, rfl, rp_int, ?_⟩
    unfold RpA
    refine ⟨_, _, rfl, Rp.mono l3.f (.tuple es) ?_, by unfold RpA; rfl⟩
    unfold Rp
    exact ⟨T0, xs, rfl, SqT.of upd_same, RpA.mono (l.trans l2.f) es h2⟩
theorem Wk.of {K : PySem.W.Frag} {w : Wd} {J : It} {ds : List PyData} {n : Nat} {G : Hp → Prop} {xs : List V} (W : Walk J n G (YAt xs)) (hn : ds.length = n) (hG : ∀ H, Sub w.F H → G H) (h : RpA K w.F ds xs) : Wk K w J ds := by
  subst hn
  refine ⟨fun i H hi s => W.goes i H hi (hG H s), fun H s => W.stops H (hG H s), fun i H x H' hi y s => .inl ?_⟩
  obtain ⟨e, h1⟩ := W.yields i H x H' hi (hG H s) y
  obtain ⟨d, h2, h3⟩ := (rpA_iff.mp h).atR h1
  exact ⟨e, d, h2, h3⟩
theorem rp_range {K : PySem.W.Frag} {F : Hp} (lo : Int) (n : Nat) : RpA K F ((List.range n).map fun (i : Nat) => .int (lo + (i : Int))) ((List.range n).map fun (i : Nat) => V.int (lo + (i : Int))) := by
  induction (List.range n) with
  | nil => unfold RpA; rfl
  | cons a r ih =>
    rw [List.map_cons, List.map_cons]
    unfold RpA
    exact ⟨_, _, rfl, rp_int, ih⟩
theorem Wk.range {K : PySem.W.Frag} {w : Wd} {lo : Int} {n : Nat} : Wk K w (Itr lo n) ((List.range n).map fun (i : Nat) => .int (lo + (i : Int))) := by
  have e : ((List.range n).map fun (i : Nat) => PyData.int (lo + (i : Int))).length = n := by simp
  refine ⟨fun i H hi _ => by rw [e] at hi; exact hi, fun H _ => by rw [e]; exact Nat.le_refl _, fun i H x H' hi y _ => .inl ?_⟩
  obtain ⟨e1, e2⟩ := y
  rw [e] at hi
  subst e2
  exact ⟨e1, _, by simp [hi], rp_int⟩
theorem enumD_len : ∀ (k : Nat) (xs : List PyData), (enumD k xs).length = xs.length
  | _, [] => rfl
  | k, _ :: xs => by unfold enumD; simp [enumD_len (k + 1) xs]
theorem enumD_at : ∀ (k : Nat) (xs : List PyData) (i : Nat), (enumD k xs)[i]? = xs[i]?.map fun x => .tuple [.int ((k + i : Nat) : Int), x]
  | _, [], i => by simp [enumD]
  | k, x :: xs, 0 => by simp [enumD]
  | k, x :: xs, i + 1 => by
    unfold enumD
    rw [List.getElem?_cons_succ, List.getElem?_cons_succ, enumD_at (k + 1) xs i, show k + 1 + i = k + (i + 1) by omega]
theorem zipD_len : ∀ (xs ys : List PyData), (zipD xs ys).length = min xs.length ys.length
  | [], ys => by simp [zipD]
  | _ :: _, [] => by simp [zipD]
  | _ :: xs, _ :: ys => by simp [zipD, zipD_len xs ys]
theorem zipD_at : ∀ (xs ys : List PyData) (i : Nat) (x y : PyData), xs[i]? = some x → ys[i]? = some y → (zipD xs ys)[i]? = some (.tuple [x, y])
  | [], _, _, _, _, h, _ => by simp at h
  | _ :: _, [], _, _, _, _, h => by simp at h
  | a :: xs, b :: ys, 0, x, y, h1, h2 => by simp at h1 h2; simp [zipD, h1, h2]
  | a :: xs, b :: ys, i + 1, x, y, h1, h2 => by
    unfold zipD
    rw [List.getElem?_cons_succ]
    exact zipD_at xs ys i x y (by simpa using h1) (by simpa using h2)
theorem src_of {K : PySem.W.Frag} {F H : Hp} {x : PyData} {v : V} {ds : List PyData} (h : Rp K F x v) (hd : itemsD x = some ds) : ∃ b a xs, v = .ref a ∧ RpA K F ds xs ∧ ∀ H, Sub F H → Src K b H a xs := by
  cases x with
  | list es =>
    cases (show some es = some ds from hd)
    unfold Rp at h
    obtain ⟨a, xs, e, h1, h2⟩ := h
    exact ⟨false, a, xs, e, h2, fun H s => SqL.of (s _ _ h1)⟩
  | tuple es =>
    cases (show some es = some ds from hd)
    unfold Rp at h
    obtain ⟨a, xs, e, h1, h2⟩ := h
    exact ⟨true, a, xs, e, h2, fun H s => sqT_mono s h1⟩
  | _ => cases hd
section
variable {X : Cx} {a b tg : Expr} {pos p tpos : Pos} {elts : List Expr} {kk : Nat} {w0 : Wd} {H0 : Hp} {ma mb : Lv → M Val}
theorem i_seq (hw : w0.nu = []) (ha : PE X a (tE X.K w0 H0 ma)) : PI X tg a (tI X.K w0 H0 fun e => bd (ma e) fun v => bd (keep v) fun x => ofO (itemsD x)) := by
  refine ⟨fun pins sh σ H R I h => ?_⟩
  obtain ⟨w, e, s, ds, s', R0, ev, k⟩ := h
  obtain ⟨v1, s1, e1, ev⟩ := bd_inv ev
  obtain ⟨x1, s2, e2, ev⟩ := bd_inv ev
  obtain ⟨e3, e4⟩ := ofO_inv ev
  subst e4
  cases x1 with
  | list es =>
    cases (show some es = some ds from e3)
    refine (pi_list ha).run pins sh σ H R I ⟨w, e, s, v1, s1, R0, e1, fun w1 x H1 R1 l1 r1 => ?_⟩
    obtain ⟨w2, R2, l2, r2⟩ := keep_ok hw R1 r1 e2
    unfold Rp at r2
    obtain ⟨c, xs, ex, h1, h2⟩ := r2
    exact ⟨c, ex, ⟨xs, SqL.of (R2.fh _ _ h1)⟩, k w2 _ H1 R2 (l1.trans l2) (Wk.of walk_list (rpA_len h2) (fun H s => SqL.of (s _ _ h1)) h2)⟩
  | tuple es =>
    cases (show some es = some ds from e3)
    refine (pi_tup ha).run pins sh σ H R I ⟨w, e, s, v1, s1, R0, e1, fun w1 x H1 R1 l1 r1 => ?_⟩
    obtain ⟨w2, R2, l2, r2⟩ := keep_ok hw R1 r1 e2
    unfold Rp at r2
    obtain ⟨c, xs, ex, h1, h2⟩ := r2
    exact ⟨c, ex, ⟨xs, sqT_mono R2.fh h1⟩, k w2 _ H1 R2 (l1.trans l2) (Wk.of walk_tup (rpA_len h2) (fun H s => sqT_mono s h1) h2)⟩
  | _ => cases e3
theorem pi_imp {it : Expr} {t t' : TI} (h : PI X tg it t) (f : ∀ σ H R, t' σ H R → t σ H R) : PI X tg it t' := ⟨fun pins s σ H R I q => h.run pins s σ H R I (f σ H R q)⟩
theorem i_rng1 {it : Expr} (h : PI X tg it (iRng1 (tCons (tE X.K w0 H0 ma) tNil))) : PI X tg it (tI X.K w0 H0 fun e => bd (ma e) fun v => bd (peek v) fun x => match x with
    | .int j => ofO (rngD 0 j)
    | _ => no) := pi_imp h fun σ H R q => by
  obtain ⟨w, e, s, ds, s', R0, ev, k⟩ := q
  obtain ⟨v1, s1, e1, ev⟩ := bd_inv ev
  refine ⟨w, e, s, v1, s1, R0, e1, fun w1 x H1 R1 l1 r1 => ?_⟩
  obtain ⟨d, t1, ev⟩ := pk R1 r1 ev
  cases d with
  | int j =>
    obtain ⟨e3, e4⟩ := ofO_inv (show ofO (rngD 0 j) s1 = some (ds, s') from ev)
    subst e4
    unfold rngD at e3
    split at e3
    · rename_i hb
      cases e3
      cases (show x = .int j from t1)
      exact ⟨j, rfl, hb.2.2.1, hb.2.2.2, k w1 _ H1 R1 l1 (by
        have := Wk.range (K := X.K) (w := w1) (lo := 0) (n := j.toNat)
        rw [show (j - 0).toNat = j.toNat by rw [Int.sub_zero]]
        exact this)⟩
    · cases e3
  | _ => cases ev
theorem i_rng2 {it : Expr} (h : PI X tg it (iRng2 (tCons (tE X.K w0 H0 ma) (tCons (tE X.K w0 H0 mb) tNil)))) : PI X tg it (tI X.K w0 H0 fun e => bd (ma e) fun v => bd (mb e) fun u => bd (peek v) fun x => bd (peek u) fun y => match x, y with
    | .int i, .int j => ofO (rngD i j)
    | _, _ => no) := pi_imp h fun σ H R q => by
  obtain ⟨w, e, s, ds, s', R0, ev, k⟩ := q
  obtain ⟨v1, s1, e1, ev⟩ := bd_inv ev
  obtain ⟨v2, s2, e2, ev⟩ := bd_inv ev
  refine ⟨w, e, s, v1, s1, R0, e1, fun w1 x H1 R1 l1 r1 => ⟨w1, e, s1, v2, s2, R1, e2, fun w2 y H2 R2 l2 r2 => ?_⟩⟩
  obtain ⟨d1, t1, ev⟩ := pk R2 (r1.mono l2) ev
  obtain ⟨d2, t2, ev⟩ := pk R2 r2 ev
  cases d1 with
  | int i =>
    cases d2 with
    | int j =>
      obtain ⟨e3, e4⟩ := ofO_inv (show ofO (rngD i j) s2 = some (ds, s') from ev)
      subst e4
      unfold rngD at e3
      split at e3
      · rename_i hb
        cases e3
        cases (show x = .int i from t1)
        cases (show y = .int j from t2)
        exact ⟨i, j, rfl, hb, k w2 _ H2 R2 (l1.trans l2) Wk.range⟩
      · cases e3
    | _ => cases ev
  | _ => cases ev
theorem i_enum (hw : w0.nu = []) (hg : Gl X "enumerate") (hm : X.mg "enumerate" = none) (ha : PE X a (tE X.K w0 H0 ma)) (hs : starEach [a] X.env = [(false, eval a X.env)]) (hs1 : starEach [a] X.env = (false, eval a X.env) :: starEach [] X.env) :
    PI X (.Tuple elts kk tpos) (.Call (.Name "enumerate" p) [a] [] pos) (tI X.K w0 H0 fun e => bd (ma e) fun v => bd (keep v) fun x => bd (ofO (itemsD x)) fun xs => rt (enumD 0 xs)) :=
  pi_imp (pi_enumS hg hm (pa_cons ha pa_nil hs1) hs) fun σ H R q => by
  obtain ⟨w, e, s, ds, s', R0, ev, k⟩ := q
  obtain ⟨v1, s1, e1, ev⟩ := bd_inv ev
  obtain ⟨x1, s2, e2, ev⟩ := bd_inv ev
  obtain ⟨es, s3, e3, ev⟩ := bd_inv ev
  obtain ⟨e3', e4⟩ := ofO_inv e3
  obtain ⟨e5, e6⟩ := rt_inv ev
  subst e4 e5 e6
  refine ⟨w, e, s, v1, s1, R0, e1, fun w1 x H1 R1 l1 r1 => ?_⟩
  obtain ⟨w2, R2, l2, r2⟩ := keep_ok hw R1 r1 e2
  obtain ⟨b, c, xs, ex, h1, h2⟩ := src_of (H := H1) r2 e3'
  subst ex
  have hl := rpA_len h1
  refine ⟨b, c, xs, rfl, h2 H1 R2.fh, k w2 _ H1 R2 (l1.trans l2) ⟨fun i H hi sb => ⟨by rw [enumD_len, hl] at hi; exact hi, h2 H sb⟩, fun H sb => ⟨by rw [enumD_len, hl], h2 H sb⟩, fun i H v H' hi y sb => .inr (.inl ?_)⟩⟩
  obtain ⟨T, ys, ev', hT, eH, z, hz, ey⟩ := y
  subst ey
  obtain ⟨d, hd, rd⟩ := (rpA_iff.mp h1).atR hz
  refine ⟨T, _, [.int (i : Nat), d], ev', hT, eH, by rw [enumD_at, hd, Nat.zero_add]; rfl, ?_⟩
  unfold RpA
  exact ⟨_, _, rfl, rp_int, by unfold RpA; exact ⟨_, _, rfl, rd, by unfold RpA; rfl⟩⟩
theorem i_zip (hw : w0.nu = []) (hg : Gl X "zip") (hm : X.mg "zip" = none) (ha : PE X a (tE X.K w0 H0 ma)) (hb : PE X b (tE X.K w0 H0 mb)) (hs : starEach [a, b] X.env = (false, eval a X.env) :: starEach [b] X.env) (hs1 : starEach [b] X.env = (false, eval b X.env) :: starEach [] X.env)
    (hpl : (backTo pos (starEach [b] X.env)).any (·.1) = false) :
    PI X (.Tuple elts kk tpos) (.Call (.Name "zip" p) [a, b] [] pos) (tI X.K w0 H0 fun e => bd (ma e) fun v => bd (mb e) fun u => bd (keep v) fun x => bd (keep u) fun y => bd (ofO (itemsD x)) fun xs => bd (ofO (itemsD y)) fun ys =>
      if false && xs.length != ys.length then no else rt (zipD xs ys)) :=
  pi_imp (pi_zipS hg hm (pa_cons ha (pa_cons hb pa_nil hs1) hs) hs hpl) fun σ H R q => by
  obtain ⟨w, e, s, ds, s', R0, ev, k⟩ := q
  obtain ⟨v1, s1, e1, ev⟩ := bd_inv ev
  obtain ⟨v2, s2, e2, ev⟩ := bd_inv ev
  obtain ⟨x1, s3, e3, ev⟩ := bd_inv ev
  obtain ⟨y1, s4, e4, ev⟩ := bd_inv ev
  obtain ⟨es, s5, e5, ev⟩ := bd_inv ev
  obtain ⟨fs, s6, e6, ev⟩ := bd_inv ev
  obtain ⟨e5', e7⟩ := ofO_inv e5
  obtain ⟨e6', e8⟩ := ofO_inv e6
  obtain ⟨e9, e10⟩ := rt_inv (show rt (zipD es fs) s6 = some (ds, s') from ev)
  subst e7 e8 e9 e10
  refine ⟨w, e, s, v1, s1, R0, e1, fun w1 x H1 R1 l1 r1 => ⟨w1, e, s1, v2, s2, R1, e2, fun w2 y H2 R2 l2 r2 => ?_⟩⟩
  obtain ⟨w3, R3, l3, r3⟩ := keep_ok hw R2 (r1.mono l2) e3
  obtain ⟨w4, R4, l4, r4⟩ := keep_ok hw R3 (r2.mono l3) e4
  obtain ⟨b1, c, xs, ex, h1, h2⟩ := src_of (H := H2) (Rp.mono l4.f _ r3) e5'
  obtain ⟨b2, d, ys, ey, h3, h4⟩ := src_of (H := H2) r4 e6'
  subst ex ey
  have hl := rpA_len h1
  have hl2 := rpA_len h3
  refine ⟨b1, b2, c, d, xs, ys, rfl, h2 H2 R4.fh, h4 H2 R4.fh, k w4 _ H2 R4 (((l1.trans l2).trans l3).trans l4) ⟨fun i H hi sb => ⟨by rw [zipD_len, hl, hl2] at hi; exact hi, h2 H sb, h4 H sb⟩, fun H sb => ⟨by rw [zipD_len, hl, hl2], h2 H sb, h4 H sb⟩, fun i H v H' hi y sb => .inr (.inl ?_)⟩⟩
  obtain ⟨T, vs, ev', hT, eH, z1, z2, hz1, hz2, ey⟩ := y
  subst ey
  obtain ⟨d1, hd1, rd1⟩ := (rpA_iff.mp h1).atR hz1
  obtain ⟨d2, hd2, rd2⟩ := (rpA_iff.mp h3).atR hz2
  refine ⟨T, _, [d1, d2], ev', hT, eH, zipD_at _ _ _ _ _ hd1 hd2, ?_⟩
  unfold RpA
  exact ⟨_, _, rfl, rd1, by unfold RpA; exact ⟨_, _, rfl, rd2, by unfold RpA; rfl⟩⟩
theorem i_ezip {p2 pos2 : Pos} (hw : w0.nu = []) (hge : Gl X "enumerate") (hme : X.mg "enumerate" = none) (hg : Gl X "zip") (hm : X.mg "zip" = none) (ha : PE X a (tE X.K w0 H0 ma)) (hb : PE X b (tE X.K w0 H0 mb)) (hs : starEach [a, b] X.env = (false, eval a X.env) :: starEach [b] X.env) (hs1 : starEach [b] X.env = (false, eval b X.env) :: starEach [] X.env)
    (hpl : (backTo pos2 (starEach [b] X.env)).any (·.1) = false) (hse : starEach [.Call (.Name "zip" p2) [a, b] [] pos2] X.env = (false, eval (.Call (.Name "zip" p2) [a, b] [] pos2) X.env) :: starEach [] X.env) :
    PI X (.Tuple elts kk tpos) (.Call (.Name "enumerate" p) [.Call (.Name "zip" p2) [a, b] [] pos2] [] pos) (tI X.K w0 H0 fun e => bd (ma e) fun v => bd (mb e) fun u => bd (keep v) fun x => bd (keep u) fun y => bd (ofO (itemsD x)) fun xs => bd (ofO (itemsD y)) fun ys => rt (enumD 0 (zipD xs ys))) :=
  pi_imp (pi_ez hge hme hg hm (pa_cons ha (pa_cons hb pa_nil hs1) hs) hs hpl hse) fun σ H R q => by
  obtain ⟨w, e, s, ds, s', R0, ev, k⟩ := q
  obtain ⟨v1, s1, e1, ev⟩ := bd_inv ev
  obtain ⟨v2, s2, e2, ev⟩ := bd_inv ev
  obtain ⟨x1, s3, e3, ev⟩ := bd_inv ev
  obtain ⟨y1, s4, e4, ev⟩ := bd_inv ev
  obtain ⟨es, s5, e5, ev⟩ := bd_inv ev
  obtain ⟨fs, s6, e6, ev⟩ := bd_inv ev
  obtain ⟨e5', e7⟩ := ofO_inv e5
  obtain ⟨e6', e8⟩ := ofO_inv e6
  obtain ⟨e9, e10⟩ := rt_inv ev
  subst e7 e8 e9 e10
  refine ⟨w, e, s, v1, s1, R0, e1, fun w1 x H1 R1 l1 r1 => ⟨w1, e, s1, v2, s2, R1, e2, fun w2 y H2 R2 l2 r2 => ?_⟩⟩
  obtain ⟨w3, R3, l3, r3⟩ := keep_ok hw R2 (r1.mono l2) e3
  obtain ⟨w4, R4, l4, r4⟩ := keep_ok hw R3 (r2.mono l3) e4
  obtain ⟨b1, c, xs, ex, h1, h2⟩ := src_of (H := H2) (Rp.mono l4.f _ r3) e5'
  obtain ⟨b2, d, ys, ey, h3, h4⟩ := src_of (H := H2) r4 e6'
  subst ex ey
  have hl := rpA_len h1
  have hl2 := rpA_len h3
  refine ⟨b1, b2, c, d, xs, ys, rfl, h2 H2 R4.fh, h4 H2 R4.fh, k w4 _ H2 R4 (((l1.trans l2).trans l3).trans l4) ⟨fun i H hi sb => ⟨by rw [enumD_len, zipD_len, hl, hl2] at hi; exact hi, h2 H sb, h4 H sb⟩, fun H sb => ⟨by rw [enumD_len, zipD_len, hl, hl2], h2 H sb, h4 H sb⟩, fun i H v H' hi y sb => .inr (.inr ?_)⟩⟩
  obtain ⟨T0, T, vs, ev', hT0, hT, hne, eH, z1, z2, hz1, hz2, ey⟩ := y
  subst ey
  obtain ⟨d1, hd1, rd1⟩ := (rpA_iff.mp h1).atR hz1
  obtain ⟨d2, hd2, rd2⟩ := (rpA_iff.mp h3).atR hz2
  refine ⟨T0, T, (i : Int), _, [d1, d2], ev', hT0, hT, hne, eH, by rw [enumD_at, zipD_at _ _ _ _ _ hd1 hd2, Nat.zero_add]; rfl, ?_⟩
  unfold RpA
  exact ⟨_, _, rfl, rd1, by unfold RpA; exact ⟨_, _, rfl, rd2, by unfold RpA; rfl⟩⟩
end
end Ev

/-! targets, comprehensions -/
namespace Ev
open PySem PySem.Spec PyProof.Rows L2
mutual
def tgIn : Tg → List Nat → Bool
  | .nm i, vs => vs.contains i
  | .tp ts, vs => tgsIn ts vs
def tgsIn : Tgs → List Nat → Bool
  | .nil, _ => true
  | .cons t ts, vs => tgIn t vs && tgsIn ts vs
end
def tG (K : PySem.W.Frag) (w0 : Wd) (H0 : Hp) (tg : Tg) : TG := fun x σ H Q => ∃ w e s v e1, Rl K w0 H0 w e s σ H ∧ Rv K w v x ∧ asgT tg v e = some e1 ∧
  ∀ σ', Rl K w0 H0 w e1 s σ' H → (∀ vs, tgIn tg vs = true → wipe σ' vs = wipe σ vs) → Q σ' H
def tGs (K : PySem.W.Frag) (w0 : Wd) (H0 : Hp) (tg : Tgs) : TGs := fun xs σ H Q => ∃ w e s ds e1, Rl K w0 H0 w e s σ H ∧ RpA K w.F ds xs ∧ asgTs tg ds e = some e1 ∧
  ∀ σ', Rl K w0 H0 w e1 s σ' H → (∀ vs, tgsIn tg vs = true → wipe σ' vs = wipe σ vs) → Q σ' H
section
variable {K : PySem.W.Frag} {w0 w : Wd} {H0 H : Hp} {e e1 : Lv} {s : Sto} {σ σ' : L2.St}
theorem Rl.setE (R : Rl K w0 H0 w e s σ H) {i : Nat} {v : Val} {x : V} (r : Rv K w v x) : Rl K w0 H0 w (e.set i (some v)) s (σ.set i (some x)) H :=
  ⟨R.le, R.fh, R.ft, R.nd, R.tr, R.G, R.L, R.env.set (fun u q => by cases q; exact ⟨x, rfl, r⟩) i⟩
theorem Rl.reenv (R : Rl K w0 H0 w e s σ H) (h : All2 (fun o p => ∀ v, o = some v → ∃ x, p = some x ∧ Rv K w v x) e1 σ') : Rl K w0 H0 w e1 s σ' H := ⟨R.le, R.fh, R.ft, R.nd, R.tr, R.G, R.L, h⟩
theorem env_wipe (h : All2 (fun o p => ∀ v, o = some v → ∃ x, p = some x ∧ Rv K w v x) e σ) : ∀ vs : List Nat, All2 (fun o p => ∀ v, o = some v → ∃ x, p = some x ∧ Rv K w v x) (wipeL e vs) (wipe σ vs)
  | [] => h
  | v :: vs => (env_wipe h vs).set (fun u q => by cases q) v
theorem wipe_set {σ : L2.St} {i : Nat} {o : Option V} : ∀ {vs : List Nat}, i ∈ vs → wipe (σ.set i o) vs = wipe σ vs
  | v :: vs, h => by
    unfold wipe
    by_cases hv : i ∈ vs
    · rw [wipe_set hv]
    · have e : v = i := by
        rcases List.mem_cons.mp h with z | z
        · exact z.symm
        · exact absurd z hv
      subst e
      have key : ∀ (ws : List Nat), v ∉ ws → (wipe (σ.set v o) ws) = (wipe σ ws).set v o := fun ws => by
        induction ws with
        | nil => intro _; rfl
        | cons w ws ih =>
          intro hn
          unfold wipe
          rw [ih fun z => hn (List.mem_cons_of_mem _ z), List.set_comm]
          exact fun z => hn (z ▸ List.mem_cons_self)
      rw [key vs hv, List.set_set]
theorem wipe_wipe (σ : L2.St) : ∀ {vs us : List Nat}, (∀ i ∈ us, i ∈ vs) → wipe (wipe σ us) vs = wipe σ vs
  | vs, [], _ => rfl
  | vs, u :: us, h => by
    show wipe ((wipe σ us).set u none) vs = _
    rw [wipe_set (h u List.mem_cons_self)]
    exact wipe_wipe σ fun i hi => h i (List.mem_cons_of_mem _ hi)
end
section
variable {X : Cx} {w0 : Wd} {H0 : Hp} {pos : Pos}
theorem pg_imp {e : Expr} {t t' : TG} (h : PG X e t) (f : ∀ v σ H Q, t' v σ H Q → t v σ H Q) : PG X e t' := ⟨fun pins s σ H v u Q I r q => h.run pins s σ H v u Q I r (f v σ H Q q)⟩
theorem pgs_imp {es : List Expr} {t t' : TGs} (h : PGs X es t) (f : ∀ v σ H Q, t' v σ H Q → t v σ H Q) : PGs X es t' := ⟨fun pins s σ H v u Q I r q => h.run pins s σ H v u Q I r (f v σ H Q q)⟩
theorem g_name {i : Nat} {x : Str} (hN : X.N.Nodup) (hi : X.N[i]? = some x) (hx : Loc X.env.scope x) (hf : X.fn x = true ∨ X.env.scope.names.lookup x = some .local) : PG X (.Name x pos) (tG X.K w0 H0 (.nm i)) :=
  pg_imp (pg_name hN hi hx hf) fun v σ H Q h => by
  obtain ⟨w, e, s, u, e1, R, r, ha, k⟩ := h
  cases (show some (e.set i (some u)) = some e1 from ha)
  exact k _ (R.setE r) fun vs hv => wipe_set (by simpa [tgIn] using hv)
theorem gs_nil : PGs X [] (tGs X.K w0 H0 .nil) := pgs_imp pgs_nil fun v σ H Q h => by
  obtain ⟨w, e, s, ds, e1, R, r, ha, k⟩ := h
  cases ds with
  | cons d ds => cases ha
  | nil =>
    cases (show some e = some e1 from ha)
    unfold RpA at r
    exact ⟨r, k σ R fun _ _ => rfl⟩
theorem gs_cons {a : Expr} {as : List Expr} {t : Tg} {ts : Tgs} (h1 : PG X a (tG X.K w0 H0 t)) (h2 : PGs X as (tGs X.K w0 H0 ts)) (hs : (assignEach (a :: as) X.env).map (·.2) = assign a X.env :: (assignEach as X.env).map (·.2)) :
    PGs X (a :: as) (tGs X.K w0 H0 (.cons t ts)) := pgs_imp (pgs_cons h1 h2 hs) fun vs σ H Q h => by
  obtain ⟨w, e, s, ds, e1, R, r, ha, k⟩ := h
  cases ds with
  | nil => cases ha
  | cons d ds =>
    unfold RpA at r
    obtain ⟨x, xs, ev, r1, r2⟩ := r
    subst ev
    obtain ⟨e2, h3, h4⟩ := Option.bind_eq_some_iff.mp (show (asgT t (.d d) e).bind (fun e1 => asgTs ts ds e1) = some e1 from ha)
    refine ⟨x, xs, rfl, w, e, s, .d d, e2, R, r1, h3, fun σ1 R1 z1 => ⟨w, e2, s, ds, e1, R1, r2, h4, fun σ2 R2 z2 => k σ2 R2 fun vs hv => ?_⟩⟩
    have hv : tgIn t vs = true ∧ tgsIn ts vs = true := by simpa [tgsIn] using hv
    rw [z2 vs hv.2, z1 vs hv.1]
theorem g_tup {as : List Expr} {kk n : Nat} {ts : Tgs} (hc : X.calm = true) (h : PGs X as (tGs X.K w0 H0 ts)) (hl : ∀ ds e e1, asgTs ts ds e = some e1 → ds.length = n) (hn : (assignEach as X.env).length = n) (hst : (assignEach as X.env).findIdx? (·.1) = none) :
    PG X (.Tuple as kk pos) (tG X.K w0 H0 (.tp ts)) := pg_imp (pg_tup hc h hn hst) fun v σ H Q h => by
  obtain ⟨w, e, s, u, e1, R, r, ha, k⟩ := h
  cases u with
  | d x =>
    cases x with
    | tuple ds =>
      have ha : asgTs ts ds e = some e1 := ha
      have r : Rp X.K w.F (.tuple ds) v := r
      unfold Rp at r
      obtain ⟨a, xs, ev, h1, h2⟩ := r
      exact ⟨a, xs, ev, sqT_mono R.fh h1, (rpA_len h2).symm.trans (hl ds e e1 ha), w, e, s, ds, e1, R, h2, ha, k⟩
    | _ => cases ha
  | _ => cases ha
/-! ### [.. for .. in ..] -/
theorem compF_inv {wh : Wh} {tgt : Tg} {own : List Nat} {mc : Lv → M Bool} {me : Lv → M Val} {e : Lv} {x : PyData} {s s' : Sto} {o : Option Val} (h : compF wh tgt own mc me e x s = some (o, s')) :
    ∃ e1, asgT tgt (.d x) (wipeL e own) = some e1 ∧ bd (mc e1) (fun k => if k then bd (me e1) fun v => (match wh with | .pure => bd (keep v) fun x => rt (some (.d x)) | _ => rt (some v)) else rt none) s = some (o, s') := by
  unfold compF at h
  cases q : asgT tgt (.d x) (wipeL e own) with
  | none => rw [q] at h; cases h
  | some e1 => rw [q] at h; exact ⟨e1, rfl, h⟩
theorem lc_imp {wh : Wh} {tgt : Tg} {mi : Lv → M (List PyData)} {mc : Lv → M Bool} {me : Lv → M Val} {own : List Nat} {K : PySem.W.Frag} (hw : w0.nu = []) (hin : tgIn tgt own = true) {σ : L2.St} {H : Hp} {Q : VK}
    (h : tE K w0 H0 (fun e => bd (mi e) fun xs => bd (compL (compF wh tgt own mc me e) xs) fun vs => if vs.length ≤ 16777216 then place wh vs else no) σ H Q) :
    tLc (tI K w0 H0 mi) (tG K w0 H0 tgt) (tT K w0 H0 mc) (tE K w0 H0 me) own σ H Q := by
  obtain ⟨w, e, s, v, s', R, ev, k⟩ := h
  obtain ⟨ds, s1, e1, ev⟩ := bd_inv ev
  obtain ⟨vs, s2, e2, ev⟩ := bd_inv ev
  refine ⟨w, e, s, ds, s1, R, e1, fun w1 J H1 R1 l1 wk D hD => ?_⟩
  split at ev
  case isFalse => cases ev
  case isTrue hz =>
  have hD0 : H0 D = none := R1.le.back hD
  refine ⟨fun i m H => m = ds.length - i ∧ i ≤ ds.length ∧ ∃ w2 s3 acc us rest, Rl K w0 H0 w2 e s3 σ H ∧ Le w1 H1 w2 H ∧ H D = some (.lst acc) ∧ w2.F D = none ∧ D ∉ w2.mu ++ w2.nu ∧ All2 (Rv K w2) us acc ∧
    compL (compF wh tgt own mc me e) (ds.drop i) s3 = some (rest, s2) ∧ us ++ rest = vs, ⟨ds.length, by simp, Nat.zero_le _, w1, s1, [], [], vs, R1.scratch hD0 (R1.freshF hD) (R1.freshS hD) (.none hD), Le.scratch .refl hD (.none hD), upd_same, R1.freshF hD, R1.freshS hD, .nil, by simpa using e2, rfl⟩, ?_⟩
  rintro i m H2 ⟨rfl, hi, w2, s3, acc, us, rest, R2, l2, hA, hF, hS, ra, hcm, hvs⟩
  by_cases hlt : i < ds.length
  · have hdr : ds.drop i = ds[i] :: ds.drop (i + 1) := List.drop_eq_getElem_cons hlt
    rw [hdr] at hcm
    obtain ⟨o, s4, e4, hcm⟩ := bd_inv (show bd (compF wh tgt own mc me e ds[i]) (fun o => bd (compL (compF wh tgt own mc me e) (ds.drop (i + 1))) fun vs => rt (match o with | some v => v :: vs | none => vs)) s3 = some (rest, s2) from hcm)
    obtain ⟨rest2, s5, e5, hcm⟩ := bd_inv hcm
    obtain ⟨e6, e7⟩ := rt_inv hcm
    subst e7
    obtain ⟨ee, hee, e4⟩ := compF_inv e4
    obtain ⟨kb, s6, e8, e4⟩ := bd_inv e4
    refine .inr ⟨wk.goes i H2 hlt (l2.f.trans R2.fh), fun H' => ∃ w3 s7 acc us, Rl K w0 H0 w3 e s7 σ H' ∧ Le w1 H1 w3 H' ∧ H' D = some (.lst acc) ∧ w3.F D = none ∧ D ∉ w3.mu ++ w3.nu ∧ All2 (Rv K w3) us acc ∧
      ∃ rest, compL (compF wh tgt own mc me e) (ds.drop (i + 1)) s7 = some (rest, s2) ∧ us ++ rest = vs, fun H' ⟨w3, s7, acc', us', R3, l3, h1, h2, h3, h4, rest', h5, h6⟩ => ⟨_, by omega, rfl, hlt, w3, s7, acc', us', rest', R3, l3, h1, h2, h3, h4, h5, h6⟩, fun x H3 y => ?_⟩
    obtain ⟨w3, d, hd, R3, l3, rd⟩ := wk.turn R2 l2.f hlt y
    have ed : ds[i] = d := by
      have := hd
      rw [List.getElem?_eq_getElem hlt] at this
      exact Option.some.inj this
    subst ed
    have hA3 : H3 D = some (.lst acc) := l3.same D _ hA (fun z => hS (List.mem_append_left _ z)) fun z => hS (List.mem_append_right _ z)
    refine ⟨w3, wipeL e own, s3, .d ds[i], ee, R3.reenv (env_wipe R3.env own), rd, hee, fun σ4 R4 z4 => ⟨?_, w3, ee, s3, kb, s6, R4, e8, fun w5 H5 R5 l5 => ?_⟩⟩
    · rw [z4 own hin]
      exact wipe_wipe σ fun _ h => h
    have hF3 := freshF_of l3 hF hS hA
    have hS3 := freshS_of l3 hS hA
    have hA5 : H5 D = some (.lst acc) := l5.same D _ hA3 (fun z => hS3 (List.mem_append_left _ z)) fun z => hS3 (List.mem_append_right _ z)
    have hF5 := freshF_of l5 hF3 hS3 hA3
    have hS5 := freshS_of l5 hS3 hA3
    have L5 : Le w1 H1 w5 H5 := (l2.trans l3).trans l5
    have env5 : All2 (fun o p => ∀ v, o = some v → ∃ x, p = some x ∧ Rv K w5 v x) e σ := R2.mono_env (l3.trans l5)
    cases kb with
    | false =>
      obtain ⟨e9, e10⟩ := rt_inv (show rt none s6 = some (o, s4) from e4)
      subst e9 e10
      show (if false = true then _ else _)
      rw [if_neg Bool.false_ne_true]
      exact ⟨w5, _, acc, us, R5.reenv env5, L5, hA5, hF5, hS5, Rvs.mono (l3.trans l5) ra, rest2, e5, by rw [← hvs, e6]⟩
    | true =>
      obtain ⟨v6, s7, e9, e4⟩ := bd_inv (show bd (me ee) (fun v => (match wh with | .pure => bd (keep v) fun x => rt (some (Val.d x)) | _ => rt (some v))) s6 = some (o, s4) from e4)
      show (if true = true then _ else _)
      rw [if_pos rfl]
      refine ⟨w5, ee, s6, v6, s7, R5, e9, fun w7 yv H7 R7 l7 r7 => ?_⟩
      have hA7 : H7 D = some (.lst acc) := l7.same D _ hA5 (fun z => hS5 (List.mem_append_left _ z)) fun z => hS5 (List.mem_append_right _ z)
      have hF7 := freshF_of l7 hF5 hS5 hA5
      have hS7 := freshS_of l7 hS5 hA5
      have fin : ∀ {w8 : Wd} {u : Val} {s8 : Sto}, Rl K w0 H0 w8 ee s8 σ4 H7 → Le w7 H7 w8 H7 → Rv K w8 u yv → o = some u → s8 = s4 → ∃ acc, H7 D = some (.lst acc) ∧ acc.length < sizeLine ∧ ∃ w3 s7 acc' us, Rl K w0 H0 w3 e s7 σ (upd H7 D (.lst (acc ++ [yv]))) ∧ Le w1 H1 w3 (upd H7 D (.lst (acc ++ [yv]))) ∧ (upd H7 D (.lst (acc ++ [yv]))) D = some (.lst acc') ∧ w3.F D = none ∧ D ∉ w3.mu ++ w3.nu ∧ All2 (Rv K w3) us acc' ∧
          ∃ rest, compL (compF wh tgt own mc me e) (ds.drop (i + 1)) s7 = some (rest, s2) ∧ us ++ rest = vs := fun {w8 u s8} R8 l8 r8 eo es => by
        subst eo es
        have e6 : rest = u :: rest2 := e6
        subst e6
        have hF8 := freshF_of l8 hF7 hS7 hA7
        have hS8 := freshS_of l8 hS7 hA7
        have hA8 := hA7
        have env8 : All2 (fun o p => ∀ v, o = some v → ∃ x, p = some x ∧ Rv K w8 v x) e σ := R2.mono_env (((l3.trans l5).trans l7).trans l8)
        have R9 := (R8.reenv env8).scratch (o := .lst (acc ++ [yv])) hD0 hF8 hS8 (.lst hA8)
        refine ⟨acc, hA7, ?_, w8, _, _, us ++ [u], R9, ((L5.trans l7).trans l8).scratch hD (.lst hA8), upd_same, hF8, hS8, (Rvs.mono (((l3.trans l5).trans l7).trans l8) ra).app (.cons r8 .nil), rest2, e5, by rw [← hvs]; simp⟩
        have z1 : us.length + (rest2.length + 1) = vs.length := by rw [← hvs]; simp
        rw [size_line, ← ra.len]
        omega
      cases wh with
      | pure =>
        obtain ⟨x8, s8, e10, e4⟩ := bd_inv (show bd (keep v6) (fun x => rt (some (Val.d x))) s7 = some (o, s4) from e4)
        obtain ⟨e11, e12⟩ := rt_inv e4
        obtain ⟨w8, R8, l8, r8⟩ := keep_ok hw R7 r7 e10
        exact fin (u := .d x8) R8 l8 r8 e11 e12.symm
      | loc =>
        obtain ⟨e11, e12⟩ := rt_inv (show rt (some v6) s7 = some (o, s4) from e4)
        exact fin R7 .refl r7 e11 e12.symm
      | glob =>
        obtain ⟨e11, e12⟩ := rt_inv (show rt (some v6) s7 = some (o, s4) from e4)
        exact fin R7 .refl r7 e11 e12.symm
  · have hi2 : i = ds.length := by omega
    subst hi2
    rw [List.drop_length] at hcm
    obtain ⟨e4, e5⟩ := rt_inv (show rt [] s3 = some (rest, s2) from hcm)
    subst e4 e5
    rw [List.append_nil] at hvs
    subst hvs
    refine .inl ⟨wk.stops H2 (l2.f.trans R2.fh), ?_⟩
    obtain ⟨w3, R3, l3, r3⟩ := lay_ok hw R2 l2 hD hD0 hF hS hA ra ev
    exact k w3 _ H2 R3 (l1.trans l3) r3
theorem e_comp {wh : Wh} {tgt : Tg} {mi : Lv → M (List PyData)} {mc : Lv → M Bool} {me : Lv → M Val} {elt tg iter : Expr} {ifs : List Expr} {scope : Scope} {own : List (Str × Nat)} (hw : w0.nu = []) (hc : X.calm = true) (hN : X.N.Nodup) (hi : PI X tg iter (tI X.K w0 H0 mi)) (ok : BlkOk X.N X.env.scope scope own)
    (hg : ∀ (s : Shared) (H : Hp) (C : Addr) (cl : List (Str × Addr)) (fp : List Addr), PG (X.blk s H scope (compEnvC scope cl C X.env) fp) tg (tG X.K w0 H0 tgt)) (ht : ∀ (s : Shared) (H : Hp) (C : Addr) (cl : List (Str × Addr)) (fp : List Addr), PTs (X.blk s H scope (compEnvC scope cl C X.env) fp) ifs (tT X.K w0 H0 mc))
    (he : ∀ (s : Shared) (H : Hp) (C : Addr) (cl : List (Str × Addr)) (fp : List Addr), PE (X.blk s H scope (compEnvC scope cl C X.env) fp) elt (tE X.K w0 H0 me)) (hs : ∀ x, foldedSetIterable iter X.env x = pure x) (hin : tgIn tgt (own.map (·.2)) = true) :
    PE X (.ListComp elt [⟨tg, iter, ifs, 0⟩] scope pos) (tE X.K w0 H0 fun e => bd (mi e) fun xs => bd (compL (compF wh tgt (own.map (·.2)) mc me e) xs) fun vs => if vs.length ≤ 16777216 then place wh vs else no) :=
  pe_imp (pe_lc hc hN hi ok hg ht he hs) fun σ H Q h => lc_imp hw hin h
theorem c_none : PTs X [] (tT X.K w0 H0 fun _ => rt true) := ⟨fun pins s σ H Q I h => by
  obtain ⟨w, e, s, v, s', R, ev, k⟩ := h
  obtain ⟨e1, e2⟩ := rt_inv ev
  subst e1 e2
  exact pts_nil.run pins _ σ H Q I (k w H R .refl)⟩
end
end Ev

/-! dict comprehensions -/
namespace Ev
open PySem PySem.Spec PyProof.Rows L2
theorem putD_len (k v : PyData) : ∀ kds : List (PyData × PyData), kds.length ≤ (putD k v kds).length
  | [] => Nat.zero_le _
  | (a, u) :: r => by
    unfold putD
    split
    · exact Nat.le_refl _
    · exact Nat.succ_le_succ (putD_len k v r)
theorem dcompL_len {f : PyData → M (Option (PyData × PyData))} : ∀ {xs : List PyData} {acc kvs : List (PyData × PyData)} {s s' : Sto}, dcompL f xs acc s = some (kvs, s') → acc.length ≤ kvs.length
  | [], acc, kvs, s, s', h => by
    cases (show some (acc, s) = some (kvs, s') from h)
    exact Nat.le_refl _
  | x :: xs, acc, kvs, s, s', h => by
    obtain ⟨o, s1, e1, h⟩ := bd_inv (show bd (f x) (fun o => dcompL f xs (match o with | some (k, v) => putD k v acc | none => acc)) s = some (kvs, s') from h)
    refine Nat.le_trans ?_ (dcompL_len h)
    cases o with
    | none => exact Nat.le_refl _
    | some p => exact putD_len _ _ _
theorem nd_put {ks : List (Key × V)} (q : Key) (x : V) (h : (ks.map (·.1)).Nodup) : ((putK ks q x).map (·.1)).Nodup := by
  unfold putK
  split
  · rw [List.map_map]
    rw [show ((fun x : Key × V => x.1) ∘ fun kv : Key × V => if kv.1 = q then (kv.1, x) else kv) = fun kv => kv.1 from funext fun kv => by
      show (if kv.1 = q then (kv.1, x) else kv).1 = kv.1
      split <;> rfl]
    exact h
  · rename_i hn
    rw [List.map_append, List.nodup_append]
    refine ⟨h, by simp, fun a ha b hb => ?_⟩
    rw [List.mem_singleton.mp hb]
    rintro rfl
    obtain ⟨p, hp, e⟩ := List.mem_map.mp ha
    exact hn (List.any_eq_true.mpr ⟨p, hp, decide_eq_true e⟩)
theorem dcompF_inv {tgt : Tg} {own : List Nat} {mc : Lv → M Bool} {mk mv : Lv → M Val} {e : Lv} {x : PyData} {s s' : Sto} {o : Option (PyData × PyData)} (h : dcompF tgt own mc mk mv e x s = some (o, s')) :
    ∃ e1, asgT tgt (.d x) (wipeL e own) = some e1 ∧ bd (mc e1) (fun c => if c then bd (mk e1) fun kv => bd (mv e1) fun vv => bd (peek kv) fun kx => bd (keep vv) fun vx => if isKey kx then rt (some (kx, vx)) else no else rt none) s = some (o, s') := by
  unfold dcompF at h
  cases q : asgT tgt (.d x) (wipeL e own) with
  | none => rw [q] at h; cases h
  | some e1 => rw [q] at h; exact ⟨e1, rfl, h⟩
section
variable {X : Cx} {w0 : Wd} {H0 : Hp} {pos : Pos}
theorem dc_imp {tgt : Tg} {mi : Lv → M (List PyData)} {mc : Lv → M Bool} {mk mv : Lv → M Val} {own : List Nat} {K : PySem.W.Frag} (hw : w0.nu = []) (hin : tgIn tgt own = true) {σ : L2.St} {H : Hp} {Q : VK}
    (h : tE K w0 H0 (fun e => bd (mi e) fun xs => bd (dcompL (dcompF tgt own mc mk mv e) xs []) fun kvs => if kvs.length < 16777216 then rt (.d (.dict kvs)) else no) σ H Q) :
    tDc (tI K w0 H0 mi) (tG K w0 H0 tgt) (tT K w0 H0 mc) (tE K w0 H0 mk) (tE K w0 H0 mv) own σ H Q := by
  obtain ⟨w, e, s, v, s', R, ev, k⟩ := h
  obtain ⟨ds, s1, e1, ev⟩ := bd_inv ev
  obtain ⟨kvs, s2, e2, ev⟩ := bd_inv ev
  refine ⟨w, e, s, ds, s1, R, e1, fun w1 J H1 R1 l1 wk D hD => ?_⟩
  split at ev
  case isFalse => cases ev
  case isTrue hz =>
  have hD0 : H0 D = none := R1.le.back hD
  refine ⟨fun i m H => m = ds.length - i ∧ i ≤ ds.length ∧ ∃ w2 s3 ks kds, Rl K w0 H0 w2 e s3 σ H ∧ Le w1 H1 w2 H ∧ H D = some (.dK ks) ∧ w2.F D = none ∧ D ∉ w2.mu ++ w2.nu ∧ RpK K w2.F kds ks ∧ (ks.map (·.1)).Nodup ∧
    dcompL (dcompF tgt own mc mk mv e) (ds.drop i) kds s3 = some (kvs, s2), ⟨ds.length, by simp, Nat.zero_le _, w1, s1, [], [], R1.scratch hD0 (R1.freshF hD) (R1.freshS hD) (.none hD), Le.scratch .refl hD (.none hD), upd_same, R1.freshF hD, R1.freshS hD, by unfold RpK; rfl, by simp, by simpa using e2⟩, ?_⟩
  rintro i m H2 ⟨rfl, hi, w2, s3, ks, kds, R2, l2, hA, hF, hS, ra, nd, hcm⟩
  by_cases hlt : i < ds.length
  · have hdr : ds.drop i = ds[i] :: ds.drop (i + 1) := List.drop_eq_getElem_cons hlt
    rw [hdr] at hcm
    obtain ⟨o, s4, e4, hcm⟩ := bd_inv (show bd (dcompF tgt own mc mk mv e ds[i]) (fun o => dcompL (dcompF tgt own mc mk mv e) (ds.drop (i + 1)) (match o with | some (k, v) => putD k v kds | none => kds)) s3 = some (kvs, s2) from hcm)
    obtain ⟨ee, hee, e4⟩ := dcompF_inv e4
    obtain ⟨kb, s6, e8, e4⟩ := bd_inv e4
    refine .inr ⟨wk.goes i H2 hlt (l2.f.trans R2.fh), fun H' => ∃ w3 s7 ks kds, Rl K w0 H0 w3 e s7 σ H' ∧ Le w1 H1 w3 H' ∧ H' D = some (.dK ks) ∧ w3.F D = none ∧ D ∉ w3.mu ++ w3.nu ∧ RpK K w3.F kds ks ∧ (ks.map (·.1)).Nodup ∧
      dcompL (dcompF tgt own mc mk mv e) (ds.drop (i + 1)) kds s7 = some (kvs, s2), fun H' ⟨w3, s7, ks', kds', R3, l3, h1, h2, h3, h4, h5, h6⟩ => ⟨_, by omega, rfl, hlt, w3, s7, ks', kds', R3, l3, h1, h2, h3, h4, h5, h6⟩, fun x H3 y => ?_⟩
    obtain ⟨w3, d, hd, R3, l3, rd⟩ := wk.turn R2 l2.f hlt y
    have ed : ds[i] = d := by
      have := hd
      rw [List.getElem?_eq_getElem hlt] at this
      exact Option.some.inj this
    subst ed
    have hA3 : H3 D = some (.dK ks) := l3.same D _ hA (fun z => hS (List.mem_append_left _ z)) fun z => hS (List.mem_append_right _ z)
    refine ⟨w3, wipeL e own, s3, .d ds[i], ee, R3.reenv (env_wipe R3.env own), rd, hee, fun σ4 R4 z4 => ⟨?_, w3, ee, s3, kb, s6, R4, e8, fun w5 H5 R5 l5 => ?_⟩⟩
    · rw [z4 own hin]
      exact wipe_wipe σ fun _ h => h
    have hF3 := freshF_of l3 hF hS hA
    have hS3 := freshS_of l3 hS hA
    have hA5 : H5 D = some (.dK ks) := l5.same D _ hA3 (fun z => hS3 (List.mem_append_left _ z)) fun z => hS3 (List.mem_append_right _ z)
    have hF5 := freshF_of l5 hF3 hS3 hA3
    have hS5 := freshS_of l5 hS3 hA3
    have L5 : Le w1 H1 w5 H5 := (l2.trans l3).trans l5
    have env5 : All2 (fun o p => ∀ v, o = some v → ∃ x, p = some x ∧ Rv K w5 v x) e σ := R2.mono_env (l3.trans l5)
    cases kb with
    | false =>
      obtain ⟨e9, e10⟩ := rt_inv (show rt none s6 = some (o, s4) from e4)
      subst e9 e10
      show (if false = true then _ else _)
      rw [if_neg Bool.false_ne_true]
      exact ⟨w5, _, ks, kds, R5.reenv env5, L5, hA5, hF5, hS5, RpK.mono (l3.trans l5).f _ ra, nd, hcm⟩
    | true =>
      obtain ⟨v6, s7, e9, e4⟩ := bd_inv (show bd (mk ee) (fun kv => bd (mv ee) fun vv => bd (peek kv) fun kx => bd (keep vv) fun vx => if isKey kx then rt (some (kx, vx)) else no) s6 = some (o, s4) from e4)
      obtain ⟨v8, s9, e11, e4⟩ := bd_inv e4
      obtain ⟨kx, s10, e12, e4⟩ := bd_inv e4
      obtain ⟨vx, s11, e13, e4⟩ := bd_inv e4
      show (if true = true then _ else _)
      rw [if_pos rfl]
      refine ⟨w5, ee, s6, v6, s7, R5, e9, fun w7 yv H7 R7 l7 r7 => ⟨w7, ee, s7, v8, s9, R7, e11, fun w9 zv H9 R9 l9 r9 => ?_⟩⟩
      have hA7 : H7 D = some (.dK ks) := l7.same D _ hA5 (fun z => hS5 (List.mem_append_left _ z)) fun z => hS5 (List.mem_append_right _ z)
      have hF7 := freshF_of l7 hF5 hS5 hA5
      have hS7 := freshS_of l7 hS5 hA5
      have hA9 : H9 D = some (.dK ks) := l9.same D _ hA7 (fun z => hS7 (List.mem_append_left _ z)) fun z => hS7 (List.mem_append_right _ z)
      have hF9 := freshF_of l9 hF7 hS7 hA7
      have hS9 := freshS_of l9 hS7 hA7
      split at e4
      case isFalse => cases e4
      case isTrue hk =>
      obtain ⟨e14, e15⟩ := rt_inv e4
      subst e14 e15
      obtain ⟨q, rfl⟩ := isKey_kP hk
      obtain ⟨es, tk⟩ := peek_rt R9 (r7.mono l9) e12
      subst es
      obtain ⟨w10, R10, l10, r10⟩ := keep_ok hw R9 r9 e13
      have hF10 := freshF_of l10 hF9 hS9 hA9
      have hS10 := freshS_of l10 hS9 hA9
      have l310 := (((l3.trans l5).trans l7).trans l9).trans l10
      have env10 : All2 (fun o p => ∀ v, o = some v → ∃ x, p = some x ∧ Rv K w10 v x) e σ := R2.mono_env l310
      have r11 := RpK.mono l310.f _ ra
      have hlen : ks.length < sizeLine := by
        have z1 := dcompL_len hcm
        have z2 := putD_len (kP q) vx kds
        have z3 := rpK_emp ra
        have z4 : kds.length ≤ kvs.length := Nat.le_trans z2 z1
        rw [size_line]
        omega
      exact ⟨ks, q, rt_key tk, hA9, hlen, w10, _, _, _, (R10.reenv env10).scratch (o := .dK (putK ks q zv)) hD0 hF10 hS10 (.dK hA9), (l2.trans l310).scratch hD (.dK hA9), upd_same, hF10, hS10, put_ok q r10 nd r11, nd_put q zv nd, hcm⟩
  · have hi2 : i = ds.length := by omega
    subst hi2
    rw [List.drop_length] at hcm
    cases (show some (kds, s3) = some (kvs, s2) from hcm)
    obtain ⟨e5, e6⟩ := rt_inv ev
    subst e5 e6
    refine .inl ⟨wk.stops H2 (l2.f.trans R2.fh), ?_⟩
    have R3 := R2.freeze hD0 hF hS hA
    refine k _ _ H2 R3 (l1.trans (l2.freeze (.inl hD) hF)) ?_
    show Rp K (upd w2.F D (.dK ks)) (.dict _) (.ref D)
    unfold Rp
    exact ⟨D, ks, rfl, upd_same, RpK.mono (sub_upd (Sub.refl _) hF) _ ra⟩
theorem e_dcomp {tgt : Tg} {mi : Lv → M (List PyData)} {mc : Lv → M Bool} {mk mv : Lv → M Val} {kx vx tg iter : Expr} {ifs : List Expr} {scope : Scope} {own : List (Str × Nat)} (hw : w0.nu = []) (hc : X.calm = true) (hN : X.N.Nodup) (hi : PI X tg iter (tI X.K w0 H0 mi)) (ok : BlkOk X.N X.env.scope scope own)
    (hg : ∀ (s : Shared) (H : Hp) (C : Addr) (cl : List (Str × Addr)) (fp : List Addr), PG (X.blk s H scope (compEnvC scope cl C X.env) fp) tg (tG X.K w0 H0 tgt)) (ht : ∀ (s : Shared) (H : Hp) (C : Addr) (cl : List (Str × Addr)) (fp : List Addr), PTs (X.blk s H scope (compEnvC scope cl C X.env) fp) ifs (tT X.K w0 H0 mc))
    (hk : ∀ (s : Shared) (H : Hp) (C : Addr) (cl : List (Str × Addr)) (fp : List Addr), PE (X.blk s H scope (compEnvC scope cl C X.env) fp) kx (tE X.K w0 H0 mk)) (he : ∀ (s : Shared) (H : Hp) (C : Addr) (cl : List (Str × Addr)) (fp : List Addr), PE (X.blk s H scope (compEnvC scope cl C X.env) fp) vx (tE X.K w0 H0 mv))
    (hs : ∀ x, foldedSetIterable iter X.env x = pure x) (hin : tgIn tgt (own.map (·.2)) = true) :
    PE X (.DictComp kx vx [⟨tg, iter, ifs, 0⟩] scope pos) (tE X.K w0 H0 fun e => bd (mi e) fun xs => bd (dcompL (dcompF tgt (own.map (·.2)) mc mk mv e) xs []) fun kvs => if kvs.length < 16777216 then rt (.d (.dict kvs)) else no) :=
  pe_imp (pe_dc hc hN hi ok hg ht hk he hs) fun σ H Q h => dc_imp hw hin h
theorem sw_trueD {kx vx : Expr} {gs : List Comprehension} {scope : Scope} {pos py : Pos} {y : Str} {l : Nat} {env : Env} (hk : env.scope.kind = .function) (hy : env.scope.names.lookup y = some .local) (hl : (py.line == pos.line) = true)
    (ha : (scope.names.any fun (n, k) => n == y && (k == .local || k == .cell)) = false) : swapsWith (.DictComp kx vx gs scope pos) (some (.Name y py)) l env = pure true := by
  have ky : env.kindOf y = some .local := hy
  have hb : env.blockKind = .function := by unfold Env.blockKind; rw [hk]; rfl
  unfold swapsWith
  simp only [hb, ky, ha, Expr.pos, hl]
  rfl
theorem ps_setDc {i : Nat} {y : Str} {py : Pos} {kx vx tg iter : Expr} {ifs : List Expr} {scope : Scope} {own : List (Str × Nat)} {pos spos : Pos} {wi : TI} {g : TG} {tt : TT} {tk tv : TE} (hc : X.calm = true) (hN : X.N.Nodup) (hy : X.N[i]? = some y) (hyl : X.env.scope.names.lookup y = some .local)
    (hsw : swapsWith (.DictComp kx vx [⟨tg, iter, ifs, 0⟩] scope pos) (some (.Name y py)) spos.line X.env = pure true) (hi : PI X tg iter wi) (ok : BlkOk X.N X.env.scope scope own)
    (hg : ∀ (s : Shared) (H : Hp) (C : Addr) (cl : List (Str × Addr)) (fp : List Addr), PG (X.blk s H scope (compEnvC scope cl C X.env) fp) tg g) (ht : ∀ (s : Shared) (H : Hp) (C : Addr) (cl : List (Str × Addr)) (fp : List Addr), PTs (X.blk s H scope (compEnvC scope cl C X.env) fp) ifs tt)
    (hk : ∀ (s : Shared) (H : Hp) (C : Addr) (cl : List (Str × Addr)) (fp : List Addr), PE (X.blk s H scope (compEnvC scope cl C X.env) fp) kx tk) (he : ∀ (s : Shared) (H : Hp) (C : Addr) (cl : List (Str × Addr)) (fp : List Addr), PE (X.blk s H scope (compEnvC scope cl C X.env) fp) vx tv)
    (hs : ∀ x, foldedSetIterable iter X.env x = pure x) : PS X (.Assign [.Name y py] (.DictComp kx vx [⟨tg, iter, ifs, 0⟩] scope pos) spos) (tAsg (tDc wi g tt tk tv (own.map (·.2))) (gName i)) := by
  refine ⟨fun pins s σ H D I h => ?_⟩
  rw [exec_Assign_Name_used _ _ _ _ hsw]
  refine wpAny_bind (wpAny_standAt (wpAny_bind ?_))
  show wpAny _ X.A (do let _ ← comprehension (.DictComp kx vx [⟨tg, iter, ifs, 0⟩] scope pos) scope X.env (firstIterPos [⟨tg, iter, ifs, 0⟩] pos) newDict false (eval iter X.env) (some (assign (.Name y py) X.env))) _ _ s
  have h : tDc wi g tt tk tv (own.map (·.2)) σ H (fun x H1 => gName i x σ H1 D.nx) := h
  refine wpAny_bind (thn (dc_core (Qf := fun _ s' => SP X pins D .next s') hc hN I hi ok hg ht hk he hs h fun L C s' m H' I' q hn f => ?_) fun _ s' hq => wpAny_pure (wpAny_pure hq))
  show wpAny _ _ (assign (.Name y py) X.env (.ref L)) _ _ _
  refine wpAny_assign_Name (store_ok2 (v := V.ref L) I' hN hy (.inl hyl) rfl (fun s2 I2 ⟨a, sb, ha⟩ => ?_) (.inr hyl))
  obtain ⟨f0, f1, f2, f3, f4, f5⟩ := f
  have hC : C ≠ a := by
    rcases ha with z | z
    · rw [z]; exact f1
    · exact fun e => f4 y a z e.symm
  exact ⟨m, hn.sameBut sb hC, fun h3 sb3 => ⟨_, H', I2.turned (t' := s2.toks) (fun b o hb e => (sb3.2 b hb).trans e) f0 f1 f3 f4 f5, q⟩⟩
end
end Ev

/-! comprehensions over a list that may be written later -/
namespace Ev
open PySem PySem.Spec PyProof.Rows L2
theorem compI_inv {f : PyData → M (Option Val)} {v : Val} {n k : Nat} {s s' : Sto} {vs : List Val} (h : compI f v n (k + 1) s = some (vs, s')) :
    ∃ ds d sp o s1 rest, peek v s = some (.list ds, sp) ∧ ds.length = n ∧ ds[n - (k + 1)]? = some d ∧ f d sp = some (o, s1) ∧ compI f v n k s1 = some (rest, s') ∧ vs = (match o with | some v => v :: rest | none => rest) := by
  obtain ⟨x, sp, h1, h⟩ := bd_inv (show bd (peek v) (fun x => match x with
    | .list ds => if ds.length = n then (match ds[n - (k + 1)]? with
      | some d => bd (f d) fun o => bd (compI f v n k) fun vs => rt (match o with | some v => v :: vs | none => vs)
      | none => no) else no
    | _ => no) s = some (vs, s') from h)
  cases x with
  | list ds =>
    have h : (if ds.length = n then (match ds[n - (k + 1)]? with
      | some d => bd (f d) fun o => bd (compI f v n k) fun vs => rt (match o with | some v => v :: vs | none => vs)
      | none => no) else no : M (List Val)) sp = some (vs, s') := h
    split at h
    · rename_i hl
      cases hd : ds[n - (k + 1)]? with
      | none => rw [hd] at h; cases h
      | some d =>
        rw [hd] at h
        obtain ⟨o, s1, h2, h⟩ := bd_inv h
        obtain ⟨rest, s2, h3, h⟩ := bd_inv h
        obtain ⟨h4, h5⟩ := rt_inv h
        subst h5
        exact ⟨ds, d, sp, o, s1, rest, h1, hl, hd, h2, h3, h4⟩
    · cases h
  | _ => cases h
theorem compI_inv0 {f : PyData → M (Option Val)} {v : Val} {n : Nat} {s s' : Sto} {vs : List Val} (h : compI f v n 0 s = some (vs, s')) : ∃ ds, peek v s = some (.list ds, s') ∧ ds.length = n ∧ vs = [] ∧ s' = s := by
  obtain ⟨x, sp, h1, h⟩ := bd_inv (show bd (peek v) (fun x => match x with
    | .list ds => if ds.length = n then rt [] else no
    | _ => no) s = some (vs, s') from h)
  cases x with
  | list ds =>
    have h : (if ds.length = n then rt [] else no : M (List Val)) sp = some (vs, s') := h
    split at h
    · rename_i hl
      obtain ⟨h4, h5⟩ := rt_inv h
      subst h4 h5
      have e : s' = s := by
        cases v with
        | d y => cases (show some (y, s) = some (PyData.list ds, s') from h1); rfl
        | s ns => cases h1
        | e _ => cases h1
        | g m =>
          obtain ⟨q, _, q2⟩ := Option.map_eq_some_iff.mp (show ((getO (.g m) s).bind readO).map (fun x => (x, s)) = some (PyData.list ds, s') from h1)
          cases q2; rfl
        | l m =>
          obtain ⟨q, _, q2⟩ := Option.map_eq_some_iff.mp (show ((getO (.l m) s).bind readO).map (fun x => (x, s)) = some (PyData.list ds, s') from h1)
          cases q2; rfl
      exact ⟨ds, h1, hl, rfl, e⟩
    · cases h
  | _ => cases h
section
variable {X : Cx} {w0 : Wd} {H0 : Hp} {pos : Pos}
def tIx (K : PySem.W.Frag) (w0 : Wd) (H0 : Hp) (m : Lv → M Val) : TI := fun σ H R => ∃ w e s v s', Rl K w0 H0 w e s σ H ∧ m e s = some (v, s') ∧
  ∀ w' x H', Rl K w0 H0 w' e s' σ H' → Le w H w' H' → Rv K w' v x → ∃ a, x = .ref a ∧ (∃ xs, SqL K H' a xs) ∧ R (Itl K a) H'
theorem i_lst {a tg : Expr} {ma : Lv → M Val} (ha : PE X a (tE X.K w0 H0 ma)) : PI X tg a (tIx X.K w0 H0 ma) := by
  refine ⟨fun pins sh σ H R I h => ?_⟩
  obtain ⟨w, e, s, v, s', R0, ev, k⟩ := h
  refine (pi_list ha).run pins sh σ H R I ⟨w, e, s, v, s', R0, ev, fun w1 x H1 R1 l1 r1 => ?_⟩
  obtain ⟨c, ex, hx, r⟩ := k w1 x H1 R1 l1 r1
  exact ⟨c, ex, hx, r⟩
theorem li_imp {wh : Wh} {tgt : Tg} {ma : Lv → M Val} {mc : Lv → M Bool} {me : Lv → M Val} {own : List Nat} {K : PySem.W.Frag} (hw : w0.nu = []) (hin : tgIn tgt own = true) {σ : L2.St} {H : Hp} {Q : VK}
    (h : tE K w0 H0 (fun e => bd (ma e) fun u => bd (compJ (compF wh tgt own mc me e) u) fun vs => if vs.length ≤ 16777216 then place wh vs else no) σ H Q) :
    tLc (tIx K w0 H0 ma) (tG K w0 H0 tgt) (tT K w0 H0 mc) (tE K w0 H0 me) own σ H Q := by
  obtain ⟨w, e, s, v, s', R, ev, k⟩ := h
  obtain ⟨u0, s1, e1, ev⟩ := bd_inv ev
  obtain ⟨vs, s2, e2, ev⟩ := bd_inv ev
  refine ⟨w, e, s, u0, s1, R, e1, fun w1 x0 H1 R1 l1 r0 => ?_⟩
  obtain ⟨d0, t1, e2⟩ := pk R1 r0 e2
  cases d0 with
  | list dz =>
  have e2 : compI (compF wh tgt own mc me e) u0 dz.length dz.length s1 = some (vs, s2) := e2
  obtain ⟨a, xz, rfl, hz0, _⟩ := t1
  refine ⟨a, rfl, ⟨xz, SqL.of hz0⟩, fun D hD => ?_⟩
  split at ev
  case isFalse => cases ev
  case isTrue hz =>
  have hD0 : H0 D = none := R1.le.back hD
  refine ⟨fun i m H => m = dz.length - i ∧ i ≤ dz.length ∧ ∃ w2 s3 acc us rest, Rl K w0 H0 w2 e s3 σ H ∧ Le w1 H1 w2 H ∧ H D = some (.lst acc) ∧ w2.F D = none ∧ D ∉ w2.mu ++ w2.nu ∧ All2 (Rv K w2) us acc ∧
    compI (compF wh tgt own mc me e) u0 dz.length (dz.length - i) s3 = some (rest, s2) ∧ us ++ rest = vs, ⟨dz.length, by simp, Nat.zero_le _, w1, s1, [], [], vs, R1.scratch hD0 (R1.freshF hD) (R1.freshS hD) (.none hD), Le.scratch .refl hD (.none hD), upd_same, R1.freshF hD, R1.freshS hD, .nil, by simpa using e2, rfl⟩, ?_⟩
  rintro i m H2 ⟨rfl, hi, w2, s3, acc, us, rest, R2, l2, hA, hF, hS, ra, hcm, hvs⟩
  by_cases hlt : i < dz.length
  · obtain ⟨k0, hk0⟩ : ∃ k0, dz.length - i = k0 + 1 := ⟨dz.length - (i + 1), by omega⟩
    have hk1 : dz.length - (i + 1) = k0 := by omega
    have hki : dz.length - (k0 + 1) = i := by omega
    rw [hk0] at hcm
    obtain ⟨di, d, sp, o, s4, rest2, hp, hdl, hdi, e4, e5, e6⟩ := compI_inv hcm
    rw [hki] at hdi
    obtain ⟨q0, tp⟩ := peek_rt R2 (r0.mono l2) hp
    subst q0
    obtain ⟨a', xs, ea, hxs, rxs⟩ := tp
    cases ea
    obtain ⟨xi, hxi, rxi⟩ := (rpA_iff.mp rxs).at_ hdi
    obtain ⟨ee, hee, e4⟩ := compF_inv e4
    obtain ⟨kb, s6, e8, e4⟩ := bd_inv e4
    refine .inr ⟨⟨xs, xi, SqL.of hxs, hxi⟩, fun H' => ∃ w3 s7 acc us, Rl K w0 H0 w3 e s7 σ H' ∧ Le w1 H1 w3 H' ∧ H' D = some (.lst acc) ∧ w3.F D = none ∧ D ∉ w3.mu ++ w3.nu ∧ All2 (Rv K w3) us acc ∧
      ∃ rest, compI (compF wh tgt own mc me e) u0 dz.length (dz.length - (i + 1)) s7 = some (rest, s2) ∧ us ++ rest = vs, fun H' ⟨w3, s7, acc', us', R3, l3, h1, h2, h3, h4, rest', h5, h6⟩ => ⟨_, by omega, rfl, hlt, w3, s7, acc', us', rest', R3, l3, h1, h2, h3, h4, h5, h6⟩, fun x H3 y => ?_⟩
    obtain ⟨e3, y⟩ := y
    subst e3
    have ex : x = xi := by
      have q := y xs (SqL.of hxs)
      rw [hxi] at q
      exact (Option.some.inj q).symm
    subst ex
    obtain ⟨w3, hw3⟩ : ∃ w3, w3 = w2 := ⟨_, rfl⟩
    have R3 : Rl K w0 H0 w3 e sp σ H3 := by rw [hw3]; exact R2
    have l3 : Le w2 H3 w3 H3 := by rw [hw3]; exact .refl
    have rd : Rv K w3 (.d d) x := by rw [hw3]; exact rxi
    rw [hk1]
    have hA3 : H3 D = some (.lst acc) := l3.same D _ hA (fun z => hS (List.mem_append_left _ z)) fun z => hS (List.mem_append_right _ z)
    refine ⟨w3, wipeL e own, _, .d d, ee, R3.reenv (env_wipe R3.env own), rd, hee, fun σ4 R4 z4 => ⟨?_, w3, ee, _, kb, s6, R4, e8, fun w5 H5 R5 l5 => ?_⟩⟩
    · rw [z4 own hin]
      exact wipe_wipe σ fun _ h => h
    have hF3 := freshF_of l3 hF hS hA
    have hS3 := freshS_of l3 hS hA
    have hA5 : H5 D = some (.lst acc) := l5.same D _ hA3 (fun z => hS3 (List.mem_append_left _ z)) fun z => hS3 (List.mem_append_right _ z)
    have hF5 := freshF_of l5 hF3 hS3 hA3
    have hS5 := freshS_of l5 hS3 hA3
    have L5 : Le w1 H1 w5 H5 := (l2.trans l3).trans l5
    have env5 : All2 (fun o p => ∀ v, o = some v → ∃ x, p = some x ∧ Rv K w5 v x) e σ := R2.mono_env (l3.trans l5)
    cases kb with
    | false =>
      obtain ⟨e9, e10⟩ := rt_inv (show rt none s6 = some (o, s4) from e4)
      subst e9 e10
      show (if false = true then _ else _)
      rw [if_neg Bool.false_ne_true]
      exact ⟨w5, _, acc, us, R5.reenv env5, L5, hA5, hF5, hS5, Rvs.mono (l3.trans l5) ra, rest2, e5, by rw [← hvs, e6]⟩
    | true =>
      obtain ⟨v6, s7, e9, e4⟩ := bd_inv (show bd (me ee) (fun v => (match wh with | .pure => bd (keep v) fun x => rt (some (Val.d x)) | _ => rt (some v))) s6 = some (o, s4) from e4)
      show (if true = true then _ else _)
      rw [if_pos rfl]
      refine ⟨w5, ee, s6, v6, s7, R5, e9, fun w7 yv H7 R7 l7 r7 => ?_⟩
      have hA7 : H7 D = some (.lst acc) := l7.same D _ hA5 (fun z => hS5 (List.mem_append_left _ z)) fun z => hS5 (List.mem_append_right _ z)
      have hF7 := freshF_of l7 hF5 hS5 hA5
      have hS7 := freshS_of l7 hS5 hA5
      have fin : ∀ {w8 : Wd} {u : Val} {s8 : Sto}, Rl K w0 H0 w8 ee s8 σ4 H7 → Le w7 H7 w8 H7 → Rv K w8 u yv → o = some u → s8 = s4 → ∃ acc, H7 D = some (.lst acc) ∧ acc.length < sizeLine ∧ ∃ w3 s7 acc' us, Rl K w0 H0 w3 e s7 σ (upd H7 D (.lst (acc ++ [yv]))) ∧ Le w1 H1 w3 (upd H7 D (.lst (acc ++ [yv]))) ∧ (upd H7 D (.lst (acc ++ [yv]))) D = some (.lst acc') ∧ w3.F D = none ∧ D ∉ w3.mu ++ w3.nu ∧ All2 (Rv K w3) us acc' ∧
          ∃ rest, compI (compF wh tgt own mc me e) u0 dz.length k0 s7 = some (rest, s2) ∧ us ++ rest = vs := fun {w8 u s8} R8 l8 r8 eo es => by
        subst eo es
        have e6 : rest = u :: rest2 := e6
        subst e6
        have hF8 := freshF_of l8 hF7 hS7 hA7
        have hS8 := freshS_of l8 hS7 hA7
        have hA8 := hA7
        have env8 : All2 (fun o p => ∀ v, o = some v → ∃ x, p = some x ∧ Rv K w8 v x) e σ := R2.mono_env (((l3.trans l5).trans l7).trans l8)
        have R9 := (R8.reenv env8).scratch (o := .lst (acc ++ [yv])) hD0 hF8 hS8 (.lst hA8)
        refine ⟨acc, hA7, ?_, w8, _, _, us ++ [u], R9, ((L5.trans l7).trans l8).scratch hD (.lst hA8), upd_same, hF8, hS8, (Rvs.mono (((l3.trans l5).trans l7).trans l8) ra).app (.cons r8 .nil), rest2, e5, by rw [← hvs]; simp⟩
        have z1 : us.length + (rest2.length + 1) = vs.length := by rw [← hvs]; simp
        rw [size_line, ← ra.len]
        omega
      cases wh with
      | pure =>
        obtain ⟨x8, s8, e10, e4⟩ := bd_inv (show bd (keep v6) (fun x => rt (some (Val.d x))) s7 = some (o, s4) from e4)
        obtain ⟨e11, e12⟩ := rt_inv e4
        obtain ⟨w8, R8, l8, r8⟩ := keep_ok hw R7 r7 e10
        exact fin (u := .d x8) R8 l8 r8 e11 e12.symm
      | loc =>
        obtain ⟨e11, e12⟩ := rt_inv (show rt (some v6) s7 = some (o, s4) from e4)
        exact fin R7 .refl r7 e11 e12.symm
      | glob =>
        obtain ⟨e11, e12⟩ := rt_inv (show rt (some v6) s7 = some (o, s4) from e4)
        exact fin R7 .refl r7 e11 e12.symm
  · have hi2 : i = dz.length := by omega
    subst hi2
    rw [Nat.sub_self] at hcm
    obtain ⟨di, hp, hdl, e4, e5⟩ := compI_inv0 hcm
    obtain ⟨_, tp⟩ := peek_rt R2 (r0.mono l2) hp
    obtain ⟨a', xs, ea, hxs, rxs⟩ := tp
    cases ea
    subst e4 e5
    rw [List.append_nil] at hvs
    subst hvs
    refine .inl ⟨⟨xs, SqL.of hxs, by rw [← rpA_len rxs, hdl]; exact Nat.le_refl _⟩, ?_⟩
    obtain ⟨w3, R3, l3, r3⟩ := lay_ok hw R2 l2 hD hD0 hF hS hA ra ev
    exact k w3 _ H2 R3 (l1.trans l3) r3
  | _ => cases e2
theorem e_compi {wh : Wh} {tgt : Tg} {ma : Lv → M Val} {mc : Lv → M Bool} {me : Lv → M Val} {elt tg iter : Expr} {ifs : List Expr} {scope : Scope} {own : List (Str × Nat)} (hw : w0.nu = []) (hc : X.calm = true) (hN : X.N.Nodup) (ha : PE X iter (tE X.K w0 H0 ma)) (ok : BlkOk X.N X.env.scope scope own)
    (hg : ∀ (s : Shared) (H : Hp) (C : Addr) (cl : List (Str × Addr)) (fp : List Addr), PG (X.blk s H scope (compEnvC scope cl C X.env) fp) tg (tG X.K w0 H0 tgt)) (ht : ∀ (s : Shared) (H : Hp) (C : Addr) (cl : List (Str × Addr)) (fp : List Addr), PTs (X.blk s H scope (compEnvC scope cl C X.env) fp) ifs (tT X.K w0 H0 mc))
    (he : ∀ (s : Shared) (H : Hp) (C : Addr) (cl : List (Str × Addr)) (fp : List Addr), PE (X.blk s H scope (compEnvC scope cl C X.env) fp) elt (tE X.K w0 H0 me)) (hs : ∀ x, foldedSetIterable iter X.env x = pure x) (hin : tgIn tgt (own.map (·.2)) = true) :
    PE X (.ListComp elt [⟨tg, iter, ifs, 0⟩] scope pos) (tE X.K w0 H0 fun e => bd (ma e) fun u => bd (compJ (compF wh tgt (own.map (·.2)) mc me e) u) fun vs => if vs.length ≤ 16777216 then place wh vs else no) :=
  pe_imp (pe_lc hc hN (i_lst ha) ok hg ht he hs) fun σ H Q h => li_imp hw hin h
end
end Ev

/-! sorted(set(xs)), xs a list of ints -/
namespace Ev
open PySem PySem.Spec PyProof.Rows L2
abbrev nset (w : World) : Obj := { cls := .type "set", dict := none, data := .set #[] 0 (.fresh 0 0 (!w.params.followText "set-order")) }
section
variable {P : Program} {w : World} {A : Around} {E : Value → Shared → Prop} {s : Shared}
theorem set_lst {l : Addr} {items : Array Value} (ns : List Int) {Q : Value → Shared → Prop} (hh : A.handled = none) (hl : s.heap.IsList l items) (hit : IntsAre items.toList ns) (hb : ns.length + 1 < scanBound)
    (h : ∀ (h' : Heap) (tk c : Nat), SetR w h' s.heap.objs.size (fun j => decide (j ∈ ns)) c → c ≤ ns.length → (∀ b o, s.heap.get? b = some o → h'.get? b = some o) → Q (.ref s.heap.objs.size) { s with heap := h', toks := tk }) :
    wpAny (model P w) A (call (.type "set") [.ref l]) Q E s := by
  have hz : items.size = ns.length := by have q := IntsAre.length hit; rwa [Array.length_toList] at q
  obtain ⟨c, tl, hmro⟩ := F.called_set.mro
  have hmade := F.called_set.made
  have hsub := F.called_set.sub
  refine wpAny_call (codeAny_of_tree (wpAny_pure ⟨Code.quiet_builtin _ (by decide +kernel), codeAny_builtin F.entry_type_call ?_⟩))
  rw [Around.under_plain (weight_type_call_type "set" [.ref l] []) rfl]
  have k1 := F.called_set.notType
  have k2 := F.called_set.canCreate
  have k3 := F.typeCall_set_1 (.ref l)
  repeat (any_goals (first | assumption | wp_step))
  refine codeAny_mono (L2.code_set_led1 (.ref l) (E := E) (Q₁ := fun obj t => obj = .ref s.heap.objs.size ∧ t = { s with heap := s.heap.push (nset w) }) ⟨rfl, rfl⟩) fun r t hr => ?_
  cases r with
  | error e => exact hr
  | ok fl =>
    cases fl with
    | ret obj =>
      obtain ⟨rfl, rfl⟩ := hr
      have hS : (s.heap.push (nset w)).get? s.heap.objs.size = some (nset w) := Heap.get?_push_size _ rfl
      have hT : Shared.TypeIs { s with heap := s.heap.push (nset w) } (.ref s.heap.objs.size) "set" := ⟨_, hS, rfl⟩
      have k4 := F.called_set.init.lookup
      have k5 := F.called_set.init.bind (.ref s.heap.objs.size)
      repeat (any_goals (first | assumption | wp_step))
      refine codeAny_mono (codeAny_call_builtin (R := wants (fun r t => r = .none ∧ ∃ h' tk c, t = { s with heap := h', toks := tk } ∧ SetR w h' s.heap.objs.size (fun j => decide (j ∈ ns)) c ∧ c ≤ ns.length ∧ (∀ b o, s.heap.get? b = some o → h'.get? b = some o)) E) F.called_set.init.plain F.entry_set_init (check_set_init_1 hT ?_)) fun r2 t2 hr2 => ?_
      · obtain ⟨⟨oc, od, oda, osl⟩, hol, hcl, nl, hdl⟩ := hl
        simp only at hcl hdl
        subst hcl; subst hdl
        have hol' : (s.heap.push (nset w)).get? l = some { cls := .type "list", dict := od, data := .seq items nl, slots := osl } := Heap.get?_push_of_some _ hol
        have k6 := F.sub_list_set
        have k7 := F.sub_list_frozenset
        have hne : (Value.type "list" == Value.type "dict") = false := by decide
        have hl1 : (s.heap.push (nset w)).IsList l items := ⟨_, hol', rfl, nl, rfl⟩
        unfold Builtin.«set.__init__» noKeywords Builtin.Frozenset.updateFrom
        generalize hPI : pyIter = PI
        wp_walk
        subst hPI
        refine wpAny_pyIter_list hl1 ?_
        refine wpAny_bind (wpAny_runValue ?_)
        have hlS : l < s.heap.objs.size := Heap.lt_size hol
        have hh3 : A.in1.in1.in1.handled = none := by simp [hh]
        have hneI : l ≠ (s.heap.push (nset w)).objs.size := by rw [Heap.size_push]; exact Nat.ne_of_lt (Nat.lt_succ_of_lt hlS)
        have hSf : s.heap.objs.size ∉ [(s.heap.push (nset w)).objs.size, l] := by
          rw [Heap.size_push]
          simp only [List.mem_cons, List.mem_singleton, List.not_mem_nil, or_false, not_or]
          exact ⟨Nat.ne_of_lt (Nat.lt_succ_self _), Nat.ne_of_gt hlS⟩
        have hval : ∀ (i : Nat) (v : Value), items[i]? = some v → ∃ k t, ns[i]? = some k ∧ v = .int k t := fun i v hv => by
          have hi : i < ns.length := by rw [← hz]; exact (Array.getElem?_eq_some_iff.mp hv).1
          obtain ⟨t, e⟩ := PyProof.Rows.IntsAre.int_at hit i v (by rw [Array.getElem?_toList]; exact hv)
          exact ⟨ns[i], t, List.getElem?_eq_getElem hi, by rw [e, List.getD_eq_getElem?_getD, List.getElem?_eq_getElem hi] <;> rfl⟩
        refine set_update_ints ((Walks.list hh3 _ l hneI items).toS) s.heap.objs.size hSf ns hz hb hval (items.size - 0) 0 _ (by omega) (Nat.zero_le _) ⟨⟨_, Heap.get?_push_size _ rfl, rfl, rfl⟩, (hl1.push _)⟩ ⟨0, Nat.le_refl 0, setR_new_at (Heap.get?_push_of_some _ hS)⟩ fun t3 c3 hm hc3 hS3 => ?_
        obtain ⟨h', g2, d', tk', os'⟩ := t3
        have eg : g2 = s.gens := hm.gens
        have ed : d' = s.drawn := hm.drawn
        have eo : os' = s.os := hm.os
        subst eg; subst ed; subst eo
        show wpAny _ _ _ _ _ _
        refine wpAny_pure ?_
        show wpAny _ _ (ret Value.none) _ _ _
        refine wpAny_pure ⟨rfl, h', tk', c3, rfl, hS3, by omega, fun b o e => hm.heap b o ?_ (Heap.get?_push_of_some _ (Heap.get?_push_of_some _ e))⟩
        have hb0 : b < s.heap.objs.size := Heap.lt_size e
        rw [Heap.size_push]
        simp only [List.mem_cons, List.mem_singleton, List.not_mem_nil, or_false, not_or]
        exact ⟨Nat.ne_of_lt hb0, Nat.ne_of_lt (Nat.lt_succ_of_lt hb0)⟩
      · cases r2 with
        | error e => exact hr2
        | ok fl =>
          cases fl with
          | ret v =>
            obtain ⟨rfl, h', tk, c3, rfl, q1, q2, q3⟩ := hr2
            repeat (any_goals (first | assumption | wp_step))
            exact h h' tk c3 q1 q2 q3
          | _ => exact hr2
    | _ => exact hr
end
/-- a set that stands is no code object -/
theorem set_code {w : World} {a : Addr} {S : Int → Bool} {n : Nat} {q : Str} : SetO w a S n ≠ LamX.CodeO a q := fun z => by
  unfold SetO LamX.CodeO at z
  have z := HO.ext.inj z
  let ob : Obj := { cls := .none, data := .fields #[.none, .str q 0] }
  let h0 : Heap := { (default : Heap) with objs := Array.replicate a ob }
  have e : (h0.push ob).get? h0.objs.size = some ob := Heap.get?_push_size _ rfl
  have sz : h0.objs.size = a := Array.size_replicate
  rw [sz] at e
  have t : SetR w (h0.push ob) a S n := by
    rw [congrFun z (h0.push ob)]
    exact ⟨ob, _, _, e, rfl, rfl⟩
  obtain ⟨o, es, ep, t, ho, _, hd, _⟩ := t
  rw [e] at ho
  cases ho
  cases hd
theorem pl_set {w : World} {H : Hp} {a : Addr} {S : Int → Bool} {n : Nat} (h : H a = some (SetO w a S n)) : Pl H a := fun o e => by
  rw [h] at e
  cases e
  refine ⟨fun ps z => ?_, fun q => set_code⟩
  unfold SetO at z
  cases z
end Ev

namespace Ev
open PySem PySem.Spec PyProof.Rows L2
theorem insU_mem (x k : Int) : ∀ ys : List Int, k ∈ insU x ys ↔ k = x ∨ k ∈ ys
  | [] => by simp [insU]
  | y :: ys => by
    unfold insU
    split
    · simp
    · split
      · rename_i h
        subst h
        simp
      · rw [List.mem_cons, insU_mem x k ys, List.mem_cons]
        constructor
        · rintro (h | h | h) <;> simp [h]
        · rintro (h | h | h) <;> simp [h]
theorem insU_pw (x : Int) : ∀ {ys : List Int}, ys.Pairwise (· < ·) → (insU x ys).Pairwise (· < ·)
  | [], _ => by simp [insU]
  | y :: ys, h => by
    have h' := List.pairwise_cons.mp h
    unfold insU
    split
    · rename_i hx
      refine List.pairwise_cons.mpr ⟨fun z hz => ?_, h⟩
      rcases List.mem_cons.mp hz with e | e
      · omega
      · have := h'.1 z e
        omega
    · split
      · exact h
      · refine List.pairwise_cons.mpr ⟨fun z hz => ?_, insU_pw x h'.2⟩
        rcases (insU_mem x z ys).mp hz with e | e
        · omega
        · exact h'.1 z e
theorem usort_mem (k : Int) : ∀ ns : List Int, k ∈ usort ns ↔ k ∈ ns
  | [] => by simp [usort]
  | n :: ns => by
    rw [show usort (n :: ns) = insU n (usort ns) from rfl, insU_mem, usort_mem k ns, List.mem_cons]
theorem usort_pw : ∀ ns : List Int, (usort ns).Pairwise (· < ·)
  | [] => by simp [usort]
  | n :: ns => insU_pw n (usort_pw ns)
theorem asc_eq : ∀ {xs ys : List Int}, xs.Pairwise (· < ·) → ys.Pairwise (· < ·) → (∀ k, k ∈ xs ↔ k ∈ ys) → xs = ys
  | [], [], _, _, _ => rfl
  | [], y :: ys, _, _, h => absurd ((h y).mpr List.mem_cons_self) (by simp)
  | x :: xs, [], _, _, h => absurd ((h x).mp List.mem_cons_self) (by simp)
  | x :: xs, y :: ys, hx, hy, h => by
    have hx' := List.pairwise_cons.mp hx
    have hy' := List.pairwise_cons.mp hy
    have e : x = y := by
      rcases List.mem_cons.mp ((h x).mp List.mem_cons_self) with a | a
      · exact a
      · rcases List.mem_cons.mp ((h y).mpr List.mem_cons_self) with b | b
        · exact b.symm
        · have := hx'.1 y b
          have := hy'.1 x a
          omega
    subst e
    congr 1
    refine asc_eq hx'.2 hy'.2 fun k => ⟨fun hk => ?_, fun hk => ?_⟩
    · rcases List.mem_cons.mp ((h k).mp (List.mem_cons_of_mem _ hk)) with e | e
      · have := hx'.1 k hk
        omega
      · exact e
    · rcases List.mem_cons.mp ((h k).mpr (List.mem_cons_of_mem _ hk)) with e | e
      · have := hy'.1 k hk
        omega
      · exact e
theorem rpA_ints {K : PySem.W.Frag} {F : Hp} : ∀ ns : List Int, RpA K F (ns.map PyData.int) (ns.map V.int)
  | [] => by unfold RpA; rfl
  | n :: ns => by
    rw [List.map_cons, List.map_cons]
    unfold RpA
    exact ⟨_, _, rfl, rp_int, rpA_ints ns⟩
section
variable {X : Cx} {w0 : Wd} {H0 : Hp} {ma : Lv → M Val}
theorem e_ss {e : Expr} (C : Cn X) (ha : PE X e (tCB (semC X (.builtin "sorted")) (tCons (tCB (semC X (.type "set")) (tCons (tE X.K w0 H0 ma) tNil)) tNil))) :
    PE X e (tE X.K w0 H0 fun e => bd (ma e) fun v => bd (peek v) fun x => ofO ((ssD x).map .d)) := pe_imp ha fun σ H Q h => by
  obtain ⟨w, e, s, v, s', R, ev, k⟩ := h
  obtain ⟨v1, s1, e1, ev⟩ := bd_inv ev
  refine ⟨w, e, s, v1, s1, R, e1, fun w1 x H1 R1 l1 r1 => fun pins sh si us I rv => ?_⟩
  obtain ⟨u, eu, rx⟩ := vals1 rv
  subst eu
  obtain ⟨d, t1, ev⟩ := pk R1 r1 ev
  obtain ⟨d2, e5, e6, e7⟩ := of_map ev
  subst e6 e7
  cases d with
  | list ds =>
    have e5 : (ints? ds).bind (fun ns => if ns.length < 64 then some (PyData.list ((usort ns).map .int)) else none) = some d2 := e5
    obtain ⟨ns, h1, h2⟩ := Option.bind_eq_some_iff.mp e5
    split at h2
    case isFalse => cases h2
    case isTrue hz =>
    cases h2
    obtain ⟨p, xs, rfl, h3, h4⟩ := t1
    rw [ints_rp h1 h4] at h3
    obtain ⟨its, rv2, pl, _⟩ := I.list (SqL.of h3)
    cases rx
    refine set_lst ns (I.ok.hd C.calm) pl.isList (by simpa using rv2.ints) (by unfold scanBound; omega) fun h' tk c hS hc hk => ?_
    have hf : H1 sh.heap.objs.size = none := I.hok.fresh (Nat.le_refl _)
    refine ⟨.ref sh.heap.objs.size, upd H1 sh.heap.objs.size (SetO X.w sh.heap.objs.size (fun j => decide (j ∈ ns)) c), I.laid (t' := tk) hk (Nat.le_refl _) (setO_new hS), rfl, ?_⟩
    intro pins2 sh2 si2 us2 I2 rv3
    refine cr_sortedSet C.calm pins2 sh2 si2 _ _ us2 Q I2 rv3 ⟨_, _, c, rfl, upd_same, by omega, fun ns2 p2 pw mem _ hp2 => ?_⟩
    have R2 := R1.scratch (o := SetO X.w sh.heap.objs.size (fun j => decide (j ∈ ns)) c) (R1.le.back hf) (R1.freshF hf) (R1.freshS hf) (.none hf)
    have l2 : Le w1 H1 w1 (upd H1 sh.heap.objs.size (SetO X.w sh.heap.objs.size (fun j => decide (j ∈ ns)) c)) := Le.scratch .refl hf (.none hf)
    obtain ⟨R3, l3⟩ := R2.new (o := .lst (ns2.map V.int)) hp2
    refine k _ _ _ R3 ((l1.trans l2).trans l3) ?_
    have e8 : ns2 = usort ns := asc_eq pw (usort_pw ns) fun k => by rw [mem k, usort_mem, decide_eq_true_eq]
    show Rp _ _ (.list ((usort ns).map .int)) (.ref p2)
    rw [← e8]
    unfold Rp
    exact ⟨p2, _, rfl, upd_same, rpA_ints ns2⟩
  | _ => cases e5
end
end Ev

/-! sorted({elt for target in iter if ..}), elt an int -/
namespace Ev
open PySem PySem.Spec PyProof.Rows L2
section
variable {X : Cx}
/-- the body of a turn: D the set -/
def tSi (w : World) (wi : TI) (g : TG) (tt : TT) (te : TE) (vs : List Nat) : TE := fun σ H Q => wi σ H fun J H1 => ∀ D, H1 D = none → ∃ W : Nat → Nat → Hp → Prop, (∃ m, W 0 m (upd H1 D (SetO w D (fun _ => false) 0))) ∧ ∀ i m H, W i m H →
  (J.stop i H ∧ Q (.ref D) H) ∨ (J.go i H ∧ ∃ Nx : Hp → Prop, (∀ H', Nx H' → ∃ m', m' < m ∧ W (i + 1) m' H') ∧ ∀ x H', J.yld i H x H' → g x (wipe σ vs) H' fun σ2 H2 => wipe σ2 vs = wipe σ vs ∧ tt σ2 H2 fun b H3 =>
    if b = true then te σ2 H3 fun y H4 => ∃ (c : Int) (S : Int → Bool) (n : Nat), y = .int c ∧ H4 D = some (SetO w D S n) ∧ n + 1 < scanBound ∧ Nx (upd H4 D (SetO w D (fun j => S j || decide (j = c)) (if S c = true then n else n + 1))) else Nx H3)
abbrev freshSet (w : World) : Obj := { cls := .type "set", dict := none, data := .set #[] 0 (.fresh 0 0 (!w.params.followText "set-order")) }
theorem si_core {pins : List (Addr × Obj)} {s : Shared} {σ : L2.St} {H : Hp} {Q : VK} {elt tg iter : Expr} {ifs : List Expr} {scope : Scope} {own : List (PySem.Str × Nat)} {pos pos' : Pos} {wi : TI} {g : TG} {tt : TT} {te : TE} {use : Option (Value → Sem Unit)} {Qf : Value → Shared → Prop}
    (hc : X.calm = true) (hN : X.N.Nodup) (I : Inv X pins σ H s) (hi : PI X tg iter wi) (ok : BlkOk X.N X.env.scope scope own)
    (hg : ∀ (s : Shared) (H : Hp) (C : Addr) (cl : List (PySem.Str × Addr)) (fp : List Addr), PG (X.blk s H scope (compEnvC scope cl C X.env) fp) tg g)
    (ht : ∀ (s : Shared) (H : Hp) (C : Addr) (cl : List (PySem.Str × Addr)) (fp : List Addr), PTs (X.blk s H scope (compEnvC scope cl C X.env) fp) ifs tt)
    (he : ∀ (s : Shared) (H : Hp) (C : Addr) (cl : List (PySem.Str × Addr)) (fp : List Addr), PE (X.blk s H scope (compEnvC scope cl C X.env) fp) elt te)
    (hs : ∀ x, foldedSetIterable iter X.env x = pure x) (h : tSi X.w wi g tt te (own.map (·.2)) σ H Q)
    (hRR : ∀ D C s' m H', Inv X pins σ H' s' → Q (.ref D) H' → s'.heap.Ns C m → FpOk X pins H' C → compPost (model X.prog X.w) X.A X.xe use Qf (.ref D) C (.ok .next) s') :
    wpAny (model X.prog X.w) X.A (comprehension (.SetComp elt [⟨tg, iter, ifs, 0⟩] scope pos) scope X.env pos' (newSet (.type "set")) false (eval iter X.env) use) Qf X.xe s := by
  have hfree : ∀ y ∈ scope.names, y.2 = .free → ∃ c, X.env.cells.lookup y.1 = some c := fun y hy e => (ok.free y hy e).elim (fun k => I.ok.has _ (.inl k)) fun k => I.ok.has _ (.inr k)
  refine wpAny_comprehension_free (use := use) rfl hs (closure_ok hfree) ok.kind (fun y hy e => by rw [ok.uniq y hy, e])
    (thn (hi.run pins s σ H _ I h) fun xv s1 hx => thn hx fun itv s2 h2 => ?_)
  obtain ⟨it, fp, tn, J, H2, e, I2, T, st2, f2, q⟩ := h2
  subst e
  refine PpSet.newSet_ok (newEnv_comp ?_)
  generalize hD : s2.heap.objs.size = D
  have hDn : H2 D = none := I2.hok.fresh (Nat.le_of_eq hD)
  obtain ⟨W, ⟨m0, w0⟩, turn⟩ := q D hDn
  -- the set stands
  generalize hO : SetO X.w D (fun _ => false) 0 = O0 at w0
  obtain ⟨s3, hs3⟩ : ∃ s3 : Shared, s3 = { s2 with heap := s2.heap.push (freshSet X.w) } := ⟨_, rfl⟩
  have h3 : s3.heap = s2.heap.push (freshSet X.w) := by rw [hs3]
  have new : ObjOk X.prog X.w (upd H2 D O0) (s2.heap.push (freshSet X.w)) D O0 := by
    rw [← hO, ← hD]
    exact setO_new (setR_fresh X.w)
  have I3 : Inv X pins σ (upd H2 D O0) s3 := by
    rw [hs3]
    exact I2.laid (t' := s2.toks) (fun b o e => Heap.get?_push_of_some _ e) (Nat.le_of_eq hD) new
  have sz : ∀ b ∈ fp, b < s2.heap.objs.size := fun b hb => by
    obtain ⟨o, e, _⟩ := T.obj _ _ st2 b hb
    exact Heap.lt_size e
  have f3 : ∀ b ∈ fp, FpOk X pins (upd H2 D O0) b ∧ b < s3.heap.objs.size := fun b hb => by
    have hlt := sz b hb
    have hb' : b ≠ D := by rw [← hD]; exact Nat.ne_of_lt hlt
    exact ⟨⟨by rw [upd_ne hb']; exact (f2 b hb).1, (f2 b hb).2⟩, by rw [h3, Heap.size_push]; exact Nat.lt_succ_of_lt hlt⟩
  have st3 : tn 0 s3.heap := T.keep _ _ _ st2 fun b _ o e => by rw [h3]; exact Heap.get?_push_of_some _ e
  have I4 := block_start I3 ok hN f3
  obtain ⟨cl, hcl⟩ : ∃ cl, cl = cellsFrom (s3.heap.objs.size + 1) scope.names (cloFrom X.env.cells scope.names []) := ⟨_, rfl⟩
  rw [← hcl] at I4
  have pg := hg s3 (upd H2 D O0) s3.heap.objs.size cl fp
  have pt := ht s3 (upd H2 D O0) s3.heap.objs.size cl fp
  have pe := he s3 (upd H2 D O0) s3.heap.objs.size cl fp
  rw [← hs3, ← hcl]
  show codeAny _ _ (.compStart (.SetComp elt [⟨tg, iter, ifs, 0⟩] scope pos) 0 (.ref it) (.ref D) (compEnvC scope cl s3.heap.objs.size X.env)) (compPost (model X.prog X.w) X.A X.xe use Qf (.ref D) s3.heap.objs.size) { s3 with heap := pushCells (s3.heap.push { cls := .type "dict", data := .dict #[] }) scope.names }
  have nfp : ∀ b ∈ fp, (upd H2 D O0) b = none := fun b hb => (f3 b hb).1.1
  generalize hce : compEnvC scope cl s3.heap.objs.size X.env = ce at I4 pg pt pe ⊢
  have cL : ce.locals = s3.heap.objs.size := by subst hce; rfl
  generalize hH3 : upd H2 D O0 = H3 at I3 I4 pg pt pe w0 nfp f3
  obtain ⟨s4, hs4⟩ : ∃ s4 : Shared, s4 = { s3 with heap := pushCells (s3.heap.push { cls := .type "dict", data := .dict #[] }) scope.names } := ⟨_, rfl⟩
  rw [← hs4] at I4 ⊢
  have st4 : tn 0 s4.heap := T.keep _ _ _ st3 fun b _ o e => by rw [hs4]; exact pushCells_keeps _ _ _ _ (Heap.get?_push_of_some _ e)
  have stat : ∀ {σ' : L2.St} {H' : Hp} {s' : Shared}, Inv (X.blk s3 H3 scope ce fp) [] σ' H' s' → (∀ b ∈ fp, H' b = none) → ∀ b ∈ fp, FpOk (X.blk s3 H3 scope ce fp) [] H' b := fun {σ' H' s'} I' hn b hb =>
    ⟨hn b hb, (I'.ok.exf b hb).1, I'.ok.exfs b hb, .inl hb, fun x c e => (I'.ok.exf b hb).2 x c e, fun p hp => absurd (show p ∈ ([] : List (Addr × Obj)) ++ [] from hp) (by simp)⟩
  have loop : codeAny (model X.prog X.w) X.A (.compLoop (.SetComp elt [⟨tg, iter, ifs, 0⟩] scope pos) 0 (.ref it) (.ref D) ce) (compPost (model X.prog X.w) X.A X.xe use Qf (.ref D) s3.heap.objs.size) s4 := by
    refine PpSet.compLoopS_any (fun n s' => ∃ i H', Inv (X.blk s3 H3 scope ce fp) [] (wipe σ (own.map (·.2))) H' s' ∧ tn i s'.heap ∧ (∀ b ∈ fp, H' b = none) ∧ W i n H') ?_ m0 ⟨0, H3, I4, st4, nfp, w0⟩
    rintro n s5 ⟨i, H5, I5, st5, n5, w5⟩
    rcases turn i n H5 w5 with ⟨stop, qq⟩ | ⟨go, Nx, hNx, step⟩
    · refine thnF (T.done (X.blk s3 H3 scope ce fp) rfl rfl rfl hc i [] s5 _ H5 (fun _ _ => False) I5 (stat I5 n5) st5 stop) fun r s6 ⟨hr, I6⟩ => ?_
      subst hr
      have I7 : Inv X pins σ H5 s6 := I3.call' (ch := fp) I6.os I6.base I6.hok I6.bare fun b hb => ⟨(f3 b hb).1.2.2.2.1, (f3 b hb).1.2.1, (f3 b hb).1.2.2.2.2.1, (f3 b hb).1.2.2.2.2.2⟩
      have nC : H5 s3.heap.objs.size = none := cL ▸ (show H5 ce.locals = none from I6.free)
      obtain ⟨m, hn, _⟩ := I6.loc
      exact hRR D s3.heap.objs.size s6 m H5 I7 qq (cL ▸ (show s6.heap.Ns ce.locals m from hn)) (I3.fpOk (Nat.le_refl _) nC)
    · refine thnF (T.item (X.blk s3 H3 scope ce fp) rfl rfl rfl hc i [] s5 _ H5 (fun _ _ => False) I5 (stat I5 n5) st5 go) fun r s6 ⟨u, hr, h6⟩ => ?_
      subst hr
      refine thnF h6 fun _ s7 ⟨x, H7, I7, r7, y7, st7, n7⟩ => ?_
      have I7' := I7.pinned (stat I7 n7) (T.obj _ _ st7)
      refine thnF (pg.run _ s7 _ H7 x u _ I7' r7 (step x H7 y7)) fun _ s8 ⟨σ8, H8, I8, hw8, q8⟩ => ?_
      refine thnF (pt.run _ s8 σ8 H8 _ I8 q8) fun b s9 ⟨H9, I9, q9⟩ => ?_
      have fin : ∀ {s' : Shared} {H' : Hp}, Inv (X.blk s3 H3 scope ce fp) ([] ++ pinsAt fp s7.heap) σ8 H' s' → Nx H' → ∃ m, m < n ∧ ∃ i H', Inv (X.blk s3 H3 scope ce fp) [] (wipe σ (own.map (·.2))) H' s' ∧ tn i s'.heap ∧ (∀ b ∈ fp, H' b = none) ∧ W i m H' := fun {s' H'} I' nx => by
        obtain ⟨m', hm, w'⟩ := hNx H' nx
        have pin' : ∀ b ∈ fp, ∀ o, s7.heap.get? b = some o → s'.heap.get? b = some o ∧ H' b = none := fun b hb o e => (I'.pin (b, o) (List.mem_append_right _ (List.mem_append_right _ (mem_pinsAt hb e)))).imp id And.left
        refine ⟨m', hm, i + 1, H', (I'.unpinned (pins := [])).weak (by rw [← hw8, wipe_length]) (fun j v e => by rw [← hw8] at e; exact (wipe_some e).1), T.keep _ _ _ st7 fun b hb o e => (pin' b hb o e).1, fun b hb => ?_, w'⟩
        obtain ⟨o, e, _⟩ := T.obj _ _ st7 b hb
        exact (pin' b hb o e).2
      cases b with
      | false =>
        simp only [Bool.false_eq_true, if_false] at q9 ⊢
        exact fin I9 q9
      | true =>
        simp only [if_true] at q9 ⊢
        refine thnF (pe.run _ s9 σ8 H9 _ I9 q9) fun z s10 ⟨yv, H10, I10, r10, c, S0, n0, ey, hD10, hz10, nx⟩ => ?_
        subst ey
        have ad := mt_sadd (X := X.blk s3 H3 scope ce fp) _ s10 σ8 H10 (.ref D) [.int c] (.ref D) [z] (fun v H' => v = .non ∧ H' = upd H10 D (SetO X.w D (fun j => S0 j || decide (j = c)) (if S0 c = true then n0 else n0 + 1))) I10 rfl (.cons r10 .nil) ⟨D, c, S0, n0, rfl, rfl, hD10, hz10, rfl, rfl⟩
        refine wpAny_mono ad (fun _ s11 hq => ?_) fun e s' hq => ?_
        · obtain ⟨v, H11, I11, _, _, e11⟩ := hq
          subst e11
          exact fin I11 nx
        · exact False.elim hq
  exact PpSet.codeAny_compStart_set loop (T.self X.A 0 _ _ _ st4 loop)
theorem pe_si {elt tg iter : Expr} {ifs : List Expr} {scope : Scope} {own : List (PySem.Str × Nat)} {pos : Pos} {wi : TI} {g : TG} {tt : TT} {te : TE} (hc : X.calm = true) (hN : X.N.Nodup) (hi : PI X tg iter wi) (ok : BlkOk X.N X.env.scope scope own)
    (hg : ∀ (s : Shared) (H : Hp) (C : Addr) (cl : List (PySem.Str × Addr)) (fp : List Addr), PG (X.blk s H scope (compEnvC scope cl C X.env) fp) tg g)
    (ht : ∀ (s : Shared) (H : Hp) (C : Addr) (cl : List (PySem.Str × Addr)) (fp : List Addr), PTs (X.blk s H scope (compEnvC scope cl C X.env) fp) ifs tt)
    (he : ∀ (s : Shared) (H : Hp) (C : Addr) (cl : List (PySem.Str × Addr)) (fp : List Addr), PE (X.blk s H scope (compEnvC scope cl C X.env) fp) elt te)
    (hs : ∀ x, foldedSetIterable iter X.env x = pure x) : PE X (.SetComp elt [⟨tg, iter, ifs, 0⟩] scope pos) (tSi X.w wi g tt te (own.map (·.2))) := by
  refine ⟨fun pins s σ H Q I h => ?_⟩
  rw [PpSet.eval_SetComp]
  refine si_core hc hN I hi ok hg ht he hs h fun D C s' m H' I' q hn f => ⟨m, hn, fun h'' sb => ?_⟩
  obtain ⟨f0, f1, f2, f3, f4, f5⟩ := f
  exact ⟨.ref D, H', I'.turned (t' := s'.toks) (fun b o hb e => (sb.2 b hb).trans e) f0 f1 f3 f4 f5, rfl, q⟩
end
theorem scompF_inv {tgt : Tg} {own : List Nat} {mc : Lv → M Bool} {me : Lv → M Val} {e : Lv} {x : PyData} {s s' : Sto} {o : Option Int} (h : scompF tgt own mc me e x s = some (o, s')) :
    ∃ e1, asgT tgt (.d x) (wipeL e own) = some e1 ∧ bd (mc e1) (fun k => if k then bd (me e1) fun v => bd (peek v) fun x => (match x with | .int i => rt (some i) | _ => no) else rt none) s = some (o, s') := by
  unfold scompF at h
  cases q : asgT tgt (.d x) (wipeL e own) with
  | none => rw [q] at h; cases h
  | some e1 => rw [q] at h; exact ⟨e1, rfl, h⟩
/-- the ints that stand in a set: those of a list -/
def Ins (S : Int → Bool) (n : Nat) (us : List Int) : Prop := (∀ k, S k = decide (k ∈ us)) ∧ n ≤ us.length
theorem Ins.nil : Ins (fun _ => false) 0 [] := ⟨fun k => by simp, Nat.le_refl _⟩
theorem Ins.add {S : Int → Bool} {n : Nat} {us : List Int} (h : Ins S n us) (c : Int) : Ins (fun j => S j || decide (j = c)) (if S c = true then n else n + 1) (us ++ [c]) := by
  refine ⟨fun k => ?_, ?_⟩
  · show (S k || decide (k = c)) = decide (k ∈ us ++ [c])
    rw [h.1 k, ← Bool.decide_or]
    simp
  · rw [List.length_append]
    have := h.2
    split <;> simp <;> omega
section
variable {X : Cx} {w0 : Wd} {H0 : Hp} {pos : Pos}
theorem si_imp {tgt : Tg} {mi : Lv → M (List PyData)} {mc : Lv → M Bool} {me : Lv → M Val} {own : List Nat} {K : PySem.W.Frag} {W0 : World} (hw : w0.nu = []) (hin : tgIn tgt own = true) {σ : L2.St} {H : Hp} {Q : VK}
    (h : ∃ w e s ds s1 vs s2, Rl K w0 H0 w e s σ H ∧ mi e s = some (ds, s1) ∧ scompL (scompF tgt own mc me e) ds s1 = some (vs, s2) ∧ vs.length < 63 ∧
      ∀ w' D S n H', Rl K w0 H0 w' e s2 σ H' → Le w H w' H' → H' D = some (SetO W0 D S n) → w'.F D = none → D ∉ w'.mu ++ w'.nu → Ins S n vs → Q (.ref D) H') :
    tSi W0 (tI K w0 H0 mi) (tG K w0 H0 tgt) (tT K w0 H0 mc) (tE K w0 H0 me) own σ H Q := by
  obtain ⟨w, e, s, ds, s1, vs, s2, R, e1, e2, hz, k⟩ := h
  refine ⟨w, e, s, ds, s1, R, e1, fun w1 J H1 R1 l1 wk D hD => ?_⟩
  have hD0 : H0 D = none := R1.le.back hD
  refine ⟨fun i m H => m = ds.length - i ∧ i ≤ ds.length ∧ ∃ w2 s3 S n us rest, Rl K w0 H0 w2 e s3 σ H ∧ Le w1 H1 w2 H ∧ H D = some (SetO W0 D S n) ∧ w2.F D = none ∧ D ∉ w2.mu ++ w2.nu ∧ Ins S n us ∧
    scompL (scompF tgt own mc me e) (ds.drop i) s3 = some (rest, s2) ∧ us ++ rest = vs, ⟨ds.length, by simp, Nat.zero_le _, w1, s1, _, 0, [], vs, R1.scratch hD0 (R1.freshF hD) (R1.freshS hD) (.none hD), Le.scratch .refl hD (.none hD), upd_same, R1.freshF hD, R1.freshS hD, Ins.nil, by simpa using e2, rfl⟩, ?_⟩
  rintro i m H2 ⟨rfl, hi, w2, s3, S, n, us, rest, R2, l2, hA, hF, hS, ra, hcm, hvs⟩
  by_cases hlt : i < ds.length
  · have hdr : ds.drop i = ds[i] :: ds.drop (i + 1) := List.drop_eq_getElem_cons hlt
    rw [hdr] at hcm
    obtain ⟨o, s4, e4, hcm⟩ := bd_inv (show bd (scompF tgt own mc me e ds[i]) (fun o => bd (scompL (scompF tgt own mc me e) (ds.drop (i + 1))) fun vs => rt (match o with | some v => v :: vs | none => vs)) s3 = some (rest, s2) from hcm)
    obtain ⟨rest2, s5, e5, hcm⟩ := bd_inv hcm
    obtain ⟨e6, e7⟩ := rt_inv hcm
    subst e7
    obtain ⟨ee, hee, e4⟩ := scompF_inv e4
    obtain ⟨kb, s6, e8, e4⟩ := bd_inv e4
    refine .inr ⟨wk.goes i H2 hlt (l2.f.trans R2.fh), fun H' => ∃ w3 s7 S n us, Rl K w0 H0 w3 e s7 σ H' ∧ Le w1 H1 w3 H' ∧ H' D = some (SetO W0 D S n) ∧ w3.F D = none ∧ D ∉ w3.mu ++ w3.nu ∧ Ins S n us ∧
      ∃ rest, scompL (scompF tgt own mc me e) (ds.drop (i + 1)) s7 = some (rest, s2) ∧ us ++ rest = vs, fun H' ⟨w3, s7, S', n', us', R3, l3, h1, h2, h3, h4, rest', h5, h6⟩ => ⟨_, by omega, rfl, hlt, w3, s7, S', n', us', rest', R3, l3, h1, h2, h3, h4, h5, h6⟩, fun x H3 y => ?_⟩
    obtain ⟨w3, d, hd, R3, l3, rd⟩ := wk.turn R2 l2.f hlt y
    have ed : ds[i] = d := by
      have := hd
      rw [List.getElem?_eq_getElem hlt] at this
      exact Option.some.inj this
    subst ed
    have hA3 : H3 D = some (SetO W0 D S n) := l3.same D _ hA (fun z => hS (List.mem_append_left _ z)) fun z => hS (List.mem_append_right _ z)
    refine ⟨w3, wipeL e own, s3, .d ds[i], ee, R3.reenv (env_wipe R3.env own), rd, hee, fun σ4 R4 z4 => ⟨?_, w3, ee, s3, kb, s6, R4, e8, fun w5 H5 R5 l5 => ?_⟩⟩
    · rw [z4 own hin]
      exact wipe_wipe σ fun _ h => h
    have hF3 := freshF_of l3 hF hS hA
    have hS3 := freshS_of l3 hS hA
    have hA5 : H5 D = some (SetO W0 D S n) := l5.same D _ hA3 (fun z => hS3 (List.mem_append_left _ z)) fun z => hS3 (List.mem_append_right _ z)
    have hF5 := freshF_of l5 hF3 hS3 hA3
    have hS5 := freshS_of l5 hS3 hA3
    have L5 : Le w1 H1 w5 H5 := (l2.trans l3).trans l5
    have env5 : All2 (fun o p => ∀ v, o = some v → ∃ x, p = some x ∧ Rv K w5 v x) e σ := R2.mono_env (l3.trans l5)
    cases kb with
    | false =>
      obtain ⟨e9, e10⟩ := rt_inv (show rt none s6 = some (o, s4) from e4)
      subst e9 e10
      show (if false = true then _ else _)
      rw [if_neg Bool.false_ne_true]
      exact ⟨w5, _, S, n, us, R5.reenv env5, L5, hA5, hF5, hS5, ra, rest2, e5, by rw [← hvs, e6]⟩
    | true =>
      obtain ⟨v6, s7, e9, e4⟩ := bd_inv (show bd (me ee) (fun v => bd (peek v) fun x => (match x with | .int i => rt (some i) | _ => no)) s6 = some (o, s4) from e4)
      show (if true = true then _ else _)
      rw [if_pos rfl]
      refine ⟨w5, ee, s6, v6, s7, R5, e9, fun w7 yv H7 R7 l7 r7 => ?_⟩
      have hA7 : H7 D = some (SetO W0 D S n) := l7.same D _ hA5 (fun z => hS5 (List.mem_append_left _ z)) fun z => hS5 (List.mem_append_right _ z)
      have hF7 := freshF_of l7 hF5 hS5 hA5
      have hS7 := freshS_of l7 hS5 hA5
      obtain ⟨kx, tk, e4⟩ := pk R7 r7 e4
      cases kx with
      | int c =>
        obtain ⟨e11, e12⟩ := rt_inv (show rt (some c) s7 = some (o, s4) from e4)
        subst e11 e12
        have e6 : rest = c :: rest2 := e6
        subst e6
        have env8 : All2 (fun o p => ∀ v, o = some v → ∃ x, p = some x ∧ Rv K w7 v x) e σ := R2.mono_env ((l3.trans l5).trans l7)
        have R9 := (R7.reenv env8).scratch (o := SetO W0 D (fun j => S j || decide (j = c)) (if S c = true then n else n + 1)) hD0 hF7 hS7 (pl_set hA7)
        have z1 : us.length + (rest2.length + 1) = vs.length := by rw [← hvs]; simp
        refine ⟨c, S, n, tk, hA7, ?_, w7, _, _, _, us ++ [c], R9, (L5.trans l7).scratch hD (pl_set hA7), upd_same, hF7, hS7, ra.add c, rest2, e5, by rw [← hvs]; simp⟩
        have := ra.2
        show n + 1 < 4096
        omega
      | _ => cases e4
  · have hi2 : i = ds.length := by omega
    subst hi2
    rw [List.drop_length] at hcm
    obtain ⟨e4, e5⟩ := rt_inv (show rt [] s3 = some (rest, s2) from hcm)
    subst e4 e5
    rw [List.append_nil] at hvs
    subst hvs
    exact .inl ⟨wk.stops H2 (l2.f.trans R2.fh), k w2 D S n H2 R2 (l1.trans l2) hA hF hS ra⟩
theorem e_ssc {e : Expr} {tgt : Tg} {mi : Lv → M (List PyData)} {mc : Lv → M Bool} {me : Lv → M Val} {own : List Nat} (hw : w0.nu = []) (hin : tgIn tgt own = true) (C : Cn X)
    (ha : PE X e (tCB (semC X (.builtin "sorted")) (tCons (tSi X.w (tI X.K w0 H0 mi) (tG X.K w0 H0 tgt) (tT X.K w0 H0 mc) (tE X.K w0 H0 me) own) tNil))) :
    PE X e (tE X.K w0 H0 fun e => bd (mi e) fun xs => bd (scompL (scompF tgt own mc me e) xs) fun ns => if ns.length < 63 then rt (.d (.list ((usort ns).map .int))) else no) := pe_imp ha fun σ H Q h => by
  obtain ⟨w, e, s, v, s', R, ev, k⟩ := h
  obtain ⟨ds, s1, e1, ev⟩ := bd_inv ev
  obtain ⟨vs, s2, e2, ev⟩ := bd_inv ev
  split at ev
  case isFalse => cases ev
  case isTrue hz =>
  obtain ⟨e3, e4⟩ := rt_inv ev
  subst e3 e4
  refine si_imp (Q := fun x H1 => semC X (.builtin "sorted") [x] H1 Q) hw hin ⟨w, e, s, ds, s1, vs, _, R, e1, e2, hz, fun w1 D S n H1 R1 l1 hD hF hS ra => fun pins sh si us I rv => ?_⟩
  refine cr_sortedSet C.calm pins sh si _ _ us Q I rv ⟨D, S, n, rfl, hD, by have := ra.2; omega, fun ns2 p2 pw mem _ hp2 => ?_⟩
  obtain ⟨R3, l3⟩ := R1.new (o := .lst (ns2.map V.int)) hp2
  refine k _ _ _ R3 (l1.trans l3) ?_
  have e8 : ns2 = usort vs := asc_eq pw (usort_pw vs) fun k => by rw [mem k, usort_mem, ra.1 k, decide_eq_true_eq]
  show Rp _ _ (.list ((usort vs).map .int)) (.ref p2)
  rw [← e8]
  unfold Rp
  exact ⟨p2, _, rfl, upd_same, rpA_ints ns2⟩
end
end Ev

/-! comprehensions of two clauses; a list joined from two, placed; enumerate(zip(..)) -/
namespace Ev
open PySem PySem.Spec PyProof.Rows L2
abbrev EnvR (K : PySem.W.Frag) (w : Wd) (e : Lv) (σ : L2.St) : Prop := All2 (fun o p => ∀ v, o = some v → ∃ x, p = some x ∧ Rv K w v x) e σ
theorem EnvR.mono {K : PySem.W.Frag} {w w' : Wd} {H H' : Hp} {e : Lv} {σ : L2.St} (h : EnvR K w e σ) (l : Le w H w' H') : EnvR K w' e σ := h.imp fun o p q v z => by
  obtain ⟨x, h1, h2⟩ := q v z
  exact ⟨x, h1, h2.mono l⟩
theorem comp2F_inv {wh : Wh} {tgt tg1 : Tg} {own own1 : List Nat} {mi1 : Lv → M (List PyData)} {mc1 : Lv → M Bool} {me : Lv → M Val} {e : Lv} {x : PyData} {s s' : Sto} {us : List Val} (h : comp2F wh tgt own mi1 tg1 own1 mc1 me e x s = some (us, s')) :
    ∃ e1, asgT tgt (.d x) (wipeL e own) = some e1 ∧ bd (mi1 e1) (fun ys => compL (compF wh tg1 own1 mc1 me e1) ys) s = some (us, s') := by
  unfold comp2F at h
  cases q : asgT tgt (.d x) (wipeL e own) with
  | none => rw [q] at h; cases h
  | some e1 => rw [q] at h; exact ⟨e1, rfl, h⟩
section
variable {X : Cx} {w0 : Wd} {H0 : Hp} {pos : Pos}
theorem lc2_imp {wh : Wh} {tgt tg1 : Tg} {mi mi1 : Lv → M (List PyData)} {mc1 : Lv → M Bool} {me : Lv → M Val} {own own1 : List Nat} {K : PySem.W.Frag} (hw : w0.nu = []) (hin : tgIn tgt own = true) (hin1 : tgIn tg1 own1 = true) {σ : L2.St} {H : Hp} {Q : VK}
    (h : tE K w0 H0 (fun e => bd (mi e) fun xs => bd (comp2L (comp2F wh tgt own mi1 tg1 own1 mc1 me e) xs) fun vs => if vs.length ≤ 16777216 then place wh vs else no) σ H Q) :
    tLc2 (tI K w0 H0 mi) (tG K w0 H0 tgt) (tT K w0 H0 fun _ => rt true) (tI K w0 H0 mi1) (tG K w0 H0 tg1) (tT K w0 H0 mc1) (tE K w0 H0 me) own own1 σ H Q := by
  obtain ⟨w, e, s, v, s', R, ev, k⟩ := h
  obtain ⟨ds, s1, e1, ev⟩ := bd_inv ev
  obtain ⟨vs, s2, e2, ev⟩ := bd_inv ev
  refine ⟨w, e, s, ds, s1, R, e1, fun w1 J H1 R1 l1 wk D hD => ?_⟩
  split at ev
  case isFalse => cases ev
  case isTrue hz =>
  have hD0 : H0 D = none := R1.le.back hD
  have hvl : ∀ {a b c : List Val}, a ++ (b ++ c) = vs → a.length + b.length ≤ 16777216 := fun {a b c} q => by
    have : (a ++ (b ++ c)).length = vs.length := by rw [q]
    simp only [List.length_append] at this
    omega
  refine ⟨fun i m H => m = ds.length - i ∧ i ≤ ds.length ∧ ∃ w2 s3 acc us rest, Rl K w0 H0 w2 e s3 σ H ∧ Le w1 H1 w2 H ∧ H D = some (.lst acc) ∧ w2.F D = none ∧ D ∉ w2.mu ++ w2.nu ∧ All2 (Rv K w2) us acc ∧
    comp2L (comp2F wh tgt own mi1 tg1 own1 mc1 me e) (ds.drop i) s3 = some (rest, s2) ∧ us ++ rest = vs, ⟨ds.length, by simp, Nat.zero_le _, w1, s1, [], [], vs, R1.scratch hD0 (R1.freshF hD) (R1.freshS hD) (.none hD), Le.scratch .refl hD (.none hD), upd_same, R1.freshF hD, R1.freshS hD, .nil, by simpa using e2, rfl⟩, ?_⟩
  rintro i m H2 ⟨rfl, hi, w2, s3, acc, us, rest, R2, l2, hA, hF, hS, ra, hcm, hvs⟩
  by_cases hlt : i < ds.length
  · have hdr : ds.drop i = ds[i] :: ds.drop (i + 1) := List.drop_eq_getElem_cons hlt
    rw [hdr] at hcm
    obtain ⟨us1, s4, e4, hcm⟩ := bd_inv (show bd (comp2F wh tgt own mi1 tg1 own1 mc1 me e ds[i]) (fun us => bd (comp2L (comp2F wh tgt own mi1 tg1 own1 mc1 me e) (ds.drop (i + 1))) fun vs => rt (us ++ vs)) s3 = some (rest, s2) from hcm)
    obtain ⟨rest2, s5, e5, hcm⟩ := bd_inv hcm
    obtain ⟨e6, e7⟩ := rt_inv hcm
    subst e6 e7
    obtain ⟨ee, hee, e4⟩ := comp2F_inv e4
    obtain ⟨ys, s6, e8, e9⟩ := bd_inv e4
    refine .inr ⟨wk.goes i H2 hlt (l2.f.trans R2.fh), fun H' => ∃ w3 s7 acc us, Rl K w0 H0 w3 e s7 σ H' ∧ Le w1 H1 w3 H' ∧ H' D = some (.lst acc) ∧ w3.F D = none ∧ D ∉ w3.mu ++ w3.nu ∧ All2 (Rv K w3) us acc ∧
      ∃ rest, comp2L (comp2F wh tgt own mi1 tg1 own1 mc1 me e) (ds.drop (i + 1)) s7 = some (rest, s2) ∧ us ++ rest = vs, fun H' ⟨w3, s7, acc', us', R3, l3, h1, h2, h3, h4, rest', h5, h6⟩ => ⟨_, by omega, rfl, hlt, w3, s7, acc', us', rest', R3, l3, h1, h2, h3, h4, h5, h6⟩, fun x H3 y => ?_⟩
    obtain ⟨w3, d, hd, R3, l3, rd⟩ := wk.turn R2 l2.f hlt y
    have ed : ds[i] = d := by
      have := hd
      rw [List.getElem?_eq_getElem hlt] at this
      exact Option.some.inj this
    subst ed
    have hA3 : H3 D = some (.lst acc) := l3.same D _ hA (fun z => hS (List.mem_append_left _ z)) fun z => hS (List.mem_append_right _ z)
    refine ⟨w3, wipeL e own, s3, .d ds[i], ee, R3.reenv (env_wipe R3.env own), rd, hee, fun σ4 R4 z4 => ⟨?_, w3, ee, s3, true, s3, R4, rfl, fun w5 H5 R5 l5 => ?_⟩⟩
    · rw [z4 own hin]
      exact wipe_wipe σ fun _ h => h
    have hF3 := freshF_of l3 hF hS hA
    have hS3 := freshS_of l3 hS hA
    have hA5 : H5 D = some (.lst acc) := l5.same D _ hA3 (fun z => hS3 (List.mem_append_left _ z)) fun z => hS3 (List.mem_append_right _ z)
    have hF5 := freshF_of l5 hF3 hS3 hA3
    have hS5 := freshS_of l5 hS3 hA3
    have L5 : Le w1 H1 w5 H5 := (l2.trans l3).trans l5
    show (if true = true then _ else _)
    rw [if_pos rfl]
    refine ⟨w5, ee, s3, ys, s6, R5, e8, fun w6 J1 H6 R6 l6 wk1 => ?_⟩
    have hA6 : H6 D = some (.lst acc) := l6.same D _ hA5 (fun z => hS5 (List.mem_append_left _ z)) fun z => hS5 (List.mem_append_right _ z)
    have hF6 := freshF_of l6 hF5 hS5 hA5
    have hS6 := freshS_of l6 hS5 hA5
    have env6 : EnvR K w6 e σ := R2.mono_env ((l3.trans l5).trans l6)
    refine ⟨fun j k H => k = ys.length - j ∧ j ≤ ys.length ∧ ∃ w7 s7 acc vs1 r1, Rl K w0 H0 w7 ee s7 σ4 H ∧ EnvR K w7 e σ ∧ Sub w6.F w7.F ∧ Le w1 H1 w7 H ∧ H D = some (.lst acc) ∧ w7.F D = none ∧ D ∉ w7.mu ++ w7.nu ∧ All2 (Rv K w7) (us ++ vs1) acc ∧
      compL (compF wh tg1 own1 mc1 me ee) (ys.drop j) s7 = some (r1, s4) ∧ vs1 ++ r1 = us1, ⟨ys.length, by simp, Nat.zero_le _, w6, s6, acc, [], us1, R6, env6, Sub.refl _, L5.trans l6, hA6, hF6, hS6, by rw [List.append_nil]; exact Rvs.mono ((l3.trans l5).trans l6) ra, by simpa using e9, rfl⟩, ?_⟩
    rintro j k H7 ⟨rfl, hj, w7, s7, acc7, vs1, r1, R7, env7, sb7, l7, hA7, hF7, hS7, ra7, hc7, hv7⟩
    by_cases hjt : j < ys.length
    · have hdr : ys.drop j = ys[j] :: ys.drop (j + 1) := List.drop_eq_getElem_cons hjt
      rw [hdr] at hc7
      obtain ⟨o, s8, e10, hc7⟩ := bd_inv (show bd (compF wh tg1 own1 mc1 me ee ys[j]) (fun o => bd (compL (compF wh tg1 own1 mc1 me ee) (ys.drop (j + 1))) fun vs => rt (match o with | some v => v :: vs | none => vs)) s7 = some (r1, s4) from hc7)
      obtain ⟨r2, s9, e11, hc7⟩ := bd_inv hc7
      obtain ⟨e12, e13⟩ := rt_inv hc7
      subst e13
      obtain ⟨ef, hef, e10⟩ := compF_inv e10
      obtain ⟨kb, s10, e14, e10⟩ := bd_inv e10
      refine .inr ⟨wk1.goes j H7 hjt (sb7.trans R7.fh), fun H' => ∃ w8 s7 acc vs1, Rl K w0 H0 w8 ee s7 σ4 H' ∧ EnvR K w8 e σ ∧ Sub w6.F w8.F ∧ Le w1 H1 w8 H' ∧ H' D = some (.lst acc) ∧ w8.F D = none ∧ D ∉ w8.mu ++ w8.nu ∧ All2 (Rv K w8) (us ++ vs1) acc ∧
        ∃ r1, compL (compF wh tg1 own1 mc1 me ee) (ys.drop (j + 1)) s7 = some (r1, s4) ∧ vs1 ++ r1 = us1, fun H' ⟨w8, t1, t2, t3, t4, t5, t6, t7, t8, t9, t10, t11, t12, t13, t14⟩ => ⟨_, by omega, rfl, hjt, w8, t1, t2, t3, t12, t4, t5, t6, t7, t8, t9, t10, t11, t13, t14⟩, fun x H8 y => ?_⟩
      obtain ⟨w8, d, hd, R8, l8, rd⟩ := wk1.turn R7 sb7 hjt y
      have ed : ys[j] = d := by
        have := hd
        rw [List.getElem?_eq_getElem hjt] at this
        exact Option.some.inj this
      subst ed
      have hA8 : H8 D = some (.lst acc7) := l8.same D _ hA7 (fun z => hS7 (List.mem_append_left _ z)) fun z => hS7 (List.mem_append_right _ z)
      have hF8 := freshF_of l8 hF7 hS7 hA7
      have hS8 := freshS_of l8 hS7 hA7
      refine ⟨w8, wipeL ee own1, s7, .d ys[j], ef, R8.reenv (env_wipe R8.env own1), rd, hef, fun σ9 R9 z9 => ⟨?_, w8, ef, s7, kb, s10, R9, e14, fun w10 H10 R10 l10 => ?_⟩⟩
      · rw [z9 own1 hin1]
        exact wipe_wipe σ4 fun _ h => h
      have hA10 : H10 D = some (.lst acc7) := l10.same D _ hA8 (fun z => hS8 (List.mem_append_left _ z)) fun z => hS8 (List.mem_append_right _ z)
      have hF10 := freshF_of l10 hF8 hS8 hA8
      have hS10 := freshS_of l10 hS8 hA8
      have L10 : Le w1 H1 w10 H10 := (l7.trans l8).trans l10
      have m10 := l8.trans l10
      cases kb with
      | false =>
        obtain ⟨e15, e16⟩ := rt_inv (show rt none s10 = some (o, s8) from e10)
        subst e15 e16
        show (if false = true then _ else _)
        rw [if_neg Bool.false_ne_true]
        exact ⟨w10, _, acc7, vs1, R10.reenv (R7.mono_env m10), env7.mono m10, sb7.trans m10.f, L10, hA10, hF10, hS10, Rvs.mono m10 ra7, r2, e11, by rw [← hv7, e12]⟩
      | true =>
        obtain ⟨v11, s11, e15, e10⟩ := bd_inv (show bd (me ef) (fun v => (match wh with | .pure => bd (keep v) fun x => rt (some (Val.d x)) | _ => rt (some v))) s10 = some (o, s8) from e10)
        show (if true = true then _ else _)
        rw [if_pos rfl]
        refine ⟨w10, ef, s10, v11, s11, R10, e15, fun w11 yv H11 R11 l11 r11 => ?_⟩
        have hA11 : H11 D = some (.lst acc7) := l11.same D _ hA10 (fun z => hS10 (List.mem_append_left _ z)) fun z => hS10 (List.mem_append_right _ z)
        have hF11 := freshF_of l11 hF10 hS10 hA10
        have hS11 := freshS_of l11 hS10 hA10
        have fin : ∀ {w12 : Wd} {u : Val} {s12 : Sto}, Rl K w0 H0 w12 ef s12 σ9 H11 → Le w11 H11 w12 H11 → Rv K w12 u yv → o = some u → s12 = s8 → ∃ acc, H11 D = some (.lst acc) ∧ acc.length < sizeLine ∧ ∃ w3 s7 acc' vs1, Rl K w0 H0 w3 ee s7 σ4 (upd H11 D (.lst (acc ++ [yv]))) ∧ EnvR K w3 e σ ∧ Sub w6.F w3.F ∧ Le w1 H1 w3 (upd H11 D (.lst (acc ++ [yv]))) ∧ (upd H11 D (.lst (acc ++ [yv]))) D = some (.lst acc') ∧ w3.F D = none ∧ D ∉ w3.mu ++ w3.nu ∧ All2 (Rv K w3) (us ++ vs1) acc' ∧
            ∃ r1, compL (compF wh tg1 own1 mc1 me ee) (ys.drop (j + 1)) s7 = some (r1, s4) ∧ vs1 ++ r1 = us1 := fun {w12 u s12} R12 l12 r12 eo es => by
          subst eo es
          have e12 : r1 = u :: r2 := e12
          subst e12
          have hF12 := freshF_of l12 hF11 hS11 hA11
          have hS12 := freshS_of l12 hS11 hA11
          have m12 := (m10.trans l11).trans l12
          have R13 := (R12.reenv (R7.mono_env m12)).scratch (o := .lst (acc7 ++ [yv])) hD0 hF12 hS12 (.lst hA11)
          refine ⟨acc7, hA11, ?_, w12, _, _, vs1 ++ [u], R13, env7.mono m12, sb7.trans m12.f, ((L10.trans l11).trans l12).scratch hD (.lst hA11), upd_same, hF12, hS12, by rw [← List.append_assoc]; exact (Rvs.mono m12 ra7).app (.cons r12 .nil), r2, e11, by rw [← hv7]; simp⟩
          have z1 := hvl hvs
          have z2 : vs1.length + (r2.length + 1) = us1.length := by rw [← hv7]; simp
          rw [size_line, ← ra7.len, List.length_append]
          omega
        cases wh with
        | pure =>
          obtain ⟨x12, s12, e16, e10⟩ := bd_inv (show bd (keep v11) (fun x => rt (some (Val.d x))) s11 = some (o, s8) from e10)
          obtain ⟨e17, e18⟩ := rt_inv e10
          obtain ⟨w12, R12, l12, r12⟩ := keep_ok hw R11 r11 e16
          exact fin (u := .d x12) R12 l12 r12 e17 e18.symm
        | loc =>
          obtain ⟨e17, e18⟩ := rt_inv (show rt (some v11) s11 = some (o, s8) from e10)
          exact fin R11 .refl r11 e17 e18.symm
        | glob =>
          obtain ⟨e17, e18⟩ := rt_inv (show rt (some v11) s11 = some (o, s8) from e10)
          exact fin R11 .refl r11 e17 e18.symm
    · have hj2 : j = ys.length := by omega
      subst hj2
      rw [List.drop_length] at hc7
      obtain ⟨e10, e11⟩ := rt_inv (show rt [] s7 = some (r1, s4) from hc7)
      subst e10 e11
      rw [List.append_nil] at hv7
      subst hv7
      refine .inl ⟨wk1.stops H7 (sb7.trans R7.fh), w7, _, acc7, us ++ vs1, R7.reenv env7, l7, hA7, hF7, hS7, ra7, rest2, e5, by rw [List.append_assoc]; exact hvs⟩
  · have hi2 : i = ds.length := by omega
    subst hi2
    rw [List.drop_length] at hcm
    obtain ⟨e4, e5⟩ := rt_inv (show rt [] s3 = some (rest, s2) from hcm)
    subst e4 e5
    rw [List.append_nil] at hvs
    subst hvs
    refine .inl ⟨wk.stops H2 (l2.f.trans R2.fh), ?_⟩
    obtain ⟨w3, R3, l3, r3⟩ := lay_ok hw R2 l2 hD hD0 hF hS hA ra ev
    exact k w3 _ H2 R3 (l1.trans l3) r3
/-! ### a + b, a * k of lists, placed -/
theorem rvs_of {K : PySem.W.Frag} {w : Wd} {ds : List PyData} {xs : List V} (h : RpA K w.F ds xs) : All2 (Rv K w) (ds.map .d) xs := by
  have := rpA_iff.mp h
  induction this with
  | nil => exact .nil
  | cons a b ih => exact .cons a (ih (rpA_iff.mpr b))
theorem catD_inv {o : Operator} {x y : PyData} {ds : List PyData} (h : catD o x y = some ds) : (o = .Add ∧ ∃ as bs, x = .list as ∧ y = .list bs ∧ ds = as ++ bs) ∨ (o = .Mult ∧ ∃ as j, x = .list as ∧ y = .int j ∧ (0 ≤ j ∧ j < 1000 ∧ as.length * j.toNat ≤ 16777216) ∧ ds = (List.replicate j.toNat as).flatten) := by
  unfold catD at h
  split at h
  · cases h; exact .inl ⟨rfl, _, _, rfl, rfl, rfl⟩
  · split at h
    · rename_i hj; cases h; exact .inr ⟨rfl, _, _, rfl, rfl, hj, rfl⟩
    · cases h
  · cases h
theorem e_binl {wh : Wh} {o : Operator} {a b : Expr} {ma mb : Lv → M Val} (C : Cn0 X) (hw : w0.nu = []) (ha : PE X a (tE X.K w0 H0 ma)) (hb : PE X b (tE X.K w0 H0 mb)) :
    PE X (.BinOp a o b pos) (tE X.K w0 H0 fun e => bd (ma e) fun v => bd (mb e) fun u => bd (peek v) fun x => bd (peek u) fun y => bd (ofO (catD o x y)) fun ds => if ds.length ≤ 16777216 then place wh (ds.map .d) else no) := by
  refine pe_imp (pe_op (op_sem (binaryOp o)) ha hb) fun σ H Q h => ?_
  obtain ⟨w, e, s, v, s', R, ev, k⟩ := h
  obtain ⟨v1, s1, e1, ev⟩ := bd_inv ev
  obtain ⟨v2, s2, e2, ev⟩ := bd_inv ev
  refine ⟨w, e, s, v1, s1, R, e1, fun w1 x H1 R1 l1 r1 => ⟨w1, e, s1, v2, s2, R1, e2, fun w2 y H2 R2 l2 r2 => fun pins sh si u1 u2 I rx ry => ?_⟩⟩
  obtain ⟨x1, t1, ev⟩ := pk R2 (r1.mono l2) ev
  obtain ⟨y1, t2, ev⟩ := pk R2 r2 ev
  obtain ⟨ds, s3, e3, ev2⟩ := bd_inv ev
  obtain ⟨e4, e5⟩ := ofO_inv e3
  subst e5
  split at ev2
  case isFalse => cases ev2
  case isTrue hz =>
  rcases catD_inv e4 with ⟨rfl, as, bs, rfl, rfl, rfl⟩ | ⟨rfl, as, j, rfl, rfl, hj, rfl⟩
  · obtain ⟨p, xs, rfl, h1, h2⟩ := t1
    obtain ⟨q, ys, rfl, h3, h4⟩ := t2
    have l1' := rpA_len h2
    have l2' := rpA_len h4
    refine op_cat pins sh si H2 _ _ u1 u2 Q I rx ry ⟨p, q, xs, ys, rfl, rfl, h1, h3, by rw [size_line, ← l1', ← l2']; simpa using hz, fun r hr => ?_⟩
    obtain ⟨w3, R3, l3, r3⟩ := place_ok hw R2 (rvs_of (rpA_iff.mpr ((rpA_iff.mp h2).app (rpA_iff.mp h4)))) ev2 hr
    exact k w3 _ _ R3 ((l1.trans l2).trans l3) r3
  · obtain ⟨p, xs, rfl, h1, h2⟩ := t1
    cases (show y = .int j from t2)
    have l1' := rpA_len h2
    refine op_rep pins sh si H2 _ _ u1 u2 Q I rx ry ⟨p, j, xs, rfl, rfl, h1, by omega, by omega, by rw [size_line, ← l1']; exact hj.2.2, fun r hr => ?_⟩
    obtain ⟨w3, R3, l3, r3⟩ := place_ok hw R2 (rvs_of (rpA_iff.mpr ((rpA_iff.mp h2).rep _))) ev2 hr
    exact k w3 _ _ R3 ((l1.trans l2).trans l3) r3
end
end Ev

/-! statements -/
namespace Ev
open PySem PySem.Spec PyProof.Rows L2 LamX
def Fin (K : PySem.W.Frag) (g : Gx) (W : WX) (w : Wd) (D : Ends) (σ : L2.St) (H : Hp) : Flow → Prop
  | .nx => D.nx σ H
  | .bk => D.bk σ H
  | .ct => D.ct σ H
  | .rt v => ∀ z, Rv K w v z → D.rt z H
  | .xc c => W (g.cl c) none σ H
def tS (K : PySem.W.Frag) (g : Gx) (W : WX) (w0 : Wd) (H0 : Hp) (m : Lv → Sto → Out) : TS := fun D σ H => ∃ w e s fl e1 s1, Rl K w0 H0 w e s σ H ∧ m e s = some (fl, e1, s1) ∧
  ∀ w1 σ1 H1, Rl K w0 H0 w1 e1 s1 σ1 H1 → Le w H w1 H1 → Fin K g W w1 D σ1 H1 fl
theorem stp_inv {α : Type} {m : M α} {f : α → Sto → Out} {s : Sto} {o : Flow × Lv × Sto} (h : stp m f s = some o) : ∃ a s1, m s = some (a, s1) ∧ f a s1 = some o := by
  unfold stp at h
  split at h
  · cases h
  · rename_i a s1 e
    exact ⟨a, s1, e, h⟩
theorem map_inv {α β : Type} {o : Option α} {f : α → β} {b : β} (h : o.map f = some b) : ∃ a, o = some a ∧ f a = b := Option.map_eq_some_iff.mp h
section
variable {X : Cx} {g : Gx} {W : WX} {w0 : Wd} {H0 : Hp} {pos : Pos} {ma mb mc : Lv → M Val} {a b c : Expr}
theorem ps_imp {st : Stmt} {t t' : TS} (h : PS X st t) (f : ∀ D σ H, t' D σ H → t D σ H) : PS X st t' := ⟨fun pins s σ H D I q => h.run pins s σ H D I (f D σ H q)⟩
theorem pss_imp {st : List Stmt} {t t' : TS} (h : PSs X st t) (f : ∀ D σ H, t' D σ H → t D σ H) : PSs X st t' := ⟨fun pins s σ H D I q => h.run pins s σ H D I (f D σ H q)⟩
theorem s_nil : PSs X [] (tS X.K g W w0 H0 fun e s => some (.nx, e, s)) := pss_imp pss_nil fun D σ H h => by
  obtain ⟨w, e, s, fl, e1, s1, R, ev, k⟩ := h
  cases ev
  exact k w σ H R .refl
theorem s_cons {st : Stmt} {rest : List Stmt} {m1 m2 : Lv → Sto → Out} (h1 : PS X st (tS X.K g W w0 H0 m1)) (h2 : PSs X rest (tS X.K g W w0 H0 m2)) : PSs X (st :: rest) (tS X.K g W w0 H0 fun e s => sq (m1 e s) m2) := pss_imp (pss_cons h1 h2) fun D σ H h => by
  obtain ⟨w, e, s, fl, e1, s1, R, ev, k⟩ := h
  have ev : sq (m1 e s) m2 = some (fl, e1, s1) := ev
  cases q : m1 e s with
  | none => rw [q] at ev; cases ev
  | some o =>
    obtain ⟨f2, e2, s2⟩ := o
    rw [q] at ev
    refine ⟨w, e, s, f2, e2, s2, R, q, fun w1 σ1 H1 R1 l1 => ?_⟩
    cases f2 with
    | nx => exact ⟨w1, e2, s2, fl, e1, s1, R1, ev, fun w2 σ2 H2 R2 l2 => k w2 σ2 H2 R2 (l1.trans l2)⟩
    | bk => cases (show some (Flow.bk, e2, s2) = some (fl, e1, s1) from ev); exact k w1 σ1 H1 R1 l1
    | ct => cases (show some (Flow.ct, e2, s2) = some (fl, e1, s1) from ev); exact k w1 σ1 H1 R1 l1
    | rt v => cases (show some (Flow.rt v, e2, s2) = some (fl, e1, s1) from ev); exact k w1 σ1 H1 R1 l1
    | xc c => cases (show some (Flow.xc c, e2, s2) = some (fl, e1, s1) from ev); exact k w1 σ1 H1 R1 l1
theorem s_pass : PS X (.Pass pos) (tS X.K g W w0 H0 fun e s => some (.nx, e, s)) := ps_imp ps_pass fun D σ H h => by
  obtain ⟨w, e, s, fl, e1, s1, R, ev, k⟩ := h
  cases ev
  exact k w σ H R .refl
theorem s_ex (ha : PE X a (tE X.K w0 H0 ma)) (hs : swapsWith a none pos.line X.env = pure false) : PS X (.Expr a pos) (tS X.K g W w0 H0 fun e s => stp (ma e) (fun _ s => some (.nx, e, s)) s) := ps_imp (ps_expr ha hs) fun D σ H h => by
  obtain ⟨w, e, s, fl, e1, s1, R, ev, k⟩ := h
  obtain ⟨v, s2, e2, ev⟩ := stp_inv ev
  cases ev
  exact ⟨w, e, s, v, _, R, e2, fun w1 x H1 R1 l1 r1 => k w1 σ H1 R1 l1⟩
theorem s_ret (hw : w0.nu = []) (ha : PE X a (tE X.K w0 H0 ma)) : PS X (.Return (some a) pos) (tS X.K g W w0 H0 fun e s => stp (ma e) (fun v s => stp (keepV v) (fun w s => some (.rt w, e, s)) s) s) := ps_imp (ps_ret ha) fun D σ H h => by
  obtain ⟨w, e, s, fl, e1, s1, R, ev, k⟩ := h
  obtain ⟨v, s2, e2, ev⟩ := stp_inv ev
  obtain ⟨v3, s3, e3, ev⟩ := stp_inv ev
  cases ev
  refine ⟨w, e, s, v, s2, R, e2, fun w1 x H1 R1 l1 r1 => ?_⟩
  obtain ⟨w2, R2, l2, r2, _⟩ := keepV_ok hw R1 r1 e3
  exact k w2 σ H1 R2 (l1.trans l2) x r2
theorem s_ret0 : PS X (.Return none pos) (tS X.K g W w0 H0 fun e s => some (.rt (.d .none), e, s)) := ps_imp ps_retN fun D σ H h => by
  obtain ⟨w, e, s, fl, e1, s1, R, ev, k⟩ := h
  cases ev
  exact k w σ H R .refl .non (show Rp _ _ _ _ from rp_none)
theorem s_if {c : Expr} {A B : List Stmt} {m : Lv → M Bool} {m1 m2 : Lv → Sto → Out} (hc : PT X c (tT X.K w0 H0 m)) (h1 : PSs X A (tS X.K g W w0 H0 m1)) (h2 : PSs X B (tS X.K g W w0 H0 m2)) :
    PS X (.If c A B pos) (tS X.K g W w0 H0 fun e s => stp (m e) (fun k s => if k then m1 e s else m2 e s) s) := ps_imp (ps_if hc h1 h2) fun D σ H h => by
  obtain ⟨w, e, s, fl, e1, s1, R, ev, k⟩ := h
  obtain ⟨v, s2, e2, ev⟩ := stp_inv ev
  refine ⟨w, e, s, v, s2, R, e2, fun w1 H1 R1 l1 => ?_⟩
  cases v with
  | true => exact ⟨w1, e, s2, fl, e1, s1, R1, ev, fun w2 σ2 H2 R2 l2 => k w2 σ2 H2 R2 (l1.trans l2)⟩
  | false => exact ⟨w1, e, s2, fl, e1, s1, R1, ev, fun w2 σ2 H2 R2 l2 => k w2 σ2 H2 R2 (l1.trans l2)⟩
/-! ### stores -/
theorem s_set {i : Nat} {st : Stmt} (h : PS X st (tAsg (tE X.K w0 H0 ma) (gName i))) : PS X st (tS X.K g W w0 H0 fun e s => stp (ma e) (fun v s => some (.nx, e.set i (some v), s)) s) := ps_imp h fun D σ H h => by
  obtain ⟨w, e, s, fl, e1, s1, R, ev, k⟩ := h
  obtain ⟨v, s2, e2, ev⟩ := stp_inv ev
  cases ev
  exact ⟨w, e, s, v, _, R, e2, fun w1 x H1 R1 l1 r1 => k w1 _ H1 (R1.setE r1) l1⟩
theorem s_setL {i : Nat} {st : Stmt} {wh : Wh} {tgt : Tg} {mi : Lv → M (List PyData)} {mc : Lv → M Bool} {me : Lv → M Val} {own : List Nat} (hw : w0.nu = []) (hin : tgIn tgt own = true)
    (h : PS X st (tAsg (tLc (tI X.K w0 H0 mi) (tG X.K w0 H0 tgt) (tT X.K w0 H0 mc) (tE X.K w0 H0 me) own) (gName i))) :
    PS X st (tS X.K g W w0 H0 fun e s => stp (bd (mi e) fun xs => bd (compL (compF wh tgt own mc me e) xs) fun vs => if vs.length ≤ 16777216 then place wh vs else no) (fun v s => some (.nx, e.set i (some v), s)) s) := ps_imp h fun D σ H h => by
  obtain ⟨w, e, s, fl, e1, s1, R, ev, k⟩ := h
  obtain ⟨v, s2, e2, ev⟩ := stp_inv ev
  cases ev
  exact lc_imp hw hin ⟨w, e, s, v, _, R, e2, fun w1 x H1 R1 l1 r1 => k w1 _ H1 (R1.setE r1) l1⟩
theorem s_setL2 {i : Nat} {st : Stmt} {wh : Wh} {tgt tg1 : Tg} {mi mi1 : Lv → M (List PyData)} {mc1 : Lv → M Bool} {me : Lv → M Val} {own own1 : List Nat} (hw : w0.nu = []) (hin : tgIn tgt own = true) (hin1 : tgIn tg1 own1 = true)
    (h : PS X st (tAsg (tLc2 (tI X.K w0 H0 mi) (tG X.K w0 H0 tgt) (tT X.K w0 H0 fun _ => rt true) (tI X.K w0 H0 mi1) (tG X.K w0 H0 tg1) (tT X.K w0 H0 mc1) (tE X.K w0 H0 me) own own1) (gName i))) :
    PS X st (tS X.K g W w0 H0 fun e s => stp (bd (mi e) fun xs => bd (comp2L (comp2F wh tgt own mi1 tg1 own1 mc1 me e) xs) fun vs => if vs.length ≤ 16777216 then place wh vs else no) (fun v s => some (.nx, e.set i (some v), s)) s) := ps_imp h fun D σ H h => by
  obtain ⟨w, e, s, fl, e1, s1, R, ev, k⟩ := h
  obtain ⟨v, s2, e2, ev⟩ := stp_inv ev
  cases ev
  exact lc2_imp hw hin hin1 ⟨w, e, s, v, _, R, e2, fun w1 x H1 R1 l1 r1 => k w1 _ H1 (R1.setE r1) l1⟩
theorem s_setI {i : Nat} {st : Stmt} {wh : Wh} {tgt : Tg} {ma : Lv → M Val} {mc : Lv → M Bool} {me : Lv → M Val} {own : List Nat} (hw : w0.nu = []) (hin : tgIn tgt own = true)
    (h : PS X st (tAsg (tLc (tIx X.K w0 H0 ma) (tG X.K w0 H0 tgt) (tT X.K w0 H0 mc) (tE X.K w0 H0 me) own) (gName i))) :
    PS X st (tS X.K g W w0 H0 fun e s => stp (bd (ma e) fun u => bd (compJ (compF wh tgt own mc me e) u) fun vs => if vs.length ≤ 16777216 then place wh vs else no) (fun v s => some (.nx, e.set i (some v), s)) s) := ps_imp h fun D σ H h => by
  obtain ⟨w, e, s, fl, e1, s1, R, ev, k⟩ := h
  obtain ⟨v, s2, e2, ev⟩ := stp_inv ev
  cases ev
  exact li_imp hw hin ⟨w, e, s, v, _, R, e2, fun w1 x H1 R1 l1 r1 => k w1 _ H1 (R1.setE r1) l1⟩
theorem s_setD {i : Nat} {st : Stmt} {tgt : Tg} {mi : Lv → M (List PyData)} {mc : Lv → M Bool} {mk mv : Lv → M Val} {own : List Nat} (hw : w0.nu = []) (hin : tgIn tgt own = true)
    (h : PS X st (tAsg (tDc (tI X.K w0 H0 mi) (tG X.K w0 H0 tgt) (tT X.K w0 H0 mc) (tE X.K w0 H0 mk) (tE X.K w0 H0 mv) own) (gName i))) :
    PS X st (tS X.K g W w0 H0 fun e s => stp (bd (mi e) fun xs => bd (dcompL (dcompF tgt own mc mk mv e) xs []) fun kvs => if kvs.length < 16777216 then rt (.d (.dict kvs)) else no) (fun v s => some (.nx, e.set i (some v), s)) s) := ps_imp h fun D σ H h => by
  obtain ⟨w, e, s, fl, e1, s1, R, ev, k⟩ := h
  obtain ⟨v, s2, e2, ev⟩ := stp_inv ev
  cases ev
  exact dc_imp hw hin ⟨w, e, s, v, _, R, e2, fun w1 x H1 R1 l1 r1 => k w1 _ H1 (R1.setE r1) l1⟩
theorem s_asg {tgt : Tg} {st : Stmt} (h : PS X st (tAsg (tE X.K w0 H0 ma) (tG X.K w0 H0 tgt))) : PS X st (tS X.K g W w0 H0 fun e s => stp (ma e) (fun v s => (asgT tgt v e).map fun e1 => (.nx, e1, s)) s) := ps_imp h fun D σ H h => by
  obtain ⟨w, e, s, fl, e1, s1, R, ev, k⟩ := h
  obtain ⟨v, s2, e2, ev⟩ := stp_inv ev
  obtain ⟨e3, h3, h4⟩ := map_inv ev
  cases h4
  exact ⟨w, e, s, v, _, R, e2, fun w1 x H1 R1 l1 r1 => ⟨w1, e, _, v, _, R1, r1, h3, fun σ1 R2 _ => k w1 σ1 H1 R2 l1⟩⟩
theorem s_par {i j : Nat} {st : Stmt} (h : PS X st (tPar i j (tCons (tE X.K w0 H0 ma) (tCons (tE X.K w0 H0 mb) tNil)))) :
    PS X st (tS X.K g W w0 H0 fun e s => stp (ma e) (fun v s => stp (mb e) (fun u s => some (.nx, (e.set i (some v)).set j (some u), s)) s) s) := ps_imp h fun D σ H h => by
  obtain ⟨w, e, s, fl, e1, s1, R, ev, k⟩ := h
  obtain ⟨v, s2, e2, ev⟩ := stp_inv ev
  obtain ⟨u, s3, e3, ev⟩ := stp_inv ev
  cases ev
  exact ⟨w, e, s, v, s2, R, e2, fun w1 x H1 R1 l1 r1 => ⟨w1, e, _, u, _, R1, e3, fun w2 y H2 R2 l2 r2 => ⟨x, y, rfl, k w2 _ H2 ((R2.setE (r1.mono l2)).setE r2) (l1.trans l2)⟩⟩⟩
theorem s_par3 {i j l : Nat} {st : Stmt} (h : PS X st (tPar3 i j l (tCons (tE X.K w0 H0 ma) (tCons (tE X.K w0 H0 mb) (tCons (tE X.K w0 H0 mc) tNil))))) :
    PS X st (tS X.K g W w0 H0 fun e s => stp (ma e) (fun v s => stp (mb e) (fun u s => stp (mc e) (fun x s => some (.nx, ((e.set i (some v)).set j (some u)).set l (some x), s)) s) s) s) := ps_imp h fun D σ H h => by
  obtain ⟨w, e, s, fl, e1, s1, R, ev, k⟩ := h
  obtain ⟨v, s2, e2, ev⟩ := stp_inv ev
  obtain ⟨u, s3, e3, ev⟩ := stp_inv ev
  obtain ⟨t, s4, e4, ev⟩ := stp_inv ev
  cases ev
  exact ⟨w, e, s, v, s2, R, e2, fun w1 x H1 R1 l1 r1 => ⟨w1, e, s2, u, s3, R1, e3, fun w2 y H2 R2 l2 r2 => ⟨w2, e, _, t, _, R2, e4, fun w3 z H3 R3 l3 r3 =>
    ⟨x, y, z, rfl, k w3 _ H3 (((R3.setE ((r1.mono l2).mono l3)).setE (r2.mono l3)).setE r3) ((l1.trans l2).trans l3)⟩⟩⟩⟩
def semSet (X : Cx) : TSet := fun o i v H Q => ∀ (pins : List (Addr × Obj)) (sh : Shared) (si : L2.St) (ov iv u : Value), L2.Inv X pins si H sh → RelV o ov → RelV i iv → RelV v u → wpAny (model X.prog X.w) X.A (setItem ov iv u) (fun _ s' => ∃ H', L2.Inv X pins si H' s' ∧ Q H') X.xe sh
theorem set_sem : PSet X (semSet X) := fun pins s σ H o i v ov iv u Q I r1 r2 r3 h => h pins s σ ov iv u I r1 r2 r3
theorem s_sub {st : Stmt} (C : Cn0 X) (hw : w0.nu = []) (h : PS X st (tAsg (tE X.K w0 H0 mc) (gSub (tE X.K w0 H0 ma) (tE X.K w0 H0 mb) (semSet X)))) :
    PS X st (tS X.K g W w0 H0 fun e s => stp (mc e) (fun x s => stp (ma e) (fun c s => stp (mb e) (fun k s => stp (setV c k x) (fun _ s => some (.nx, e, s)) s) s) s) s) := ps_imp h fun D σ H h => by
  obtain ⟨w, e, s, fl, e1, s1, R, ev, k⟩ := h
  obtain ⟨v, s2, e2, ev⟩ := stp_inv ev
  obtain ⟨o, s3, e3, ev⟩ := stp_inv ev
  obtain ⟨i, s4, e4, ev⟩ := stp_inv ev
  obtain ⟨u, s5, e5, ev⟩ := stp_inv ev
  cases ev
  exact ⟨w, e, s, v, s2, R, e2, fun w1 x H1 R1 l1 r1 => ⟨w1, e, s2, o, s3, R1, e3, fun w2 y H2 R2 l2 r2 => ⟨w2, e, s3, i, s4, R2, e4, fun w3 z H3 R3 l3 r3 =>
    fun pins sh si ov iv uv I r4 r5 r6 => set_ok C hw I r4 r5 r6 R3 (r2.mono l3) r3 ((r1.mono l2).mono l3) e5 fun w' H' R' l' => k w' σ H' R' (((l1.trans l2).trans l3).trans l')⟩⟩⟩
def semGet (X : Cx) : V → V → Hp → VK → Prop := fun o i H Q => ∀ (pins : List (Addr × Obj)) (sh : Shared) (si : L2.St) (ov iv : Value), L2.Inv X pins si H sh → RelV o ov → RelV i iv → wpAny (model X.prog X.w) X.A (getItem ov iv) (EP X pins si Q) X.xe sh
theorem get_sem : PGet X (semGet X) := fun pins s σ H o i ov iv Q I r1 r2 h => h pins s σ ov iv I r1 r2
theorem s_augs {st : Stmt} {f : Int → Int → Int} {o : Operator} (hf : ∀ i j, binD o (.int i) (.int j) = some (.int (f i j))) (C : Cn0 X) (hw : w0.nu = []) (h : PS X st (tAugS (tE X.K w0 H0 ma) (tE X.K w0 H0 mb) (tE X.K w0 H0 mc) (semGet X) (ipI f) (semSet X))) :
    PS X st (tS X.K g W w0 H0 fun e s => stp (ma e) (fun cv s => stp (mb e) (fun iv s => stp (augG cv iv) (fun v s => stp (mc e) (fun u s => stp (bd (peek v) fun x => bd (peek u) fun y => ofO (augI o x y)) (fun w s =>
      stp (setV cv iv w) (fun _ s => some (.nx, e, s)) s) s) s) s) s) s) := ps_imp h fun D σ H h => by
  obtain ⟨w, e, s, fl, e1, s1, R, ev, k⟩ := h
  obtain ⟨v, s2, e2, ev⟩ := stp_inv ev
  obtain ⟨i, s3, e3, ev⟩ := stp_inv ev
  obtain ⟨g, s4, e4, ev⟩ := stp_inv ev
  obtain ⟨u, s5, e5, ev⟩ := stp_inv ev
  obtain ⟨n, s6, e6, ev⟩ := stp_inv ev
  obtain ⟨t, s7, e7, ev⟩ := stp_inv ev
  cases ev
  refine ⟨w, e, s, v, s2, R, e2, fun w1 x H1 R1 l1 r1 => ⟨w1, e, s2, i, s3, R1, e3, fun w2 y H2 R2 l2 r2 => fun pins sh si ov iv I rx ry => ?_⟩⟩
  obtain ⟨kd, tk, e4'⟩ := pk R2 r2 e4
  cases q : getO v s3 with
  | none => rw [q] at e4'; cases e4'
  | some so =>
    obtain ⟨p, ep, ro⟩ := R2.obj (r1.mono l2) q
    subst ep
    rw [q] at e4'
    cases so with
    | lst vs =>
      obtain ⟨_, xs, hp, hr⟩ := ro
      cases kd with
      | int j =>
        have e4' : (if 0 ≤ j then (vs[j.toNat]?).map fun v => (v, s3) else none) = some (g, s4) := e4'
        split at e4'
        · rename_i hj
          obtain ⟨gv, h3, h4⟩ := map_inv e4'
          cases h4
          obtain ⟨z, h5, h6⟩ := hr.at_ h3
          obtain ⟨its, rv, pl, hz⟩ := I.list (SqL.of hp)
          obtain ⟨zv, h7, h8⟩ := rv.get h5
          cases rx
          cases (show y = .int j from tk)
          obtain ⟨tt, et⟩ := ry
          subst et
          have hl := rv.length
          have hlt : j.toNat < xs.length := (List.getElem?_eq_some_iff.mp h5).1
          have h63 := line63
          refine wpAny_getItem_list pl.isList hj (by omega) (by simpa using h7) ⟨z, H2, I, h8, w2, e, s3, u, s5, R2, e5, fun w3 y3 H3 R3 l3 r3 => ?_⟩
          obtain ⟨d1, td1, e6'⟩ := pk R3 (h6.mono l3) e6
          obtain ⟨d2, td2, e6''⟩ := pk R3 r3 e6'
          obtain ⟨e8, e9⟩ := ofO_inv e6''
          subst e9
          cases d1 with
          | int a1 =>
            cases d2 with
            | int a2 =>
              have e8 : (binD o (.int a1) (.int a2)).map Val.d = some n := e8
              rw [hf] at e8
              cases e8
              refine ⟨a1, a2, td1, td2, fun pins sh si ov iv uv I r4 r5 r6 => ?_⟩
              exact set_ok C hw I r4 r5 r6 R3 ((r1.mono l2).mono l3) (r2.mono l3) (show Rv X.K w3 (.d (.int (f a1 a2))) (.int (f a1 a2)) from (show Rp _ _ _ _ from rp_int)) e7 fun w' H' R' l' => k w' σ H' R' (((l1.trans l2).trans l3).trans l')
            | _ => cases e8
          | _ => cases e8
        · cases e4'
      | _ => cases e4'
    | _ => cases e4'
/-! ### loops -/
theorem s_for {tg iter : Expr} {body : List Stmt} {tgt : Tg} {mi : Lv → M (List PyData)} {m : Lv → Sto → Out} (hp : PassesOwn (model X.prog X.w) X.A X.env X.xe) (hc : X.calm = true) (hi : PI X tg iter (tI X.K w0 H0 mi)) (hg : PG X tg (tG X.K w0 H0 tgt)) (hb : PSs X body (tS X.K g W w0 H0 m))
    (hs : ∀ x, foldedSetIterable iter X.env x = pure x) : PS X (.For tg iter body [] pos) (tS X.K g W w0 H0 fun e s => stp (mi e) (fun xs s => forL (forF tgt m) xs e s) s) := ps_imp (ps_for hp hc hi hg hb hs) fun D σ H h => by
  obtain ⟨w, e, s, fl, e1, s1, R, ev, k⟩ := h
  obtain ⟨ds, s2, e2, ev⟩ := stp_inv ev
  refine ⟨w, e, s, ds, s2, R, e2, fun w1 J H1 R1 l1 wk => ⟨fun i m' σ' H' => m' = ds.length - i ∧ i ≤ ds.length ∧ ∃ w2 e2 s2, Rl X.K w0 H0 w2 e2 s2 σ' H' ∧ Le w1 H1 w2 H' ∧ forL (forF tgt m) (ds.drop i) e2 s2 = some (fl, e1, s1), ⟨ds.length, by simp, Nat.zero_le _, w1, e, s2, R1, .refl, ev⟩, ?_⟩⟩
  rintro i m' σ' H' ⟨rfl, hi, w2, e3, s3, R2, l2, hf⟩
  by_cases hlt : i < ds.length
  · rw [List.drop_eq_getElem_cons hlt] at hf
    have hf : loopN (forL (forF tgt m) (ds.drop (i + 1))) (forF tgt m ds[i] e3 s3) = some (fl, e1, s1) := hf
    refine .inr ⟨wk.goes i H' hlt (l2.f.trans R2.fh), fun σ'' H'' => ∃ w3 e4 s4, Rl X.K w0 H0 w3 e4 s4 σ'' H'' ∧ Le w1 H1 w3 H'' ∧ forL (forF tgt m) (ds.drop (i + 1)) e4 s4 = some (fl, e1, s1),
      fun σ'' H'' ⟨w3, e4, s4, h1, h2, h3⟩ => ⟨_, by omega, rfl, hlt, w3, e4, s4, h1, h2, h3⟩, fun x H3 y => ?_⟩
    obtain ⟨w3, d, hd, R3, l3, rd⟩ := wk.turn R2 l2.f hlt y
    have ed : ds[i] = d := by
      rw [List.getElem?_eq_getElem hlt] at hd
      exact Option.some.inj hd
    subst ed
    have L3 := l2.trans l3
    cases ha : asgT tgt (.d ds[i]) e3 with
    | none => unfold forF at hf; rw [ha] at hf; cases hf
    | some ee =>
      have eF : forF tgt m ds[i] e3 s3 = m ee s3 := by unfold forF; rw [ha]
      rw [eF] at hf
      refine ⟨w3, e3, s3, .d ds[i], ee, R3, rd, ha, fun σ4 R4 _ => ?_⟩
      cases hm : m ee s3 with
      | none => rw [hm] at hf; cases hf
      | some o =>
        obtain ⟨f5, e5, s5⟩ := o
        rw [hm] at hf
        refine ⟨w3, ee, s3, f5, e5, s5, R4, hm, fun w5 σ5 H5 R5 l5 => ?_⟩
        cases f5 with
        | nx => exact ⟨w5, e5, s5, R5, L3.trans l5, hf⟩
        | ct => exact ⟨w5, e5, s5, R5, L3.trans l5, hf⟩
        | bk =>
          cases (show some (Flow.nx, e5, s5) = some (fl, e1, s1) from hf)
          exact k w5 σ5 H5 R5 ((l1.trans L3).trans l5)
        | rt v =>
          cases (show some (Flow.rt v, e5, s5) = some (fl, e1, s1) from hf)
          exact k w5 σ5 H5 R5 ((l1.trans L3).trans l5)
        | xc c =>
          cases (show some (Flow.xc c, e5, s5) = some (fl, e1, s1) from hf)
          exact k w5 σ5 H5 R5 ((l1.trans L3).trans l5)
  · have hi2 : i = ds.length := by omega
    subst hi2
    rw [List.drop_length] at hf
    cases (show some (Flow.nx, e3, s3) = some (fl, e1, s1) from hf)
    exact .inl ⟨wk.stops H' (l2.f.trans R2.fh), k w2 σ' H' R2 (l1.trans l2)⟩
theorem s_whl {body : List Stmt} {c : Expr} {n : Nat} {mc : Lv → M Bool} {m : Lv → Sto → Out} (hp : PassesOwn (model X.prog X.w) X.A X.env X.xe) (hc : PT X c (tT X.K w0 H0 mc)) (hb : PSs X body (tS X.K g W w0 H0 m)) :
    PS X (.While c body [] pos) (tS X.K g W w0 H0 fun e s => whlL mc m n e s) := ps_imp (ps_while hp hc hb) fun D σ H h => by
  obtain ⟨w, e, s, fl, e1, s1, R, ev, k⟩ := h
  refine ⟨fun n σ' H' => ∃ w2 e2 s2, Rl X.K w0 H0 w2 e2 s2 σ' H' ∧ Le w H w2 H' ∧ whlL mc m n e2 s2 = some (fl, e1, s1), ⟨n, w, e, s, R, .refl, ev⟩, ?_⟩
  rintro n σ' H' ⟨w2, e2, s2, R2, l2, hf⟩
  cases n with
  | zero => cases hf
  | succ n =>
    obtain ⟨b, s3, e3, hf⟩ := stp_inv (show stp (mc e2) (fun k s => if k then loopN (whlL mc m n) (m e2 s) else some (.nx, e2, s)) s2 = some (fl, e1, s1) from hf)
    refine ⟨w2, e2, s2, b, s3, R2, e3, fun w3 H3 R3 l3 => ?_⟩
    have L3 := l2.trans l3
    cases b with
    | false =>
      cases (show some (Flow.nx, e2, s3) = some (fl, e1, s1) from hf)
      show (if false = true then _ else _)
      rw [if_neg Bool.false_ne_true]
      exact k w3 σ' H3 R3 L3
    | true =>
      show (if true = true then _ else _)
      rw [if_pos rfl]
      refine ⟨fun σ'' H'' => ∃ w2 e2 s2, Rl X.K w0 H0 w2 e2 s2 σ'' H'' ∧ Le w H w2 H'' ∧ whlL mc m n e2 s2 = some (fl, e1, s1), fun σ'' H'' h => ⟨n, Nat.lt_succ_self n, h⟩, ?_⟩
      have hf : loopN (whlL mc m n) (m e2 s3) = some (fl, e1, s1) := hf
      cases hm : m e2 s3 with
      | none => rw [hm] at hf; cases hf
      | some o =>
        obtain ⟨f5, e5, s5⟩ := o
        rw [hm] at hf
        refine ⟨w3, e2, s3, f5, e5, s5, R3, hm, fun w5 σ5 H5 R5 l5 => ?_⟩
        cases f5 with
        | nx => exact ⟨w5, e5, s5, R5, L3.trans l5, hf⟩
        | ct => exact ⟨w5, e5, s5, R5, L3.trans l5, hf⟩
        | bk =>
          cases (show some (Flow.nx, e5, s5) = some (fl, e1, s1) from hf)
          exact k w5 σ5 H5 R5 (L3.trans l5)
        | rt v =>
          cases (show some (Flow.rt v, e5, s5) = some (fl, e1, s1) from hf)
          exact k w5 σ5 H5 R5 (L3.trans l5)
        | xc c =>
          cases (show some (Flow.xc c, e5, s5) = some (fl, e1, s1) from hf)
          exact k w5 σ5 H5 R5 (L3.trans l5)
/-! ### calls whose exceptions go on -/
theorem callx_imp {n f : Nat} {T : Tx} {mr : Lv → M (List Val)} {kk : Val → Lv → Sto → Out} {Q : VK} {D : Ends} {σ : L2.St} {H : Hp} (hw : w0.nu = []) (hT : W0 g w0 H0) (hl : ∀ (lv : Lv) (s : Sto) vs s', mr lv s = some (vs, s') → vs.length = n)
    (h : ∃ w e s fl e1 s1, Rl X.K w0 H0 w e s σ H ∧ stp (mr e) (fun vs s => stp (keepVs vs) (fun vs s => callX T f vs (fun v s => kk v e s) e s) s) s = some (fl, e1, s1) ∧ ∀ w1 σ1 H1, Rl X.K w0 H0 w1 e1 s1 σ1 H1 → Le w H w1 H1 → Fin X.K g W w1 D σ1 H1 fl)
    (hk : ∀ w e s v z H' fl e1 s1, Rl X.K w0 H0 w e s σ H' → Rv X.K w v z → kk v e s = some (fl, e1, s1) → (∀ w1 σ1 H1, Rl X.K w0 H0 w1 e1 s1 σ1 H1 → Le w H' w1 H1 → Fin X.K g W w1 D σ1 H1 fl) → Q z H') :
    tCallS (spE X.K g (T.xr f) n) (WE W) (tA X.K w0 H0 mr) σ H Q := by
  obtain ⟨w, e, s, fl, e1, s1, R, ev, k⟩ := h
  obtain ⟨vs, s2, e2, ev⟩ := stp_inv ev
  obtain ⟨us, s3, e3, ev⟩ := stp_inv ev
  refine ⟨w, e, s, vs, s2, R, e2, fun w1 xs H1 R1 l1 r1 => ?_⟩
  obtain ⟨w2, R2, l2, r2, hn2⟩ := keepVs_ok hw R1 r1 e3
  have ev : (if noG s3.G then (match T.xr f us s3.G with
    | some (.inl v, g) => kk v e { s3 with G := g }
    | some (.inr c, g) => some (.xc c, e, { s3 with G := g })
    | none => none) else none) = some (fl, e1, s1) := ev
  split at ev
  · rename_i hg
    have nv : noV us = true := noV_by hn2
    cases q : T.xr f us s3.G with
    | none => rw [q] at ev; cases ev
    | some p =>
      obtain ⟨r, G'⟩ := p
      rw [q] at ev
      refine ⟨by rw [← r1.len]; exact hl _ _ _ _ e2, { w2 with nu := [] }, us, s3.G, r, G', rfl, (show w2.T = g.T from hT.teq R2), hT.tabs R2, R2.enter hg, noV_ok nv r2, q, fun w' H' hn R' l' => ?_⟩
      obtain ⟨R3, l3⟩ := R2.leave hn R' l'
      cases r with
      | inl v =>
        intro z rz
        exact hk _ e _ v z H' fl e1 s1 R3 (Rv.congr (w := w') (w' := { w' with nu := w2.nu }) (Sub.refl _) ⟨[], by simp⟩ ⟨w2.nu, by simp [hn]⟩ rz) ev fun w1 σ1 H1 R1 l4 => k w1 σ1 H1 R1 (((l1.trans l2).trans l3).trans l4)
      | inr c =>
        cases (show some (Flow.xc c, e, ({ s3 with G := G' } : Sto)) = some (fl, e1, s1) from ev)
        exact k _ σ H' R3 ((l1.trans l2).trans l3)
  · cases ev
theorem s_exx {n f : Nat} {T : Tx} {mr : Lv → M (List Val)} (hw : w0.nu = []) (hT : W0 g w0 H0) (hl : ∀ (lv : Lv) (s : Sto) vs s', mr lv s = some (vs, s') → vs.length = n)
    (ha : PE X a (tCallS (spE X.K g (T.xr f) n) (WE W) (tA X.K w0 H0 mr))) (hs : swapsWith a none pos.line X.env = pure false) :
    PS X (.Expr a pos) (tS X.K g W w0 H0 fun e s => stp (mr e) (fun vs s => stp (keepVs vs) (fun vs s => callX T f vs (fun _ s => some (.nx, e, s)) e s) s) s) := ps_imp (ps_expr ha hs) fun D σ H h =>
  callx_imp (kk := fun _ e s => some (.nx, e, s)) hw hT hl h fun w e s v z H' fl e1 s1 R r ev k => by
    cases ev
    exact k w σ H' R .refl
theorem s_retx {n f : Nat} {T : Tx} {mr : Lv → M (List Val)} (hw : w0.nu = []) (hT : W0 g w0 H0) (hl : ∀ (lv : Lv) (s : Sto) vs s', mr lv s = some (vs, s') → vs.length = n)
    (ha : PE X a (tCallS (spE X.K g (T.xr f) n) (WE W) (tA X.K w0 H0 mr))) :
    PS X (.Return (some a) pos) (tS X.K g W w0 H0 fun e s => stp (mr e) (fun vs s => stp (keepVs vs) (fun vs s => callX T f vs (fun v s => stp (keepV v) (fun w s => some (.rt w, e, s)) s) e s) s) s) := ps_imp (ps_ret ha) fun D σ H h =>
  callx_imp (kk := fun v e s => stp (keepV v) (fun w s => some (.rt w, e, s)) s) hw hT hl h fun w e s v z H' fl e1 s1 R r ev k => by
    obtain ⟨v3, s3, e3, ev⟩ := stp_inv ev
    cases ev
    obtain ⟨w2, R2, l2, r2, _⟩ := keepV_ok hw R r e3
    exact k w2 σ H' R2 l2 z r2
theorem s_setx {n f i : Nat} {T : Tx} {st : Stmt} {mr : Lv → M (List Val)} (hw : w0.nu = []) (hT : W0 g w0 H0) (hl : ∀ (lv : Lv) (s : Sto) vs s', mr lv s = some (vs, s') → vs.length = n)
    (h : PS X st (tAsg (tCallS (spE X.K g (T.xr f) n) (WE W) (tA X.K w0 H0 mr)) (gName i))) :
    PS X st (tS X.K g W w0 H0 fun e s => stp (mr e) (fun vs s => stp (keepVs vs) (fun vs s => callX T f vs (fun v s => some (.nx, e.set i (some v), s)) e s) s) s) := ps_imp h fun D σ H h =>
  callx_imp (kk := fun v e s => some (.nx, e.set i (some v), s)) hw hT hl h fun w e s v z H' fl e1 s1 R r ev k => by
    cases ev
    exact k w _ H' (R.setE r) .refl
/-! ### raise -/
/-- a class of the row that may be raised without arguments -/
structure XcF (K : PySem.W.Frag) (C : Addr) : Prop where
  base : ∃ (B newId initId : String) (bmB : List Value), ExcBaseFacts B newId initId bmB ∧ PySem.W.excIn K C bmB newId = true
  keep : PySem.W.keepIn K (.ref C) = true
  sub : PySem.W.subIn K (.ref C) (.type "BaseException") = some true
  ty : PySem.W.typeIn K (.ref C) = some (.type "type")
theorem pmk_own0 {X : Cx} {C : Addr} {x : Str} {p pos : Pos} (F : XcF X.K C) (gC : X.mg x = some (.ref C)) (hg : Gl X x) (hdb : (x == ("__debug__" : Str)) = false) : PMk X (.Call (.Name x p) [] [] pos) (fun _ H Q => Q (.ref C) none H) := by
  obtain ⟨B, newId, initId, bmB, FB, q⟩ := F.base
  intro pins s σ H Q I h
  refine wpAny_Call_Name_kw (ld_glob I hg gC ?_ hdb)
  refine PySem.W.callWith_K0 I.kIn F.keep ?_
  show wpAny _ _ (call (.ref C) []) _ _ _
  obtain ⟨bm, N, nm, qn, bs, hdct, sn, sub, ab, col, dd, k0, k1, k2, k3, k5, mN, hC, hN, hni, T⟩ := exc_obj I.kIn q
  refine wpAny_call_exc_subT FB T hC hN hni (fun h' e hm => ?_) (Nat.zero_le _)
  exact mk_of I hm (raises_own F.sub F.ty) h (I.hok.gone hm.new)
theorem s_rsx {C : Addr} {c : Nat} {x : Str} {p pos' : Pos} (hc : X.calm = true) (tk : Takes X W) (F : XcF X.K C) (gC : X.mg x = some (.ref C)) (hg : Gl X x) (hdb : (x == ("__debug__" : Str)) = false) (e : g.cl c = .ref C) :
    PS X (.Raise (some (.Call (.Name x p) [] [] pos')) none pos) (tS X.K g W w0 H0 fun e s => some (.xc c, e, s)) := ps_imp (ps_raise hc tk (pmk_own0 F gC hg hdb)) fun D σ H h => by
  obtain ⟨w, e1, s, fl, e2, s1, R, ev, k⟩ := h
  cases ev
  have z : W (g.cl c) none σ H := k w σ H R .refl
  rw [e] at z
  exact z
end
end Ev

/-! the evaluator's text against the program's -/
namespace Ev
open PySem PySem.Spec PyProof.Rows L2
structure Pm where
  N : List Str
  sc : Scope
  fnB : Str → Bool
  cn : List Str
  fs : List (Str × Nat)
  xs : List Str
  sd : Option (Str × List Str)
  hot : Bool
  xk : List Str
  lm : Bool
/-- no exception is handled -/
def nh (P : Pm) : Bool := !P.hot
def visB (sc : Scope) (x : Str) : Bool := match sc.names.lookup x with
  | some .local => true
  | some .cell => true
  | some .free => true
  | _ => false
def locB (sc : Scope) (x : Str) : Bool := match sc.names.lookup x with
  | some .local => true
  | some .cell => true
  | _ => false
def glB (sc : Scope) (x : Str) : Bool := decide (sc.names.lookup x = some .globalImplicit)
def litB : PyData → Const → Bool
  | .none, .none => true
  | .bool b, .bool c => decide (b = c)
  | .int i, .int j => decide (i = j)
  | .str x, .str y => decide (x = y)
  | _, _ => false
def noStar : Expr → Bool
  | .Starred .. => false
  | _ => true
def noSlice : Expr → Bool
  | .Slice .. => false
  | _ => true
def noSet : Expr → Bool
  | .Set .. => false
  | _ => true
def noComp : Expr → Bool
  | .ListComp .. => false
  | .SetComp .. => false
  | .DictComp .. => false
  | _ => true
def plainBase : Expr → Bool
  | .Call (.Name ..) [] [] _ => false
  | _ => true
def isMinus1 : Expr → Bool
  | .UnaryOp .USub (.Constant (.int i) _ _) _ => decide (i = 1)
  | _ => false
def b1N : B1 → String
  | .len => "len"
  | .sum => "sum"
  | .all => "all"
  | .any => "any"
  | .abs => "abs"
  | .sorted => "sorted"
  | .tuple => "tuple"
  | .list => "list"
  | .intb => "int"
  | .repr => "repr"
  | .maxs => "max"
  | .mins => "min"
  | _ => ""
def b1S : B1 → Bool
  | .len => true
  | .sum => true
  | .all => true
  | .any => true
  | .abs => true
  | .sorted => true
  | .tuple => true
  | .list => true
  | .intb => true
  | .repr => true
  | .maxs => true
  | .mins => true
  | _ => false
def lmN : LM → Str
  | .count => "count"
  | .index => "index"
def b2N : B2 → String
  | .max => "max"
  | .min => "min"
def ownP (N : List Str) (own : List Nat) : List (Str × Nat) := own.map fun i => (N.getD i "", i)
def Pm.blk (P : Pm) (scope : Scope) : Pm := { P with sc := relS scope P.sc, fnB := fun x => scope.names.lookup x == some .cell, sd := none, xk := [], lm := false }
/-- the look into a lambda without parameters -/
def Pm.lam (P : Pm) (scope : Scope) : Pm := { P with sc := scope, fnB := fun _ => false, sd := none, fs := [], xs := [], xk := [], lm := false }
def noArgs : Arguments → Bool
  | a => a.posonlyargs.isEmpty && a.args.isEmpty && a.kwonlyargs.isEmpty && a.vararg.isNone && a.kwarg.isNone && a.defaults.isEmpty && a.kw_defaults.isEmpty
/-- one parameter, x -/
def oneArg (x : Str) : Arguments → Bool
  | ⟨[], [a], none, [], [], none, []⟩ => decide (a.arg = x)
  | _ => false
/-! ### the look -/
def visK (sc : Scope) (x : Str) : Bool := match sc.names.lookup x with
  | some .local => true
  | some .free => true
  | _ => false
mutual
def chkK (N : List Str) (sc : Scope) : Ex → Expr → Bool
  | .var i, x => (match x with
    | .Name y _ => decide (N[i]? = some y) && visK sc y && !(y == ("__debug__" : Str)) && !(y == ("__classdict__" : Str))
    | _ => false)
  | .lit (.int k), x => (match x with
    | .Constant (.int j) _ _ => decide (k = j)
    | _ => false)
  | .bin o a b, x => (match x with
    | .BinOp y p z _ => decide (o = p) && chkK N sc a y && chkK N sc b z
    | _ => false)
  | .idx a b, x => (match x with
    | .Subscript y z _ => chkK N sc a y && chkK N sc b z && noSlice z
    | _ => false)
  | .tup es, x => (match x with
    | .Tuple ys _ _ => chkKs N sc es ys
    | _ => false)
  | _, _ => false
  termination_by structural a => a
def chkKs (N : List Str) (sc : Scope) : Exs → List Expr → Bool
  | .nil, xs => (match xs with
    | [] => true
    | _ => false)
  | .cons a es, xs => (match xs with
    | y :: ys => noStar y && chkK N sc a y && chkKs N sc es ys
    | _ => false)
  termination_by structural a => a
end
def lamPB (sc scope : Scope) (x : Str) : Bool := (match scope.kind with
  | .function => true
  | _ => false) && !scope.isCoroutine && !scope.isGenerator && decide (scope.names.lookup x = some .local) && scope.names.all fun y => !decide (y.2 = .cell) && (!decide (y.2 = .local) || decide (y.1 = x)) && (!decide (y.2 = .free) || decide (sc.names.lookup y.1 = some .cell) || decide (sc.names.lookup y.1 = some .free))
def bltB (P : Pm) (x : Str) (n : String) : Bool := nh P && (decide (x = Str.ofString n) && glB P.sc x)
def blkP (P : Pm) (scope : Scope) (own : List Nat) : Bool := nh P && blkC P.N P.sc scope (ownP P.N own)
mutual
def chkG (P : Pm) : Tg → Expr → Bool
  | .nm i, x => (match x with
    | .Name y _ => decide (P.N[i]? = some y) && locB P.sc y && (P.fnB y || decide (P.sc.names.lookup y = some .local))
    | _ => false)
  | .tp ts, x => (match x with
    | .Tuple ys _ _ => nh P && chkGs P ts ys
    | _ => false)
  termination_by structural a => a
def chkGs (P : Pm) : Tgs → List Expr → Bool
  | .nil, xs => (match xs with
    | [] => true
    | _ => false)
  | .cons t ts, xs => (match xs with
    | y :: ys => noStar y && chkG P t y && chkGs P ts ys
    | _ => false)
  termination_by structural a => a
end
mutual
def chkE : Ex → Pm → Expr → Bool
  | .var i, P, x => (match x with
    | .Name y _ => decide (P.N[i]? = some y) && visB P.sc y && !(y == ("__debug__" : Str)) && !(y == ("__classdict__" : Str))
    | _ => false)
  | .lit d, P, x => (match x with
    | .Constant c _ _ => litB d c
    | _ => false)
  | .glo k, P, x => (match x with
    | .Name y _ => decide (P.cn[k]? = some y) && glB P.sc y && !(y == ("__debug__" : Str))
    | _ => false)
  | .bin o a b, P, x => (match x with
    | .BinOp y p z _ => decide (p = o) && chkE a P y && chkE b P z
    | _ => false)
  | .neg a, P, x => (match x with
    | .UnaryOp .USub y _ => chkE a P y
    | _ => false)
  | .cmp o a b, P, x => (match x with
    | .Compare y [p] [z] _ => decide (p = o) && chkE a P y && chkE b P z && !(behindInMarks o z)
    | _ => false)
  | .chn o1 o2 a b c, P, x => (match x with
    | .Compare y [p, q] [z, u] _ => decide (p = o1) && decide (q = o2) && chkE a P y && chkE b P z && chkE c P u && !(lastMarks [o1, o2] [z, u])
    | _ => false)
  | .and es, P, x => (match x with
    | .BoolOp .And ys _ => chkB es P ys
    | _ => false)
  | .or es, P, x => (match x with
    | .BoolOp .Or ys _ => chkB es P ys
    | _ => false)
  | .not a, P, x => (match x with
    | .UnaryOp .Not y _ => chkE a P y
    | _ => false)
  | .ife c a b, P, x => (match x with
    | .IfExp t y z _ => chkT c P t && chkE a P y && chkE b P z
    | _ => false)
  | .tup es, P, x => (match x with
    | .Tuple ys _ _ => chkEs es P ys
    | _ => false)
  | .lst _ es, P, x => (match x with
    | .List ys _ => chkEs es P ys
    | _ => false)
  | .dct0, P, x => (match x with
    | .Dict [] [] _ => true
    | _ => false)
  | .idx a b, P, x => (match x with
    | .Subscript y z _ => chkE a P y && chkE b P z && noSlice z
    | _ => false)
  | .slc a lo hi, P, x => (match x with
    | .Subscript y (.Slice l h none _) _ => chkE a P y && chkP lo P l && chkP hi P h
    | _ => false)
  | .rev a, P, x => (match x with
    | .Subscript y (.Slice none none (some s) _) _ => chkE a P y && isMinus1 s
    | _ => false)
  | .call f es, P, x => (match x with
    | .Call (.Name y _) (z :: zs) [] _ => decide (P.fs[f]? = some (y, (z :: zs).length)) && glB P.sc y && !(y == ("__debug__" : Str)) && chkEs es P (z :: zs)
    | _ => false)
  | .b1 f a, P, x => (match x with
    | .Call (.Name y _) [z] [] _ => b1S f && bltB P y (b1N f) && chkE a P z && noStar z
    | _ => false)
  | .ss a, P, x => (match x with
    | .Call (.Name y _) [.Call (.Name z _) [u] [] _] [] _ => bltB P y "sorted" && bltB P z "set" && chkE a P u && noStar u
    | _ => false)
  | .b2 f a b, P, x => (match x with
    | .Call (.Name y _) [z, u] [] _ => bltB P y (b2N f) && chkE a P z && chkE b P u && noStar z && noStar u
    | _ => false)
  | .isi a t, P, x => (match x with
    | .Call (.Name y _) [z, .Name u _] [] _ => bltB P y "isinstance" && bltB P u (tyN t) && chkE a P z && noStar z
    | _ => false)
  | .get d k y, P, x => (match x with
    | .Call (.Attribute o m ap) [z, u] [] cp => decide (m = Str.ofString "get") && (ap.endLine == cp.line) && plainBase o && chkE d P o && chkE k P z && chkE y P u && noStar z && noStar u
    | _ => false)
  | .app o a, P, x => (match x with
    | .Call (.Attribute p m ap) [z] [] cp => decide (m = Str.ofString "append") && (ap.endLine == cp.line) && plainBase p && chkE o P p && chkE a P z && noStar z
    | _ => false)
  | .comp _ elt tg it cd own, P, x => (match x with
    | .ListComp y [⟨t, i, ifs, z⟩] scope _ => decide (z = 0) && blkP P scope own && chkI it P t i && tgIn tg own && chkG (P.blk scope) tg t && chkC cd (P.blk scope) ifs && chkE elt (P.blk scope) y
    | _ => false)
  | .compi _ elt tg src cd own, P, x => (match x with
    | .ListComp y [⟨t, i, ifs, z⟩] scope _ => decide (z = 0) && blkP P scope own && chkE src P i && noSet i && tgIn tg own && chkG (P.blk scope) tg t && chkC cd (P.blk scope) ifs && chkE elt (P.blk scope) y
    | _ => false)
  | .ssc elt tg it cd own, P, x => (match x with
    | .Call (.Name z _) [.SetComp y [⟨t, i, ifs, n⟩] scope _] [] _ => bltB P z "sorted" && decide (n = 0) && blkP P scope own && chkI it P t i && tgIn tg own && chkG (P.blk scope) tg t && chkC cd (P.blk scope) ifs && chkE elt (P.blk scope) y
    | _ => false)
  | .comp2 _ elt tg it tg1 it1 cd1 own own1, P, x => (match x with
    | .ListComp y [⟨t, i, [], z⟩, ⟨t1, i1, ifs1, z1⟩] scope _ => decide (z = 0) && decide (z1 = 0) && blkP P scope own && chkI it P t i && tgIn tg own && tgIn tg1 own1 && own1.all (own.contains ·) && chkG (P.blk scope) tg t && chkI it1 (P.blk scope) t1 i1 && chkG (P.blk scope) tg1 t1 && chkC cd1 (P.blk scope) ifs1 && chkE elt (P.blk scope) y
    | _ => false)
  | .binl _ o a b, P, x => (match x with
    | .BinOp y p z _ => decide (p = o) && chkE a P y && chkE b P z
    | _ => false)
  | .dcomp k v tg it cd own, P, x => (match x with
    | .DictComp y u [⟨t, i, ifs, z⟩] scope _ => decide (z = 0) && blkP P scope own && chkI it P t i && tgIn tg own && chkG (P.blk scope) tg t && chkC cd (P.blk scope) ifs && chkE k (P.blk scope) y && chkE v (P.blk scope) u
    | _ => false)
  | .lm f o a, P, x => (match x with
    | .Call (.Attribute p m ap) [z] [] cp => decide (m = lmN f) && (ap.endLine == cp.line) && plainBase p && chkE o P p && chkE a P z && noStar z
    | _ => false)
  | .dctp, P, x => (match x with
    | .Dict [] [] _ => true
    | _ => false)
  | .sk true a i b, P, x => (match x with
    | .Call (.Name y _) [.Call (.Name r _) [z] [] _] [⟨some kn, .Lambda params body scope _, _⟩] _ => P.lm && bltB P y "sorted" && bltB P r "range" && noStar z && chkE a P z && decide (kn = "key") && (match P.N[i]? with
      | some x => oneArg x params && lamPB P.sc scope x
      | none => false) && chkK P.N scope b body
    | _ => false)
  | .sk false _ _ _, _, _ => false
  | .isx i k, P, x => (match x with
    | .Call (.Name y _) [.Name e _, .Name c _] [] _ => decide (y = "isinstance") && decide (P.N[i]? = some e) && visB P.sc e && !(e == ("__debug__" : Str)) && !(e == ("__classdict__" : Str)) && decide (P.xk[k]? = some c)
    | _ => false)
  | .said ws f es, P, x => (match x with
    | .Call (.Name y _) [.Lambda params (.Call (.Name z _) (u :: us) [] _) scope _] [] _ => decide (P.sd = some (y, ws)) && glB P.sc y && !(y == ("__debug__" : Str)) && noArgs params && LamX.lamSB P.sc scope && decide (P.fs[f]? = some (z, (u :: us).length)) && glB scope z && !(z == ("__debug__" : Str)) && chkEs es (P.lam scope) (u :: us)
    | _ => false)
  termination_by structural a => a
def chkEs : Exs → Pm → List Expr → Bool
  | .nil, P, xs => (match xs with
    | [] => true
    | _ => false)
  | .cons a es, P, xs => (match xs with
    | y :: ys => noStar y && chkE a P y && chkEs es P ys
    | _ => false)
  termination_by structural a => a
def chkB : Exs → Pm → List Expr → Bool
  | .nil, P, xs => false
  | .cons a es, P, xs => (match xs with
    | [] => false
    | [y] => chkE a P y && (match es with
      | .nil => true
      | _ => false)
    | y :: ys => chkE a P y && chkB es P ys)
  termination_by structural a => a
def chkP : Xo → Pm → Option Expr → Bool
  | .none, P, x => (match x with
    | none => true
    | _ => false)
  | .some a, P, x => (match x with
    | some y => chkE a P y
    | _ => false)
  termination_by structural a => a
def chkT : Ct → Pm → Expr → Bool
  | .v a, P, x => chkE a P x && (match x with
    | .UnaryOp .Not _ _ => false
    | .BoolOp .. => false
    | .IfExp .. => false
    | _ => true)
  | .not a, P, x => (match x with
    | .UnaryOp .Not y _ => chkT a P y
    | _ => false)
  | .and cs, P, x => (match x with
    | .BoolOp .And ys _ => chkTs cs P ys
    | _ => false)
  | .or cs, P, x => (match x with
    | .BoolOp .Or ys _ => chkTs cs P ys
    | _ => false)
  | .ife _ _ _, _, _ => false
  termination_by structural a => a
def chkTs : Cts → Pm → List Expr → Bool
  | .nil, P, xs => false
  | .cons a cs, P, xs => (match xs with
    | [] => false
    | [y] => chkT a P y && (match cs with
      | .nil => true
      | _ => false)
    | y :: ys => chkT a P y && chkTs cs P ys)
  termination_by structural a => a
def chkC : Co → Pm → List Expr → Bool
  | .none, P, xs => (match xs with
    | [] => true
    | _ => false)
  | .some c, P, xs => (match xs with
    | [y] => chkT c P y
    | _ => false)
  termination_by structural a => a
def chkI : Ix → Pm → Expr → Expr → Bool
  | .seq a, P, _, x => chkE a P x && noSet x
  | .rng1 a, P, _, x => (match x with
    | .Call (.Name y _) [z] [] _ => bltB P y "range" && chkE a P z && noStar z
    | _ => false)
  | .rng2 a b, P, _, x => (match x with
    | .Call (.Name y _) [z, u] [] _ => bltB P y "range" && chkE a P z && chkE b P u && noStar z && noStar u
    | _ => false)
  | .enum a, P, t, x => (match t, x with
    | .Tuple .., .Call (.Name y _) [z] [] _ => bltB P y "enumerate" && chkE a P z && noStar z
    | _, _ => false)
  | .zip st a b, P, t, x => (match t, x with
    | .Tuple .., .Call (.Name y _) [z, u] [] _ => !st && bltB P y "zip" && chkE a P z && chkE b P u && noStar z && noStar u
    | _, _ => false)
  | .ezip a b, P, t, x => (match t, x with
    | .Tuple .., .Call (.Name v _) [.Call (.Name y _) [z, u] [] _] [] _ => bltB P v "enumerate" && bltB P y "zip" && chkE a P z && chkE b P u && noStar z && noStar u
    | _, _ => false)
  termination_by structural a => a
end
/-- the par-assignments' look -/
def parB (P : Pm) (i : Nat) (x : Str) : Bool := decide (P.N[i]? = some x) && decide (P.sc.names.lookup x = some .local)
def folded (vs : List Expr) : Bool := vs.all (foldedForSure 8)
/-- no stores exchanged -/
def parNo (P : Pm) (ts : List Expr) (v : Expr) : Bool := match v with
  | .Tuple vs _ _ => folded vs || decide (ts.length ≠ 2 ∧ ts.length ≠ 3) || ts.any fun t => match t with
    | .Name y _ => !decide (P.sc.names.lookup y = some .local)
    | _ => true
  | _ => true
def compSw (P : Pm) (x : Str) (p : Pos) : Expr → Bool
  | .ListComp _ _ s vp => (match P.sc.kind with
    | .function => true
    | _ => false) && decide (P.sc.names.lookup x = some .local) && (p.line == vp.line) && !(s.names.any fun y => y.1 == x && (y.2 == .local || y.2 == .cell))
  | .DictComp _ _ _ s vp => (match P.sc.kind with
    | .function => true
    | _ => false) && decide (P.sc.names.lookup x = some .local) && (p.line == vp.line) && !(s.names.any fun y => y.1 == x && (y.2 == .local || y.2 == .cell))
  | _ => false
def isFn (P : Pm) : Bool := nh P && (match P.sc.kind with
  | .function => true
  | _ => false)
def isFun (P : Pm) : Bool := match P.sc.kind with
  | .function => true
  | _ => false
def notConst (vs : List Expr) : Bool := !(vs.all (foldedForSure 8)) && !(vs.all (constantsAlone 8))
mutual
def chkS : St → Pm → Stmt → Bool
  | .ex a, P, x => (match x with
    | .Expr y _ => chkE a P y && noComp y
    | _ => false)
  | .set i a, P, x => (match x with
    | .Assign [.Name y p] v _ => isFun P && decide (P.N[i]? = some y) && locB P.sc y && (P.fnB y || decide (P.sc.names.lookup y = some .local)) && chkE a P v
    | _ => false)
  | .par i j a b, P, x => (match x with
    | .Assign [.Tuple [.Name y yp, .Name z zp] _ _] (.Tuple [u, v] _ _) _ => isFn P && parB P i y && parB P j z && decide (i ≠ j) && !(z == y) && (yp.line == zp.line) && notConst [u, v] && noStar u && noStar v && chkE a P u && chkE b P v
    | _ => false)
  | .par3 i j k a b c, P, x => (match x with
    | .Assign [.Tuple [.Name y yp, .Name z zp, .Name t tp] _ _] (.Tuple [u, v, w] _ _) _ => isFn P && parB P i y && parB P j z && parB P k t && decide (i ≠ j) && decide (i ≠ k) && decide (j ≠ k) && !(z == y) && !(t == y) && !(t == z) && (yp.line == zp.line) && (yp.line == tp.line) &&
        notConst [u, v, w] && noStar u && noStar v && noStar w && chkE a P u && chkE b P v && chkE c P w
    | _ => false)
  | .asg tg a, P, x => (match x with
    | .Assign [.Tuple ts k p] v _ => parNo P ts v && chkG P tg (.Tuple ts k p) && chkE a P v && isFun P
    | _ => false)
  | .sub o i a, P, x => (match x with
    | .Assign [.Subscript y z _] v _ => chkE o P y && chkE i P z && chkE a P v && noSlice z
    | _ => false)
  | .augs c i o a, P, x => (match x with
    | .AugAssign (.Subscript y z _) q v _ => decide (q = o) && (match o with
      | .Add => true
      | .Sub => true
      | _ => false) && chkE c P y && chkE i P z && chkE a P v && noSlice z
    | _ => false)
  | .iff c a b, P, x => (match x with
    | .If t y z _ => chkT c P t && chkSs a P y && chkSs b P z
    | _ => false)
  | .forr tg it body, P, x => (match x with
    | .For t i y [] _ => (nh P && chkI it P t i) && chkG P tg t && chkSs body P y
    | _ => false)
  | .whl _ c body, P, x => (match x with
    | .While t y [] _ => chkT c P t && chkSs body P y
    | _ => false)
  | .ret a, P, x => (match x with
    | .Return (some y) _ => chkE a P y
    | _ => false)
  | .ret0, P, x => (match x with
    | .Return none _ => true
    | _ => false)
  | .rse, _, _ => true
  | .pass, P, x => (match x with
    | .Pass _ => true
    | _ => false)
  | .rsx c, P, x => (match x with
    | .Raise (some (.Call (.Name y _) [] [] _)) none _ => (nh P && decide (P.xs[c]? = some y)) && glB P.sc y && !(y == ("__debug__" : Str))
    | _ => false)
  | .exx f es, P, x => (match x with
    | .Expr (.Call (.Name y _) (z :: zs) [] _) _ => decide (P.fs[f]? = some (y, (z :: zs).length)) && glB P.sc y && !(y == ("__debug__" : Str)) && chkEs es P (z :: zs)
    | _ => false)
  | .retx f es, P, x => (match x with
    | .Return (some (.Call (.Name y _) (z :: zs) [] _)) _ => decide (P.fs[f]? = some (y, (z :: zs).length)) && glB P.sc y && !(y == ("__debug__" : Str)) && chkEs es P (z :: zs)
    | _ => false)
  | .setx i f es, P, x => (match x with
    | .Assign [.Name t _] (.Call (.Name y _) (z :: zs) [] _) _ => isFun P && decide (P.N[i]? = some t) && locB P.sc t && (P.fnB t || decide (P.sc.names.lookup t = some .local)) && decide (P.fs[f]? = some (y, (z :: zs).length)) && glB P.sc y && !(y == ("__debug__" : Str)) && chkEs es P (z :: zs)
    | _ => false)
  termination_by structural a => a
def chkSs : Sts → Pm → List Stmt → Bool
  | .nil, P, xs => (match xs with
    | [] => true
    | _ => false)
  | .cons a as, P, xs => (match xs with
    | y :: ys => chkS a P y && chkSs as P ys
    | _ => false)
  termination_by structural a => a
end
end Ev

/-! a def's promise where no repr is under way -/
namespace Ev
open PySem PySem.Spec PyProof.Rows L2
/-- as FnOk, but it is only called where no guard stands -/
structure FnG (Pg : Program) (W : World) (K : PySem.W.Frag) (mg : Str → Option Value) (base : Heap) (k : Nat) (f : Addr) (fd : FuncData) (ps : List Str) (sp : Sp) : Prop where
  ar : ∀ xs H Q E, sp xs H Q E → xs.length = ps.length
  go : ∀ (A : Around) (out : List Env) (s : Shared) (H : Hp) (ag : Args) (us : List Value) (xs : List V) (Q : VK) (E : XK), A.guards = some [] → Room k A → Env0 Pg W K mg base A out s H → BindsTo s fd ag (ps.zip us) → Vals xs us → sp xs H Q E →
    codeAny (model Pg W) A (.call (.ref f) ag) (CR (L2.CX Pg W) out Pg W H s Q E) s
section
variable {Pg : Program} {W : World} {K : PySem.W.Frag} {mg : Str → Option Value} {base : Heap} {k : Nat} {f : Addr} {fd : FuncData} {ps : List Str} {sp : Sp}
theorem fng_of {x q : Str} {pr : Arguments} {body : List Stmt} {sc : Scope} {dvs : List V} {kws : List (Str × V)} {N : List Str} (F : FunD K x q pr body sc dvs kws f fd) (S : FnScope N ps sc) (ar : ∀ xs H Q E, sp xs H Q E → xs.length = ps.length)
    (hb : ∀ (cdv : Value) (A : Around) (out : List Env) (s : Shared) (H : Hp) (xs : List V) (Q : VK) (E : XK), A.guards = some [] → Room k (A.deeper (envOfC q sc s.heap.objs.size f cdv)) → sp xs H Q E →
      ∃ t, PSs (cxOf (L2.CX Pg W) Pg W K mg base N q sc f cdv A out s H E) body t ∧ t { nx := fun _ H' => Q .non H', rt := Q } (L2.start N xs) H) : FnG Pg W K mg base (k + 1) f fd ps sp := by
  obtain ⟨oc, od, dV, kV, doc, pm, an, cdv, ct, osl, rfl, lk, hcd, _, _⟩ := F.ex
  refine ⟨ar, fun A out s H ag us xs Q E hg hr e0 hbi r hsp => ?_⟩
  have kin : K.In s.heap := e0.mod.kin.keeps fun b o e => (e0.bs b o e).1
  have hk : ∀ y ∈ ps.zip us, sc.names.lookup y.1 = some .local ∨ (sc.names.lookup y.1 = some .cell ∧ ((cellsFrom (s.heap.objs.size + 1) sc.names []).lookup y.1).isSome = true) := by
    rintro ⟨n, v⟩ hy
    exact (S.par n (List.of_mem_zip hy).1).imp id fun c => ⟨c, PySem.W.cellsFrom_some _ _ _ (.inl c)⟩
  refine codeAny_call_function hr.depth (kin _ _ lk) rfl S.co S.gen rfl (PySem.W.codeRec_of kin hcd) (hbi _ _ _ _ (wpAny_newFunctionEnv_cells S.kind hk fun env he s1 x => ?_))
  subst he
  refine ⟨(e0.mod.nolimit.keeps fun b o e => (e0.bs b o e).1).keeps x.toInCall.keep, codeAny_func ?_⟩
  obtain ⟨t, ht, hq⟩ := hb cdv A out s H xs Q E hg (hr.deeper _) hsp
  refine wpAny_mono (ht.run [] s1 (L2.start N xs) H _ (inv_start S hr.hd e0 (ar _ _ _ _ hsp) r x) hq) (fun fl s' hs => ?_) fun e s' hs => hs
  cases fl with
  | ret u =>
    obtain ⟨v, σ', H', J, rv, q⟩ := hs
    exact ⟨v, H', J.os, J.bare, J.base, J.hok, rv, q⟩
  | next =>
    obtain ⟨σ', H', J, q⟩ := hs
    exact ⟨.non, H', J.os, J.bare, J.base, J.hok, rfl, q⟩
  | brk =>
    obtain ⟨_, _, _, q⟩ := hs
    exact False.elim q
  | cont =>
    obtain ⟨_, _, _, q⟩ := hs
    exact False.elim q
theorem fng_of2 {x q : Str} {pr : Arguments} {body : List Stmt} {sc : Scope} {dvs : List V} {kws : List (Str × V)} {N : List Str} (F : FunD K x q pr body sc dvs kws f fd) (S : FnScope N ps sc) (ar : ∀ xs H Q E, sp xs H Q E → xs.length = ps.length)
    (hb : ∀ (cdv : Value), PySem.W.codeIn K cdv q = true → (∃ oc od osl, K.lookup f = some ⟨oc, od, .func fd, osl⟩ ∧ fd.code = cdv) → ∀ (A : Around) (out : List Env) (s : Shared) (H : Hp) (xs : List V) (Q : VK) (E : XK), A.guards = some [] → Room k (A.deeper (envOfC q sc s.heap.objs.size f cdv)) → sp xs H Q E →
      ∃ t, PSs (cxOf (L2.CX Pg W) Pg W K mg base N q sc f cdv A out s H E) body t ∧ t { nx := fun _ H' => Q .non H', rt := Q } (L2.start N xs) H) : FnG Pg W K mg base (k + 1) f fd ps sp := by
  obtain ⟨oc, od, dV, kV, doc, pm, an, cdv, ct, osl, rfl, lk, hcd, _, _⟩ := id F.ex
  refine ⟨ar, fun A out s H ag us xs Q E hg hr e0 hbi r hsp => ?_⟩
  have kin : K.In s.heap := e0.mod.kin.keeps fun b o e => (e0.bs b o e).1
  have hk : ∀ y ∈ ps.zip us, sc.names.lookup y.1 = some .local ∨ (sc.names.lookup y.1 = some .cell ∧ ((cellsFrom (s.heap.objs.size + 1) sc.names []).lookup y.1).isSome = true) := by
    rintro ⟨n, v⟩ hy
    exact (S.par n (List.of_mem_zip hy).1).imp id fun c => ⟨c, PySem.W.cellsFrom_some _ _ _ (.inl c)⟩
  refine codeAny_call_function hr.depth (kin _ _ lk) rfl S.co S.gen rfl (PySem.W.codeRec_of kin hcd) (hbi _ _ _ _ (wpAny_newFunctionEnv_cells S.kind hk fun env he s1 x => ?_))
  subst he
  refine ⟨(e0.mod.nolimit.keeps fun b o e => (e0.bs b o e).1).keeps x.toInCall.keep, codeAny_func ?_⟩
  obtain ⟨t, ht, hq⟩ := hb cdv hcd ⟨_, _, _, lk, rfl⟩ A out s H xs Q E hg (hr.deeper _) hsp
  refine wpAny_mono (ht.run [] s1 (L2.start N xs) H _ (inv_start S hr.hd e0 (ar _ _ _ _ hsp) r x) hq) (fun fl s' hs => ?_) fun e s' hs => hs
  cases fl with
  | ret u =>
    obtain ⟨v, σ', H', J, rv, q⟩ := hs
    exact ⟨v, H', J.os, J.bare, J.base, J.hok, rv, q⟩
  | next =>
    obtain ⟨σ', H', J, q⟩ := hs
    exact ⟨.non, H', J.os, J.bare, J.base, J.hok, rfl, q⟩
  | brk =>
    obtain ⟨_, _, _, q⟩ := hs
    exact False.elim q
  | cont =>
    obtain ⟨_, _, _, q⟩ := hs
    exact False.elim q
/-- a def that may be called by its name -/
structure CalG (Pg : Program) (W : World) (K : PySem.W.Frag) (mg : Str → Option Value) (base : Heap) (k : Nat) (x : Str) (sp : Sp) : Prop where
  ex : ∃ (f : Addr) (fd : FuncData) (ps : List Str), FnG Pg W K mg base k f fd ps sp ∧ mg x = some (.ref f) ∧ PySem.W.keepIn K (.ref f) = true ∧ Binds K fd ps []
theorem e_cal {X : Cx} {j : Nat} {x : Str} {p pos : Pos} {a : Expr} {as : List Expr} {t : TA} (c : CalG X.prog X.w X.K X.mg X.base k x sp) (hd : X.A.guards = some []) (hr : Room j X.A) (hk : k ≤ j) (hg : Gl X x) (ha : PA X (a :: as) t)
    (hx : (x == ("__debug__" : Str)) = false) (he : starEach (a :: as) X.env = (false, eval a X.env) :: starEach as X.env) (hp : (backTo pos (starEach as X.env)).any (·.1) = false) :
    PE X (.Call (.Name x p) (a :: as) [] pos) (tCall sp [] C8.E0 t) := by
  obtain ⟨f, fd, ps, F, hm, kp, b⟩ := c.ex
  refine ⟨fun pins s σ H Q I h => wpAny_Call_Name_kw (ld_glob I hg hm ?_ hx)⟩
  refine PySem.W.callWith_K (h₀ := X.base) I.ok.mod.kin kp (thn (ha.run pos pins s σ H _ I h) fun us s1 ⟨vs, H1, I1, r, q⟩ => ⟨I1.kIn, ?_⟩) he hp
  have q : sp (vs ++ []) H1 Q C8.E0 := q
  rw [List.append_nil] at q
  have hl : (us ++ []).length = ps.length := by rw [List.append_nil, ← r.length]; exact F.ar _ _ _ _ q
  have bi := b s1 us I1.kIn hl
  rw [List.append_nil] at bi
  refine wpAny_call (codeAny_mono (F.go X.A X.stack s1 H1 ⟨us, []⟩ us vs Q C8.E0 hd (hr.mono hk) I1.env0 bi r q) fun r' s' hq => ?_)
  cases r' with
  | error e =>
    obtain ⟨_, _, _, _, _, _, _, _, _, _, _, _, z⟩ := (show L2.CX _ _ _ _ _ _ _ _ from hq)
    exact False.elim z
  | ok fl =>
    cases fl with
    | ret u => exact I1.after hq
    | next => exact False.elim hq
    | brk => exact False.elim hq
    | cont => exact False.elim hq
/-- .. and may raise what the caller's context takes -/
theorem e_calX {X : Cx} {W' : WX} {j : Nat} {x : Str} {p pos : Pos} {a : Expr} {as : List Expr} {t : TA} (c : CalG X.prog X.w X.K X.mg X.base k x sp) (tk : Takes X W') (hd : X.A.guards = some []) (hr : Room j X.A) (hk : k ≤ j) (hg : Gl X x) (ha : PA X (a :: as) t)
    (hx : (x == ("__debug__" : Str)) = false) (he : starEach (a :: as) X.env = (false, eval a X.env) :: starEach as X.env) (hp : (backTo pos (starEach as X.env)).any (·.1) = false) :
    PE X (.Call (.Name x p) (a :: as) [] pos) (tCallS sp (WE W') t) := by
  obtain ⟨f, fd, ps, F, hm, kp, b⟩ := c.ex
  refine ⟨fun pins s σ H Q I h => wpAny_Call_Name_kw (ld_glob I hg hm ?_ hx)⟩
  refine PySem.W.callWith_K (h₀ := X.base) I.ok.mod.kin kp (thn (ha.run pos pins s σ H _ I h) fun us s1 ⟨vs, H1, I1, r, q⟩ => ⟨I1.kIn, ?_⟩) he hp
  have hl : us.length = ps.length := by rw [← r.length]; exact F.ar _ _ _ _ q
  have bi := b s1 us I1.kIn (by rw [List.append_nil]; exact hl)
  rw [List.append_nil] at bi
  refine wpAny_call (codeAny_mono (F.go X.A X.stack s1 H1 ⟨us, []⟩ us vs Q (WE W' σ) hd (hr.mono hk) I1.env0 bi r q) fun r' s' hq => ?_)
  cases r' with
  | error e => exact passAt tk σ pins H1 s1 e s' I1 hq
  | ok fl =>
    cases fl with
    | ret u => exact I1.after hq
    | next => exact False.elim hq
    | brk => exact False.elim hq
    | cont => exact False.elim hq
theorem law_go {mb : Str → Option Value} {a : Addr} {x : Str} {s1 : Shared} {vs : List Value} {ns : List Int}
    (kx : K.In s1.heap) (hns : s1.heap.Ns mainGlobals mg) (hb : s1.heap.Ns builtinsNs mb) (hbb : ∀ x : Str, x ≠ "__name__" → mb x = bootBuiltins x) (hlim : s1.heap.NoLimit) (hg : s1.gens = #[])
    (ha : s1.heap.get? a = some { cls := .type "list", data := .seq vs.toArray }) (hi : IntsAre vs ns) (hl : ns.length ≤ sizeLine) (hr : Room k callerA)
    (F : ∀ base : Heap, K.In base → base.Ns mainGlobals mg → FnG Pg W K mg base k f fd [x] sp) (hbind : ∀ (s : Shared) (u : Value), BindsTo s fd ⟨[u], []⟩ [(x, u)])
    (hsp : ∀ H : Hp, SqL K H a (ns.map V.int) → sp [.ref a] H (fun v _ => v = .bl true) fun _ _ _ => False) :
    codeAny (model Pg W) callerA (.call (.ref f) ⟨[.ref a], []⟩) (fun r s' => r = .ok (.ret (.bool true)) ∧ OldK s1.heap s'.heap ∧ s'.os = s1.os ∧ AllBare s'.gens) s1 := by
  have rv := vals_ints hi
  have key : ∀ H : Hp, (∀ b, H b ≠ none → b = a ∧ K.lookup a = none ∧ ∃ o xs, H b = some (.frz o (.lst xs))) → SqL K H a (ns.map V.int) → HOk Pg W H s1.heap →
      codeAny (model Pg W) callerA (.call (.ref f) ⟨[.ref a], []⟩) (fun r s' => r = .ok (.ret (.bool true)) ∧ OldK s1.heap s'.heap ∧ s'.os = s1.os ∧ AllBare s'.gens) s1 := fun H hA hS hok => by
    have off : ∀ {b : Addr} {o : Obj}, s1.heap.get? b = some o → (b = a → K.lookup a ≠ none ∨ ∃ es ep, o.data = .dict es ep) → H b = none := fun {b o} e hd => by
      cases q : H b with
      | none => rfl
      | some u =>
        obtain ⟨e2, e3, _⟩ := hA b (by rw [q]; simp)
        rcases hd e2 with z | ⟨es, ep, z⟩
        · exact absurd e3 z
        · subst e2
          rw [ha] at e
          cases e
          cases (show Data.seq vs.toArray _ = Data.dict es ep from z)
    have ns1 : ∀ {b : Addr} {m : Str → Option Value}, s1.heap.Ns b m → (hidT s1.heap H).Ns b m := fun {b m} ⟨o, es, ep, e, d, r⟩ => ⟨o, es, ep, hidT_get e (off e fun _ => .inr ⟨es, ep, d⟩), d, r⟩
    have kin : K.In (hidT s1.heap H) := fun b o e => hidT_get (kx b o e) (off (kx b o e) fun z => .inl (by rw [← z, e]; simp))
    obtain ⟨mc, c1, c2⟩ := hlim
    have e0 : Env0 Pg W K mg (hidT s1.heap H) callerA [] s1 H := ⟨rfl, ⟨kin, ns1 hns, ⟨mb, ns1 hb, hbb⟩, ⟨mc, ns1 c1, c2⟩⟩, fun b o e => of_hidT e, Nat.le_of_eq (hidT_size _ _), trivial, fun b hb => absurd hb (by intro z; cases z), hok, .of_eq hg⟩
    refine codeAny_mono ((F _ kin (ns1 hns)).go callerA [] s1 H ⟨[.ref a], []⟩ [.ref a] [.ref a] _ _ rfl hr e0 (hbind s1 (.ref a)) (.cons rfl .nil) (hsp H hS)) fun r s' h => ?_
    cases r with
    | error e =>
      obtain ⟨_, _, _, _, _, _, _, _, _, _, _, _, z⟩ := (show L2.CX _ _ _ _ _ _ _ _ from h)
      exact False.elim z
    | ok fl =>
      cases fl with
      | next => exact False.elim h
      | brk => exact False.elim h
      | cont => exact False.elim h
      | ret u =>
        obtain ⟨v, H', os, bare, un, hok', r', q⟩ := h
        cases (show v = .bl true from q)
        cases (show u = Value.bool true from r')
        refine ⟨rfl, OldK.of_keep fun b o e => ?_, os, bare⟩
        cases q : H b with
        | none => exact un.keep b o e q (by intro z; exact absurd (show b ∈ ([] : List Addr) from z) (by simp)) (by simp)
        | some u =>
          obtain ⟨_, _, ob, ys, z⟩ := hA b (by rw [q]; simp)
          have t1 := (hok b _ z).1
          rw [e] at t1
          cases t1
          exact (hok' b _ (un.frzs b _ _ z)).1
  cases hk : K.lookup a with
  | some o =>
    have e := kx a o hk
    rw [ha] at e
    cases e
    exact key (fun _ => none) (fun b z => absurd rfl z) (.inr ⟨_, vs.toArray, _, hk, rfl, rfl, rfl, by rw [List.size_toArray, hi.length]; exact hl, by simpa using rv⟩) fun b u z => by cases (show (none : Option HO) = some u from z)
  | none =>
    refine key (fun b => if b = a then some (.frz { cls := .type "list", data := .seq vs.toArray } (.lst (ns.map V.int))) else none) (fun b z => ?_) (.inl (.inr ⟨{ cls := .type "list", data := .seq vs.toArray }, if_pos rfl⟩)) fun b u z => ?_
    · by_cases hb : b = a
      · exact ⟨hb, hk, _, _, if_pos hb⟩
      · exact absurd (if_neg hb) z
    · by_cases hb : b = a
      · cases (if_pos hb).symm.trans z
        subst hb
        exact ⟨ha, by rw [List.length_map]; exact hl, vs, _, rv, ha⟩
      · cases (if_neg hb).symm.trans z
end
theorem walk_go {l : PySem.W.OpenLaw} {n k : Nat} {q : Program} {loose : List Str} {XP : (Str → Option Value) → Heap → Prop} {YP : World → Heap → Prop} {d : DefRec} {x : Str}
    (hn : l.most = some n) (hn2 : n ≤ sizeLine) (hdf : d.params.defaults = []) (hr : Room k callerA)
    (F : ∀ (w : World) (mg : Str → Option Value) (fa : Addr) (h : Heap), YP w h → h.Ns mainGlobals mg → mg d.name = some (.ref fa) →
      ∃ (K : PySem.W.Frag) (fd : FuncData) (sp : Sp), K.In h ∧ (∀ (s : Shared) (u : Value), BindsTo s fd ⟨[u], []⟩ [(x, u)]) ∧
        (∀ (H : Hp) (a : Addr) (ns : List Int), ns.length ≤ n → SqL K H a (ns.map V.int) → sp [.ref a] H (fun v _ => v = .bl true) fun _ _ _ => False) ∧
        ∀ base : Heap, K.In base → base.Ns mainGlobals mg → FnG l.prog w K mg base k fa fd [x] sp) : PySem.W.WalkO q loose XP YP l.row.toRowW d [] (fun f vs => PySem.call f vs) := by
  refine Att.attach_call hn hdf fun w s0 s1 mg mb fa o pm cd doc a vs ns G Y ho hd hcd hmg hobj hints hlen hg => ?_
  obtain ⟨K, fd, sp, kx, hb, hsp, hF⟩ := F w mg fa _ Y G.T.g hmg
  exact law_go kx G.T.g G.T.b G.T.builtins G.T.nolimit hg hobj hints (Nat.le_trans hlen hn2) hr hF hb fun H hS => hsp H a ns hlen hS
end Ev

/-! lambdas without parameters, handed to a def that tells what they give or what they raise -/
namespace Ev
open PySem PySem.Spec PyProof.Rows L2 LamX
section
variable {K : PySem.W.Frag} {w0 w : Wd} {H0 H H1 : Hp} {e : Lv} {s : Sto} {σ : L2.St}
/-- a lambda is made: tables grow, code objects come -/
theorem Rl.lam (R : Rl K w0 H0 w e s σ H) (x : ExtN H H1) (nn : ∀ b, H1 b = none → H b = none) (t : Tabs w.T H → Tabs w.T H1) : Rl K w0 H0 w e s σ H1 ∧ Le w H w H1 := by
  have l : Le w H w H1 := ⟨Sub.refl _, fun _ _ h => .inl h, ⟨[], by simp, by simp⟩, ⟨[], by simp, by simp⟩, fun a o h ht _ _ => x a o h ht, fun a h z => h (nn a z), rfl, t⟩
  refine ⟨⟨R.le.trans l, fun a o q => x a o (R.fh a o q) (fun ps z => R.ft a ps (by rw [q, z])), R.ft, R.nd, fun a ha => l.trk a (R.tr a ha), ?_, ?_, R.mono_env l⟩, l⟩
  · exact R.G.imp fun o a r => r.keep l (fun u q ht => x a u q ht) (fun q => q)
  · exact R.L.imp fun o a r => r.keep l (fun u q ht => x a u q ht) (fun q => q)
end
section
variable {X : Cx} {pins : List (Addr × Obj)} {σ : L2.St} {H HZ : Hp} {s s1 : Shared}
/-- the lambda is made: its code object is new, or found in the table; nothing that was tracked is gone -/
theorem lam_makeM {T : List (Addr × Str)} {c P : Addr} {params : Arguments} {body : Expr} {scope : Scope} {pos : Pos} {E : Value → Shared → Prop} {Q : Value → Shared → Prop} (I : Inv X pins σ H s) (TB : TabB X.base X.mg c P) (hcode : X.env.code = .ref c)
    (hm : (P, X.env.qual ++ "<lambda>") ∈ T) (hu : ∀ p ∈ T, p.1 = P → p.2 = X.env.qual ++ "<lambda>") (hT : Tabs T H) (hdef : defaultsOf params X.env = ([], [])) (hfree : ∀ y ∈ scope.names, y.2 = .free → ∃ c, X.env.cells.lookup y.1 = some c)
    (h : ∀ (f c' : Addr) (pm ctv : Value) (H1 : Hp) (s' : Shared), Inv X pins σ H1 s' → ExtN H H1 → (∀ b, H1 b = none → H b = none) → Tabs T H1 →
      s'.heap.get? f = some (PySem.W.kla_obj "<lambda>" (X.env.qual ++ "<lambda>") params body scope (cloFrom X.env.cells scope.names []) pm c' ctv) → H1 f = none → f ∉ frs X.stack → H1 c' = some (CodeO c' (X.env.qual ++ "<lambda>")) → Q (.ref f) s') :
    wpAny (model X.prog X.w) X.A (eval (.Lambda params body scope pos) X.env) Q E s := by
  obtain ⟨ps, hP, ht, ha⟩ := hT _ hm
  refine PySem.W.kla_eval hdef ?_
  have bP : s.heap.BuiltinsAt X.mg P := TB.bm.keeps I.bk
  have hP' : s.heap.get? P = some { cls := .none, data := .fields ps } := I.hok P _ hP
  have nofr : ∀ f, s.heap.objs.size ≤ f → f ∉ frs X.stack := fun f hf z => by
    rcases List.mem_cons.mp (I.stkSub _ z) with e | e
    · have h1 := I.lt
      rw [← e] at h1
      exact Nat.lt_irrefl _ (Nat.lt_of_lt_of_le h1 hf)
    · exact I.nofs hf e
  cases hc : codeAmong pos ps.toList with
  | none =>
    refine PySem.W.kla_makeFunction (mg := X.mg) (c := c) (P := P) (ps := ps) (closure_ok hfree) I.ok.glob (I.mod.glob.keeps I.bk) hcode (TB.code.keeps I.bk) hP' ht hc TB.gP bP fun c' ctv h' tk hx hge hlt hrec htb => ?_
    obtain ⟨c2, oc, vs, t, e2, hoc, hd, hv⟩ := hrec
    cases e2
    have hsz : s.heap.objs.size ≤ h'.objs.size := Nat.le_trans hge (Nat.le_of_lt hlt)
    have nC : H c' = none := I.hok.fresh hge
    have I1 := inv_table (t' := tk) (more := #[rawInt pos.line, rawInt pos.col, .ref c']) (h' := h'.push (PySem.W.kla_obj "<lambda>" (X.env.qual ++ "<lambda>") params body scope (cloFrom X.env.cells scope.names []) ((X.mg "__name__").getD .none) c' ctv)) I hP
      (fun b o hb e => Heap.get?_push_of_some _ (hx b o hb e)) (Heap.get?_push_of_some _ htb) hge ⟨oc, vs, t, Heap.get?_push_of_some _ hoc, hd, hv⟩
    have hE : ExtN H (upd (upd H P (.tbl (ps ++ #[rawInt pos.line, rawInt pos.col, .ref c']))) c' (CodeO c' (X.env.qual ++ "<lambda>"))) := fun b o e n => by
      rw [upd_ne (ne_of_none e nC), upd_ne (fun z => n ps (Option.some.inj (e.symm.trans (by rw [z]; exact hP))))]
      exact e
    have eL : (ps ++ #[rawInt pos.line, rawInt pos.col, .ref c']).toList = ps.toList ++ [rawInt pos.line, rawInt pos.col, .ref c'] := by simp
    refine h h'.objs.size c' ((X.mg "__name__").getD .none) ctv _ _ I1 hE (fun b hb => ?_) (fun p hp => ?_) (Heap.get?_push_size _ rfl) ?_ (nofr _ hsz) upd_same
    · by_cases e1 : b = c'
      · rw [e1, upd_same] at hb; cases hb
      · rw [upd_ne e1] at hb
        by_cases e2 : b = P
        · rw [e2, upd_same] at hb; cases hb
        · rw [upd_ne e2] at hb; exact hb
    · by_cases hb : p.1 = P
      · rw [hu p hp hb, hb]
        refine ⟨_, by rw [upd_ne (ne_of_none hP nC), upd_same], by rw [eL]; exact PySem.TriplesOk_snoc _ _ _ _ ht, fun p' cv hcv => ?_⟩
        rw [eL] at hcv
        rcases among_app _ ht hcv with z | z
        · obtain ⟨c0, e1, e2⟩ := ha p' cv z
          exact ⟨c0, e1, hE _ _ e2 codeO_ne⟩
        · exact ⟨c', z, upd_same⟩
      · obtain ⟨ps', a1, a2, a3⟩ := hT p hp
        refine ⟨ps', by rw [upd_ne (ne_of_none a1 nC), upd_ne hb]; exact a1, a2, fun p' cv hcv => ?_⟩
        obtain ⟨c0, e1, e2⟩ := a3 p' cv hcv
        exact ⟨c0, e1, hE _ _ e2 codeO_ne⟩
    · have n1 : h'.objs.size ≠ c' := Nat.ne_of_gt hlt
      have n2 : h'.objs.size ≠ P := Nat.ne_of_gt (Nat.lt_of_lt_of_le (Heap.lt_size hP') hsz)
      rw [upd_ne n1, upd_ne n2]
      exact I.hok.fresh hsz
  | some cv =>
    obtain ⟨c', e, hco⟩ := ha pos cv hc
    subst e
    refine PySem.W.kla_makeFunctionHit (mg := X.mg) (c := c) (P := P) (ps := ps) (closure_ok hfree) I.ok.glob (I.mod.glob.keeps I.bk) hcode (TB.code.keeps I.bk) hP' ht hc bP fun ctv h' tk hx hsz => ?_
    have I1 : Inv X pins σ H { s with heap := h'.push (PySem.W.kla_obj "<lambda>" (X.env.qual ++ "<lambda>") params body scope (cloFrom X.env.cells scope.names []) ((X.mg "__name__").getD .none) c' ctv), toks := tk } := I.kept fun b o e => Heap.get?_push_of_some _ (hx b o e)
    exact h h'.objs.size c' ((X.mg "__name__").getD .none) ctv H _ I1 (ExtN.refl H) (fun _ z => z) hT (Heap.get?_push_size _ rfl) (I.hok.fresh hsz) (nofr _ hsz) hco
/-- x(), in the def that got the lambda, where no guard stands -/
theorem pe_actG {CXg : CXT} {Eg : XK} {Ng : List Str} {qg : Str} {sg : Scope} {g f c' : Addr} {cdg pm ctv : Value} {params : Arguments} {body : Expr} {scope : Scope} {k i : Nat} {a : Str} {pn : List (Addr × Obj)} {xe : Value → Shared → Prop} {W : WX} {E : XK} {tb : TE} {p1 p2 : Pos}
    (I : Inv X pins σ H s) (L : LamS X.env.scope scope) (gd : X.A.guards = some []) (hf : s.heap.get? f = some (PySem.W.kla_obj "<lambda>" (X.env.qual ++ "<lambda>") params body scope (cloFrom X.env.cells scope.names []) pm c' ctv)) (hfn : H f = none) (hfr : f ∉ frs X.stack)
    (hbind : bindArgs (PySem.W.kla_fn "<lambda>" (X.env.qual ++ "<lambda>") params body scope (cloFrom X.env.cells scope.names []) pm (.ref c') ctv) ⟨[], []⟩ = pure [])
    (tk : Takes ((cxOf CXg X.prog X.w X.K X.mg X.base Ng qg sg g cdg X.A X.stack s H Eg).tr pn xe) W) (hW : ∀ cls d σ' H', E cls d H' → W cls d σ' H') (hr : Room (k + 1) (X.A.deeper (envOfC qg sg s.heap.objs.size g cdg)))
    (hbody : ∀ (A : Around) (outer : List Env) (s : Shared) (H : Hp), A.guards = some [] → Room k (A.deeper (lamEnv X scope s.heap.objs.size f c')) → PE (lamCx X A outer s H E scope f c') body tb)
    (hN : Ng[i]? = some a) (hv : Vis sg a) (hd : (a == ("__debug__" : Str)) = false) (hcd : (a == ("__classdict__" : Str)) = false) :
    PE ((cxOf CXg X.prog X.w X.K X.mg X.base Ng qg sg g cdg X.A X.stack s H Eg).tr pn xe) (.Call (.Name a p1) [] [] p2)
      (fun σZ HZ Q => σZ[i]? = some (some (.ref f)) ∧ HZ c' = some (CodeO c' (X.env.qual ++ "<lambda>")) ∧ tb σ HZ Q) := by
  refine ⟨fun pinsZ sZ σZ HZ Q IZ h => ?_⟩
  obtain ⟨hs, hc, ht⟩ := h
  refine wpAny_Call_Name_kw (thn ((pe_var (pos := p1) (i := i) hN hv hd hcd).run pinsZ sZ σZ HZ (fun v H1 => v = .ref f ∧ H1 = HZ) IZ ⟨.ref f, hs, rfl, rfl⟩) fun u s1 ⟨v, H1, I1, r1, q1⟩ => ?_)
  obtain ⟨ev, eH⟩ := q1
  subst ev
  rw [eH] at I1
  obtain rfl : u = Value.ref f := r1
  have of1 : s1.heap.get? f = some (PySem.W.kla_obj "<lambda>" (X.env.qual ++ "<lambda>") params body scope (cloFrom X.env.cells scope.names []) pm c' ctv) := I1.base.keep f _ hf hfn hfr (fun z => nomatch (show f ∈ ([] : List Addr) from z))
  refine PySem.W.callWith_F0 ⟨_, _, _, _, of1⟩ ?_
  have un : Un (frs X.stack) [] H HZ s.heap s1.heap := I1.base
  obtain ⟨⟨oc, vs, t, hoc, hdc, hvc⟩, _, _⟩ := I1.hok c' _ hc
  have rc : codeAny (model X.prog X.w) (X.A.deeper (envOfC qg sg s.heap.objs.size g cdg)) (.call (.ref f) ⟨[], []⟩) (CR (L2.CX X.prog X.w) (envOfC qg sg s.heap.objs.size g cdg :: X.stack) X.prog X.w HZ s1 Q E) s1 := by
    refine PySem.W.kla_callFunE hr.depth of1 rfl L.co L.gen rfl ⟨c', oc, vs, t, rfl, hoc, hdc, hvc⟩ ?_
    rw [hbind]
    refine wpAny_pure (wpAny_newFunctionEnv (fun y hy => (L.own y hy).2) (fun y hy => absurd hy (by simp)) (fun h₁ hns hsb => ⟨I1.nolimit.fresh _ hsb, ?_⟩) L.kind)
    show codeAny _ _ (.expr body (lamEnv X scope s1.heap.objs.size f c')) _ _
    have kp : ∀ b o, s1.heap.get? b = some o → h₁.get? b = some o := fun b o e => hsb.extBut b o (Nat.ne_of_lt (Heap.lt_size e)) (Heap.get?_push_of_some _ e)
    have J : Inv (lamCx X (X.A.deeper (envOfC qg sg s.heap.objs.size g cdg)) (envOfC qg sg s.heap.objs.size g cdg :: X.stack) s1 HZ E scope f c') [] σ HZ { s1 with heap := h₁, toks := s1.toks + ([] : List (Str × Value)).length } :=
      lam_start2 I L I1.env0 hr.hd un hns kp
    refine PySem.W.kla_codeExpr (wpAny_mono ((hbody (X.A.deeper (envOfC qg sg s.heap.objs.size g cdg)) _ s1 HZ gd (hr.deeper _)).run [] _ _ HZ Q J ht) (fun v s' hq => ?_) fun e s' hq => hq)
    obtain ⟨w', H', J', rv, q⟩ := hq
    exact ⟨w', H', J'.os, J'.bare, J'.base, J'.hok, rv, q⟩
  have hx : Passes (L2.CX X.prog X.w) ((cxOf CXg X.prog X.w X.K X.mg X.base Ng qg sg g cdg X.A X.stack s H Eg).tr pn xe) E := passes_call tk hW
  refine wpAny_call (codeAny_mono rc fun r s' hq => ?_)
  cases r with
  | error e => exact hx pinsZ σZ HZ s1 e s' I1 hq
  | ok fl =>
    cases fl with
    | ret u => exact I1.after hq
    | next => exact False.elim hq
    | brk => exact False.elim hq
    | cont => exact False.elim hq
end

/-! ### what a def says of a caught exception -/
/-- rf(e), e the exception that is handled, of the class cls: the text wd -/
def Ext3 (T : List (Addr × Str)) (H H' : Hp) : Prop := ExtN H H' ∧ (∀ b, H' b = none → H b = none) ∧ (Tabs T H → Tabs T H')
def FnR (P : Program) (w : World) (K : PySem.W.Frag) (mg : Str → Option Value) (base : Heap) (T : List (Addr × Str)) (k : Nat) (f : Addr) (fd : FuncData) (x : Str) (cls : Value) (wd : Str) : Prop :=
  ∀ (A : Around) (outer : List Env) (s : Shared) (H : Hp) (args : Args) (Q : VK) (p : Addr × Obj), A.guards = some [] → L2H.RoomH k A → A.handled = some (.ref p.1) → Zc cls none p.2 → (∃ vs, p.2.data = .fields vs) → L2H.PinOk outer H s p → Env0 P w K mg base A outer s H → BindsTo s fd args [(x, .ref p.1)] →
    (∀ H', Ext3 T H H' → Q (.str wd) H') → codeAny (model P w) A (.call (.ref f) args) (CR C8.CX0 outer P w H s Q C8.E0) s
/-- .. and it may be called by its name -/
structure CalR (P : Program) (w : World) (K : PySem.W.Frag) (mg : Str → Option Value) (base : Heap) (k : Nat) (rf : Str) (g : Gx) (ws : List Str) : Prop where
  ex : ∃ (f : Addr) (fd : FuncData) (x : Str), mg rf = some (.ref f) ∧ PySem.W.keepIn K (.ref f) = true ∧ Binds K fd [x] [] ∧ ∀ c wd, ws[c]? = some wd → FnR P w K mg base g.T k f fd x (g.cl c) wd
section
variable {X : Cx} {g : Gx} {ws : List Str}
/-- its call in the suite -/
theorem pe_refusal {a : Addr} {oe : Obj} {cls : Value} {d : Option Addr} {pn : List (Addr × Obj)} {k : Nat} {rf v : Str} {p1 p2 p3 : Pos} (hz : Zc cls d oe) (hf : ∃ vs, oe.data = .fields vs) (R : CalR X.prog X.w X.K X.mg X.base k rf g ws) (gd : X.A.guards = some []) (hr : L2H.RoomH k X.A) (hg : Gl X rf)
    (hrd : (rf == ("__debug__" : Str)) = false) (hN : X.N[1]? = some v) (hv : Vis X.env.scope v) (hd : (v == ("__debug__" : Str)) = false) (hcd : (v == ("__classdict__" : Str)) = false) :
    PE (X.suite a ((a, oe) :: pn)) (.Call (.Name rf p1) [.Name v p2] [] p3) (fun σ H Q => (1 < σ.length → σ[1]? = some (some (.ref a))) ∧ d = none ∧ ∃ c wd, cls = g.cl c ∧ ws[c]? = some wd ∧ ∀ H', Ext3 g.T H H' → Q (.str wd) H') := by
  obtain ⟨f, fd, x, hm, kp, hb, F⟩ := R.ex
  refine ⟨fun pins s σ H Q I h => ?_⟩
  obtain ⟨h1, rfl, c, wd, rfl, hw, hQ⟩ := h
  have hlt : 1 < σ.length := by
    rw [I.len]
    exact (List.getElem?_eq_some_iff.mp (show (X.suite a ((a, oe) :: pn)).N[1]? = some v from hN)).1
  have h1 := h1 hlt
  refine wpAny_Call_Name_kw (ld_glob (X := X.suite a ((a, oe) :: pn)) I hg hm ?_ hrd)
  have ha : PA (X.suite a ((a, oe) :: pn)) [.Name v p2] (tCons (fun σ H Q => ∃ x, σ[1]? = some (some x) ∧ Q x H) tNil) := pa_cons (pe_var (i := 1) hN hv hd hcd) pa_nil
  refine PySem.W.callWith_K (h₀ := X.base) I.ok.mod.kin kp (thn (ha.run p3 pins s σ H (fun vs H1 => vs = [V.ref a] ∧ H1 = H) I ⟨.ref a, h1, rfl, rfl⟩) fun us s1 ⟨vs, H1, I1, r, e1, e2⟩ => ⟨I1.kIn, ?_⟩) rfl rfl
  subst e1 e2
  obtain ⟨u, eu, ru⟩ := vals1 r
  subst eu
  cases (show u = Value.ref a from ru)
  have P1 := I1.pin (a, oe) (List.mem_append_left _ List.mem_cons_self)
  have hpin : L2H.PinOk X.stack H1 s1 (a, oe) := ⟨P1.1, P1.2.1, fun hm => (List.mem_cons.mp (I1.stkSub a hm)).elim P1.2.2.1 P1.2.2.2.1, P1.2.2.2.2⟩
  have b := hb s1 [.ref a] I1.kIn rfl
  refine wpAny_call (codeAny_mono (F c wd hw (X.A.mark (some (.ref a))) X.stack s1 H1 ⟨[.ref a], []⟩ Q (a, oe) gd ⟨hr.dp, hr.un⟩ rfl hz hf hpin I1.env0 b hQ) fun r s' hq => ?_)
  cases r with
  | error e => exact False.elim hq
  | ok fl =>
    cases fl with
    | ret u => exact I1.after hq
    | next => exact False.elim hq
    | brk => exact False.elim hq
    | cont => exact False.elim hq
end
/-! ### said(lambda: f(..)) -/
/-- the def's text -/
def saidB (a e v rf : Str) : List Stmt → Bool
  | [.Try [.Return (some (.Tuple [.Constant (.str t) _ _, .Call (.Name a1 _) [] [] _] _ _)) _] [.ExceptHandler (some (.Name e1 _)) (some v1) [.Return (some (.Tuple [.Call (.Name rf1 _) [.Name v2 _] [] _] _ _)) _] _] [] [] _] =>
    decide (t = "told") && decide (a1 = a) && decide (e1 = e) && decide (v1 = v) && decide (rf1 = rf) && decide (v2 = v)
  | _ => false
/-- what is known of the def and of who calls it -/
structure SaidF (X : Cx) (g : Gx) (k : Nat) (y : Str) (ws : List Str) : Prop where
  df : ∃ (f C : Addr) (fd : FuncData) (pg : Arguments) (bg : List Stmt) (sg : Scope) (a e v rf : Str), FunD X.K y y pg bg sg [] [] f fd ∧ X.mg y = some (.ref f) ∧ Binds X.K fd [a] [] ∧ FnScope [a, v] [a] sg ∧ saidB a e v rf bg = true ∧
    sg.names.lookup v = some .local ∧ sg.names.lookup e = some .globalImplicit ∧ (e == ("__debug__" : Str)) = false ∧ X.mg e = some (.ref C) ∧ sg.names.lookup rf = some .globalImplicit ∧ (rf == ("__debug__" : Str)) = false ∧
    (a == ("__debug__" : Str)) = false ∧ (a == ("__classdict__" : Str)) = false ∧ (v == ("__debug__" : Str)) = false ∧ (v == ("__classdict__" : Str)) = false ∧
    CalR X.prog X.w X.K X.mg X.base k rf g ws ∧ ∀ c wd, ws[c]? = some wd → PySem.W.exmOne X.K (g.cl c) (.ref C) = some true
  tab : ∃ c P, TabB X.base X.mg c P ∧ X.env.code = .ref c ∧ (P, X.env.qual ++ "<lambda>") ∈ g.T ∧ ∀ p ∈ g.T, p.1 = P → p.2 = X.env.qual ++ "<lambda>"
theorem saidB_ok {a e v rf : Str} {bg : List Stmt} (h : saidB a e v rf bg = true) : ∃ (j k1 k2 : Nat) (q1 q2 q3 q4 q5 q6 q7 q8 q9 q10 q11 q12 q13 : Pos), bg = [.Try [.Return (some (.Tuple [.Constant (.str "told") j q1, .Call (.Name a q2) [] [] q3] k1 q4)) q5]
    [.ExceptHandler (some (.Name e q6)) (some v) [.Return (some (.Tuple [.Call (.Name rf q7) [.Name v q8] [] q9] k2 q10)) q11] q12] [] [] q13] := by
  unfold saidB at h
  split at h
  · simp only [Bool.and_eq_true, decide_eq_true_eq] at h
    obtain ⟨⟨⟨⟨⟨rfl, rfl⟩, rfl⟩, rfl⟩, rfl⟩, h6⟩ := h
    subst h6
    exact ⟨_, _, _, _, _, _, _, _, _, _, _, _, _, _, _, _, rfl⟩
  · cases h
section
variable {X : Cx} {g : Gx} {w0 : Wd} {H0 : Hp} {T : Tx} {k : Nat} {y : Str} {ws : List Str}
theorem e_said {j f : Nat} {n : Nat} {z : Str} {mr : Lv → M (List Val)} {params : Arguments} {u : Expr} {us : List Expr} {scope : Scope} {p pz pc lpos pos : Pos} (hw : w0.nu = []) (hT : W0 g w0 H0) (F : SaidF X g k y ws) (gd : X.A.guards = some []) (hg : Gl X y) (hyd : (y == ("__debug__" : Str)) = false)
    (hl : ∀ (lv : Lv) (s : Sto) vs s', mr lv s = some (vs, s') → vs.length = n) (hr : Room (j + 2) X.A) (hk : k ≤ j + 1)
    (hz : CalG X.prog X.w X.K X.mg X.base j z (spE X.K g (T.xr f) n)) (hzg : scope.names.lookup z = some .globalImplicit) (hzd : (z == ("__debug__" : Str)) = false) (L : LamS X.env.scope scope) (hdef : defaultsOf params X.env = ([], []))
    (hbind : ∀ (q : Str) (cl : List (Str × Addr)) (pm cv ctv : Value), bindArgs (PySem.W.kla_fn "<lambda>" q params (.Call (.Name z pz) (u :: us) [] pc) scope cl pm cv ctv) ⟨[], []⟩ = pure [])
    (ha : ∀ (A : Around) (outer : List Env) (s : Shared) (H : Hp) (E : XK) (f c' : Addr), A.guards = some [] → Room j (A.deeper (lamEnv X scope s.heap.objs.size f c')) → PA (lamCx X A outer s H E scope f c') (u :: us) (tA X.K w0 H0 mr))
    (he : ∀ env, starEach (u :: us) env = (false, eval u env) :: starEach us env) (hp : ∀ env, (backTo pc (starEach us env)).any (·.1) = false) :
    PE X (.Call (.Name y p) [.Lambda params (.Call (.Name z pz) (u :: us) [] pc) scope lpos] [] pos) (tE X.K w0 H0 fun e => bd (mr e) fun vs => bd (keepVs vs) fun vs => saidV T ws f vs) := by
  obtain ⟨gA, C, fd, pg, bg, sg, a, e, v, rf, FD, hm, hb, Sg, hbody, hv, he1, hed, hme, hrf, hrfd, had, hac, hvd, hvc, R, hex⟩ := F.df
  obtain ⟨c, P, TB, hcode, hmT, hu⟩ := F.tab
  obtain ⟨oc, od, dV, kV, doc, pm0, an, cdv, ct, osl, rfl, lk, hcg, _, _⟩ := FD.ex
  refine ⟨fun pins s σ H Q I h => ?_⟩
  obtain ⟨w, lv, st, val, st', R0, ev, kk⟩ := h
  obtain ⟨vs, s2, e2, ev⟩ := bd_inv ev
  obtain ⟨us', s3, e3, ev⟩ := bd_inv ev
  refine wpAny_Call_Name_kw (ld_glob I hg hm ?_ hyd)
  refine PySem.W.callWith_K (h₀ := X.base) I.ok.mod.kin FD.kp ?_ (by rfl) (by rfl)
  show wpAny _ _ (spliced ((false, eval (.Lambda params (.Call (.Name z pz) (u :: us) [] pc) scope lpos) X.env) :: backTo pos (starEach [] X.env))) _ _ s
  refine Calls.spliced_cons (lam_makeM I TB hcode hmT hu (hT.tabs R0) hdef (L.has I.ok) fun f' c' pm' ctv H1 s' I1 eN nn T1 hf hfn hfr hco => ?_)
  refine Calls.spliced_nil ⟨I1.kIn, ?_⟩
  have rel := R0.lam eN nn (by rw [hT.teq R0]; exact fun _ => T1)
  obtain ⟨j0, k1, k2, q1, q2, q3, q4, q5, q6, q7, q8, q9, q10, q11, q12, q13, rfl⟩ := saidB_ok hbody
  have hNd : ([a, v] : List Str).Nodup := Sg.nd
  have va : Vis sg a := (Sg.par a List.mem_cons_self).elim .inl fun z => .inr (.inl z)
  have rc : codeAny (model X.prog X.w) X.A (.call (.ref gA) ⟨[.ref f'], []⟩) (CR C8.CX0 X.stack X.prog X.w H1 s' Q C8.E0) s' := by
    refine run_ofS (CX := C8.CX0) (N := [a, v]) (ps := [a]) (us := [.ref f']) (vs := [.ref f']) (k := j + 1) lk hcg Sg hr I1.env0 (hb s' [.ref f'] I1.kIn rfl) (.cons rfl .nil) rfl fun hr' => ?_
    refine ⟨_, pss_one (ps_try_as (X := cxOf C8.CX0 X.prog X.w X.K X.mg X.base [a, v] y sg gA cdv X.A X.stack s' H1 C8.E0) (i := 1) (c := .ref C)
      (tb := fun W D σ' H' => ∃ Ech : XK, (∀ cls d σ2 H2, Ech cls d H2 → W cls d σ2 H2) ∧ σ'[0]? = some (some (.ref f')) ∧ H' c' = some (CodeO c' (X.env.qual ++ "<lambda>")) ∧
        tCallS (spE X.K g (T.xr f) n) (WE fun cls d _ H => Ech cls d H) (tA X.K w0 H0 mr) σ H' fun x H2 => ([V.str "told", x] : List V).length ≤ sizeLine ∧ ∀ p, H2 p = none → D.rt (.ref p) (upd H2 p (.tup [.str "told", x])))
      (ts := fun a' cls d => tRet (tTup (tCons (fun σ H Q => (1 < σ.length → σ[1]? = some (some (.ref a'))) ∧ d = none ∧ ∃ c wd, cls = g.cl c ∧ ws[c]? = some wd ∧ ∀ H', Ext3 g.T H H' → Q (.str wd) H') tNil)))
      (Wout := fun _ _ _ _ => False) rfl rfl hNd rfl hv ⟨he1, hed, .inl hme⟩ takes0 (fun W pn xe tk _ => ?_) (fun a' oe cls d pn hz' hf' => ?_)), ?_⟩
    · refine ⟨fun pins2 s2 σ2 H2 D I2 h2 => ?_⟩
      obtain ⟨Ech, hW, g1, g2, g3⟩ := h2
      have act := pe_actG (X := X) (CXg := C8.CX0) (Eg := C8.E0) (Ng := [a, v]) (qg := y) (sg := sg) (i := 0) (k := j) (p1 := q2) (p2 := q3) (W := W) (E := Ech) (pn := pn) (xe := xe) (pm := pm') (ctv := ctv) I1 L gd hf hfn hfr (hbind _ _ _ _ _) tk hW hr'
        (fun A outer s3 H3 gd3 hr3 => e_calX (X := lamCx X A outer s3 H3 Ech scope f' c') (W' := fun cls d _ H => Ech cls d H) hz (L2.takes_of rfl rfl rfl rfl) gd3 hr3 (Nat.le_refl _) hzg (ha A outer s3 H3 Ech f' c' gd3 hr3) hzd (he _) (hp _)) rfl va had hac
      refine (pss_one (ps_ret (pos := q5) (pe_tup (x1 := k1) (pos := q4) (pa_cons (pe_str (pos := q1)) (pa_cons act pa_nil))))).run pins2 s2 σ2 H2 D I2 ?_
      exact ⟨g1, g2, g3⟩
    · refine pss_one (ps_ret (pe_tup (pa_cons (pe_refusal (X := cxOf C8.CX0 X.prog X.w X.K X.mg X.base [a, v] y sg gA cdv X.A X.stack s' H1 C8.E0) hz' hf' R gd (L2H.roomH_of (hr'.mono hk)) hrf hrfd rfl (.inl hv) hvd hvc) pa_nil)))
    · have len1 : ∀ x : V, ([V.str "told", x] : List V).length ≤ sizeLine := fun x => by rw [size_line]; exact (by decide : 2 ≤ 16777216)
      have len2 : ∀ wd : Str, ([V.str wd] : List V).length ≤ sizeLine := fun wd => by rw [size_line]; exact (by decide : 1 ≤ 16777216)
      refine ⟨fun cls d H2 => d = none ∧ ∃ c wd, cls = g.cl c ∧ ws[c]? = some wd ∧ ∀ H3, Ext3 g.T H2 H3 → ∀ p, H3 p = none → Q (.ref p) (upd H3 p (.tup [.str wd])), ?_, rfl, hco, ?_⟩
      · rintro cls d σ2 H2 ⟨rfl, c, wd, rfl, hwd, hq⟩
        exact ⟨true, hex c wd hwd, fun _ a' na => ⟨fun hlt => by rw [List.getElem?_set_self (by simpa using hlt)], rfl, c, wd, rfl, hwd, fun H3 ext => ⟨len2 wd, fun p hp => hq H3 ext p hp⟩⟩, fun z => by cases z⟩
      · refine ⟨w, lv, st, vs, s2, rel.1, e2, fun w1 xs H2 R1 l1 r1 => ?_⟩
        obtain ⟨w2, R2, l2, r2, hn2⟩ := keepVs_ok hw R1 r1 e3
        have ev : (if noG s3.G then (T.xr f us' s3.G).bind fun p => (resV ws p.1).map fun x => (Val.d x, ({ s3 with G := p.2 } : Sto)) else none) = some (val, st') := ev
        split at ev
        · rename_i hgg
          obtain ⟨⟨r, G'⟩, h3, h4⟩ := Option.bind_eq_some_iff.mp ev
          obtain ⟨x, h5, h6⟩ := Option.map_eq_some_iff.mp h4
          cases h6
          refine ⟨by rw [← r1.len]; exact hl _ _ _ _ e2, { w2 with nu := [] }, us', s3.G, r, G', rfl, (show w2.T = g.T from hT.teq R2), hT.tabs R2, R2.enter hgg, noV_ok (noV_by hn2) r2, h3, fun w' H' hn R' l' => ?_⟩
          obtain ⟨R3, l3⟩ := R2.leave hn R' l'
          have L3 := ((rel.2.trans l1).trans l2).trans l3
          cases r with
          | inl v0 =>
            intro z0 rz
            refine ⟨len1 z0, fun p hp => ?_⟩
            obtain ⟨R4, l4⟩ := R3.new (o := .tup [.str "told", z0]) hp
            cases v0 with
            | d x0 =>
              cases (show some (PyData.tuple [.str "told", x0]) = some x from h5)
              refine kk _ (.ref p) _ R4 (L3.trans l4) ?_
              have rz : Rp X.K w'.F x0 z0 := rz
              show Rp X.K (upd w'.F p (.tup [.str "told", z0])) (.tuple [.str "told", x0]) (.ref p)
              unfold Rp
              refine ⟨p, [.str "told", z0], rfl, .inl (.inl upd_same), rpA_iff.mpr (.cons (show Rp _ _ _ _ from rp_str) (.cons (Rp.mono l4.f _ rz) .nil))⟩
            | g _ => cases h5
            | l _ => cases h5
            | s _ => cases h5
            | e _ => cases h5
          | inr c =>
            obtain ⟨wd, hwd, ex⟩ := Option.map_eq_some_iff.mp (show (ws[c]?).map (fun w => PyData.tuple [.str w]) = some x from h5)
            subst ex
            refine ⟨rfl, c, wd, rfl, hwd, fun H3 ext p hp => ?_⟩
            obtain ⟨R4, l4⟩ := R3.lam (H1 := H3) ext.1 ext.2.1 (by rw [show ({ w' with nu := w2.nu } : Wd).T = g.T from hT.teq R3]; exact ext.2.2)
            obtain ⟨R5, l5⟩ := R4.new (o := .tup [.str wd]) hp
            refine kk _ (.ref p) _ R5 ((L3.trans l4).trans l5) ?_
            show Rp X.K (upd w'.F p (.tup [.str wd])) (.tuple [.str wd]) (.ref p)
            unfold Rp
            exact ⟨p, [.str wd], rfl, .inl (.inl upd_same), rpA_iff.mpr (.cons (show Rp _ _ _ _ from rp_str) .nil)⟩
        · cases ev
  refine wpAny_call (codeAny_mono rc fun r s2 hq => ?_)
  cases r with
  | error e => exact (show False from hq).elim
  | ok fl =>
    cases fl with
    | ret u => exact I1.after hq
    | next => exact False.elim hq
    | brk => exact False.elim hq
    | cont => exact False.elim hq
end
end Ev

/-! keys: expressions that only read -/
namespace Ev
open PySem PySem.Spec PyProof.Rows L2 LamX
/-- all of h stands in h' -/
def Kp (h h' : Heap) : Prop := ∀ b o, h.get? b = some o → h'.get? b = some o
theorem Kp.refl (h : Heap) : Kp h h := fun _ _ e => e
theorem Kp.trans {h h' h'' : Heap} (a : Kp h h') (b : Kp h' h'') : Kp h h'' := fun c o e => b c o (a c o e)
/-- e gives d and leaves all that there was -/
def KP (P : Program) (W : World) (A : Around) (env : Env) (h0 : Heap) (e : Expr) (d : PyData) : Prop :=
  ∀ (s : Shared) (E Q : Value → Shared → Prop), Kp h0 s.heap → (∀ (v : Value) (h' : Heap) (tk : Nat) (as : List Addr), Kp s.heap h' → Reads h' v d as → Q v { s with heap := h', toks := tk }) → wpAny (model P W) A (eval e env) Q E s
def KPs (P : Program) (W : World) (A : Around) (env : Env) (h0 : Heap) (es : List Expr) (ds : List PyData) : Prop :=
  ∀ (pos : Pos) (s : Shared) (E : Value → Shared → Prop) (Q : List Value → Shared → Prop), Kp h0 s.heap → (∀ (vs : List Value) (h' : Heap) (tk : Nat) (as : List Addr), Kp s.heap h' → ReadsAll h' vs ds as → Q vs { s with heap := h', toks := tk }) →
    wpAny (model P W) A (spliced (backTo pos (starEach es env))) Q E s
theorem readsAll_len {h : Heap} : ∀ {vs : List Value} {ds : List PyData} {as : List Addr}, ReadsAll h vs ds as → vs.length = ds.length
  | _, _, _, .nil => rfl
  | _, _, _, .cons _ r => by simp [readsAll_len r]
theorem readsAll_at {h : Heap} : ∀ {vs : List Value} {ds : List PyData} {as : List Addr}, ReadsAll h vs ds as → ∀ {j : Nat} {d : PyData}, ds[j]? = some d → ∃ v bs, vs[j]? = some v ∧ Reads h v d bs
  | _, _, _, .nil, j, d, e => by simp at e
  | _, _, _, .cons r q, 0, d, e => by
    simp at e
    subst e
    exact ⟨_, _, rfl, r⟩
  | _, _, _, .cons r q, j + 1, d, e => by
    simp at e
    obtain ⟨v, bs, e1, r1⟩ := readsAll_at q e
    exact ⟨v, bs, by simpa using e1, r1⟩
theorem readsAll_keeps {h h' : Heap} (k : Kp h h') : ∀ {vs : List Value} {ds : List PyData} {as : List Addr}, ReadsAll h vs ds as → ReadsAll h' vs ds as
  | _, _, _, .nil => .nil
  | _, _, _, .cons r q => .cons (PyProof.Rows.Reads.keeps k r) (readsAll_keeps k q)
section
variable {P : Program} {W : World} {A : Around} {env : Env} {h0 : Heap} {a b : Expr} {pos : Pos}
theorem kp_int {i : Int} {j : Nat} : KP P W A env h0 (.Constant (.int i) j pos) (.int i) := fun s E Q k h => wpAny_Constant_int (h _ s.heap _ [] (Kp.refl _) (.int i _))
theorem kp_local {x : Str} {m : Str → Option Value} {u : Value} {d : PyData} {as : List Addr} (hk : env.scope.kind = .function) (hx : env.kindOf x = some .local) (hn : h0.Ns env.locals m) (hm : m x = some u) (r : Reads h0 u d as) (hd : (x == ("__debug__" : Str)) = false) :
    KP P W A env h0 (.Name x pos) d := fun s E Q k h => wpAny_Name (wpAny_loadName_local hk hx (hn.keeps k) hm (h u s.heap s.toks as (Kp.refl _) (PyProof.Rows.Reads.keeps k r))) hd
theorem kp_free {x : Str} {c : Addr} {u : Value} {d : PyData} {as : List Addr} (hk : env.scope.kind = .function) (hx : env.kindOf x = some .free) (hc : env.cells.lookup x = some c) (hm : h0.IsCell c (some u)) (r : Reads h0 u d as) (hd : (x == ("__debug__" : Str)) = false) (hcd : (x == ("__classdict__" : Str)) = false) :
    KP P W A env h0 (.Name x pos) d := fun s E Q k h => wpAny_Name (wpAny_loadName_free hk hx hc (by
      obtain ⟨o, e1, e2⟩ := hm
      exact ⟨o, k _ _ e1, e2⟩) (h u s.heap s.toks as (Kp.refl _) (PyProof.Rows.Reads.keeps k r)) hcd) hd
theorem kp_bin {op : Operator} {i j r : Int} (rule : ∀ (t u : Tok) (s : Shared) (E Q : Value → Shared → Prop), Q (.int r s.toks) { s with toks := s.toks + 1 } → wpAny (model P W) A (binaryOp op (.int i t) (.int j u)) Q E s) (ha : KP P W A env h0 a (.int i)) (hb : KP P W A env h0 b (.int j)) :
    KP P W A env h0 (.BinOp a op b pos) (.int r) := fun s E Q k h => by
  refine wpAny_BinOp (ha s E _ k fun v h1 tk1 as1 k1 r1 => ?_)
  cases r1
  refine hb _ E _ (k.trans k1) fun u h2 tk2 as2 k2 r2 => ?_
  cases r2
  exact rule _ _ _ _ _ (h _ h2 (tk2 + 1) [] (k1.trans k2) (.int r _))
theorem kp_idx {ds : List PyData} {i : Int} {d : PyData} (hs : PlainIx b) (hl : ds.length ≤ 16777216) (he : atP ds i = some d) (ha : KP P W A env h0 a (.tuple ds)) (hb : KP P W A env h0 b (.int i)) : KP P W A env h0 (.Subscript a b pos) d := fun s E Q k h => by
  refine Subscript_ (ha s E _ k fun v h1 tk1 as1 k1 r1 => hb _ E _ (k.trans k1) fun u h2 tk2 as2 k2 r2 => ?_)
  cases r2
  have r1' := PyProof.Rows.Reads.keeps k2 r1
  obtain ⟨j, e1, e2, e3, e4, e5⟩ := atI_get (show atI ds i = some d from he)
  have hn := line63
  have fin : ∀ {w : Value} {bs : List Addr}, Reads h2 w d bs → Q w { s with heap := h2, toks := tk2 } := fun r => h _ h2 tk2 _ (k1.trans k2) r
  cases r1' with
  | tuple g1 g2 g3 g4 =>
    rename_i p o vs n
    obtain ⟨w, bs, ew, rw'⟩ := readsAll_at g4 e2
    have hlen := readsAll_len g4
    have hsz : vs.size = ds.length := by rw [← hlen, Array.length_toList]
    have pl : Heap.IsTuple h2 p vs := ⟨o, g1, g2, n, g3⟩
    exact subscriptTail_builtinR (x := w) (pl.typeIs (s := { s with heap := h2, toks := tk2 })) slot_tuple_getitem.lookup
      (getItem_tuple (j := j) (Q := fun r s' => r = w ∧ Q r s') pl (by omega) (by omega) (by rw [hsz]; exact e1) (by simpa using ew) ⟨rfl, fin rw'⟩) (hs _ _)
theorem kps_nil : KPs P W A env h0 [] [] := fun pos s E Q k h => Calls.spliced_nil (h [] s.heap s.toks [] (Kp.refl _) .nil)
theorem kps_cons {e : Expr} {es : List Expr} {d : PyData} {ds : List PyData} (hs : starEach (e :: es) env = (false, eval e env) :: starEach es env) (he : KP P W A env h0 e d) (hr : KPs P W A env h0 es ds) : KPs P W A env h0 (e :: es) (d :: ds) := fun pos s E Q k h => by
  rw [hs]
  show wpAny _ _ (spliced ((false, eval e env) :: backTo pos (starEach es env))) _ _ s
  refine Calls.spliced_cons (he s E _ k fun v h1 tk1 as1 k1 r1 => hr pos _ E _ (k.trans k1) fun vs h2 tk2 as2 k2 r2 => ?_)
  exact h _ h2 tk2 _ (k1.trans k2) (.cons (PyProof.Rows.Reads.keeps k2 r1) r2)
theorem kp_tup {es : List Expr} {ds : List PyData} {x1 : Nat} (hl : ds.length ≤ 16777216) (h : KPs P W A env h0 es ds) : KP P W A env h0 (.Tuple es x1 pos) (.tuple ds) := fun s E Q k hq => by
  refine wpAny_Tuple_spliced (h pos s E _ k fun vs h1 tk1 as1 k1 r1 => ⟨by rw [readsAll_len r1, size_line]; exact hl, ?_⟩)
  have kk : Kp h1 (h1.push { cls := Value.type "tuple", data := Data.seq vs.toArray }) := fun b o e => Heap.get?_push_of_some _ e
  refine hq _ _ _ as1 (k1.trans kk) (.tuple (Heap.get?_push_size _ rfl) rfl rfl ?_)
  simpa using readsAll_keeps kk r1
end
theorem reads_tuple {h : Heap} : ∀ {v : Value} {ds : List PyData} {as : List Addr}, Reads h v (.tuple ds) as → ∃ (p : Addr) (o : Obj) (vs : Array Value) (n : Nat), v = .ref p ∧ h.get? p = some o ∧ o.cls = .type "tuple" ∧ o.data = .seq vs n ∧ ReadsAll h vs.toList ds as
  | _, _, _, .tuple g1 g2 g3 g4 => ⟨_, _, _, _, rfl, g1, g2, g3, g4⟩
mutual
theorem flat_nil {h : Heap} : ∀ (d : PyData) {v : Value} {as : List Addr}, Reads h v d as → flatD d = true → as = []
  | .none, _, _, .none, _ => rfl
  | .bool _, _, _, .bool _, _ => rfl
  | .int _, _, _, .int _ _, _ => rfl
  | .str _, _, _, .str _ _, _ => rfl
  | .list _, _, _, _, f => by cases f
  | .dict _, _, _, _, f => by cases f
  | .tuple ds, v, as, r, f => by
    obtain ⟨p, o, vs, n, _, _, _, _, g4⟩ := reads_tuple r
    exact flat_nils ds g4 f
theorem flat_nils {h : Heap} : ∀ (ds : List PyData) {vs : List Value} {as : List Addr}, ReadsAll h vs ds as → flatDs ds = true → as = []
  | [], _, _, .nil, _ => rfl
  | d :: ds, _, _, .cons r q, f => by
    have f : (flatD d && flatDs ds) = true := f
    rw [Bool.and_eq_true] at f
    rw [flat_nil d r f.1, flat_nils ds q f.2]
    rfl
end
section
variable {P : Program} {W : World} {A : Around} {env : Env} {h0 : Heap} {N : List Str} {lv : List (Option PyData)}
/-- slots that are read give their data -/
def SlK (P : Program) (W : World) (A : Around) (env : Env) (h0 : Heap) (N : List Str) (lv : List (Option PyData)) : Prop :=
  ∀ (i : Nat) (x : Str) (d : PyData) (pos : Pos), N[i]? = some x → lv[i]? = some (some d) → visK env.scope x = true → (x == ("__debug__" : Str)) = false → (x == ("__classdict__" : Str)) = false → KP P W A env h0 (.Name x pos) d
theorem star1 {e : Expr} {es : List Expr} {env : Env} (h : noStar e = true) : starEach (e :: es) env = (false, eval e env) :: starEach es env := by
  cases e <;> first | rfl | cases h
theorem plain_ix {b : Expr} (h : noSlice b = true) : PlainIx b := by
  intro o i
  cases b <;> first | rfl | cases h
mutual
theorem okK (sk : SlK P W A env h0 N lv) : ∀ (b : Ex) {e : Expr} {d : PyData}, chkK N env.scope b e = true → kyE b lv = some d → KP P W A env h0 e d
  | .var i, e, d, hc, hk => by
    have hc : (match (generalizing := false) e with
      | .Name y _ => decide (N[i]? = some y) && visK env.scope y && !(y == ("__debug__" : Str)) && !(y == ("__classdict__" : Str))
      | _ => false) = true := hc
    split at hc
    · simp only [Bool.and_eq_true, decide_eq_true_eq, Bool.not_eq_true'] at hc
      obtain ⟨⟨⟨h1, h2⟩, h3⟩, h4⟩ := hc
      have hk : (lv[i]?).bind id = some d := hk
      have hk : lv[i]? = some (some d) := by
        cases q : lv[i]? with
        | none => rw [q] at hk; cases hk
        | some o => rw [q] at hk; exact congrArg some hk
      exact sk i _ d _ h1 hk h2 h3 h4
    · cases hc
  | .lit x, e, d, hc, hk => by
    cases x with
    | int k =>
      have hc : (match (generalizing := false) e with
        | .Constant (.int j) _ _ => decide (k = j)
        | _ => false) = true := hc
      split at hc
      · have hc := of_decide_eq_true hc
        subst hc
        cases (show some (PyData.int k) = some d from hk)
        exact kp_int
      · cases hc
    | _ => cases hc
  | .bin o a b, e, d, hc, hk => by
    have hc : (match (generalizing := false) e with
      | .BinOp y p z _ => decide (o = p) && chkK N env.scope a y && chkK N env.scope b z
      | _ => false) = true := hc
    split at hc
    · simp only [Bool.and_eq_true, decide_eq_true_eq] at hc
      obtain ⟨⟨h1, h2⟩, h3⟩ := hc
      subst h1
      have hk : (match (generalizing := false) o, kyE a lv, kyE b lv with
        | .Add, some (.int x), some (.int y) => some (PyData.int (x + y))
        | .Sub, some (.int x), some (.int y) => some (.int (x - y))
        | .Mult, some (.int x), some (.int y) => binD .Mult (.int x) (.int y)
        | .Mod, some (.int x), some (.int y) => if 0 < y then some (.int (x % y)) else none
        | _, _, _ => none) = some d := hk
      split at hk
      · rename_i q1 q2 _
        cases hk
        exact kp_bin (fun t u s E Q h => add_int h) (okK sk a h2 q1) (okK sk b h3 q2)
      · rename_i q1 q2 _
        cases hk
        exact kp_bin (fun t u s E Q h => sub_int h) (okK sk a h2 q1) (okK sk b h3 q2)
      · rename_i x y q1 q2 _
        have hk : (if (small x || small y) = true then some (PyData.int (x * y)) else none) = some d := hk
        split at hk
        · rename_i hs
          cases hk
          refine kp_bin (fun t u s E Q h => mul_int h ?_) (okK sk a h2 q1) (okK sk b h3 q2)
          have : CMul x y := by
            unfold small at hs
            simp only [Bool.or_eq_true, Bool.and_eq_true, decide_eq_true_eq] at hs
            exact hs
          exact this.ok
        · cases hk
      · rename_i x y q1 q2 _
        split at hk
        · rename_i hy
          cases hk
          refine kp_bin (fun t u s E Q h => mod_int' (by omega) ?_) (okK sk a h2 q1) (okK sk b h3 q2)
          rw [Int.fmod_eq_emod_of_nonneg x (by omega)]
          exact h
        · cases hk
      · cases hk
    · cases hc
  | .idx a b, e, d, hc, hk => by
    have hc : (match (generalizing := false) e with
      | .Subscript y z _ => chkK N env.scope a y && chkK N env.scope b z && noSlice z
      | _ => false) = true := hc
    split at hc
    · simp only [Bool.and_eq_true] at hc
      obtain ⟨⟨h1, h2⟩, h3⟩ := hc
      have hk : (match (generalizing := false) kyE a lv, kyE b lv with
        | some (.tuple ds), some (.int j) => if ds.length ≤ 16777216 then atP ds j else none
        | _, _ => none) = some d := hk
      split at hk
      · rename_i q1 q2
        split at hk
        · rename_i hl
          exact kp_idx (plain_ix h3) hl hk (okK sk a h1 q1) (okK sk b h2 q2)
        · cases hk
      · cases hk
    · cases hc
  | .tup es, e, d, hc, hk => by
    have hc : (match (generalizing := false) e with
      | .Tuple ys _ _ => chkKs N env.scope es ys
      | _ => false) = true := hc
    split at hc
    · have hk : ((kyEs es lv).bind fun ds => if ds.length ≤ 16777216 then some (PyData.tuple ds) else none) = some d := hk
      obtain ⟨ds, q1, q2⟩ := Option.bind_eq_some_iff.mp hk
      split at q2
      · rename_i hl
        cases q2
        exact kp_tup hl (okKs sk es hc q1)
      · cases q2
    · cases hc
  | .b1 f a, e, d, hc, hk => by cases hc
  | .glo _, e, d, hc, hk => by cases hc
  | .neg _, e, d, hc, hk => by cases hc
  | .cmp _ _ _, e, d, hc, hk => by cases hc
  | .chn _ _ _ _ _, e, d, hc, hk => by cases hc
  | .and _, e, d, hc, hk => by cases hc
  | .or _, e, d, hc, hk => by cases hc
  | .not _, e, d, hc, hk => by cases hc
  | .ife _ _ _, e, d, hc, hk => by cases hc
  | .lst _ _, e, d, hc, hk => by cases hc
  | .dct0, e, d, hc, hk => by cases hc
  | .slc _ _ _, e, d, hc, hk => by cases hc
  | .rev _, e, d, hc, hk => by cases hc
  | .call _ _, e, d, hc, hk => by cases hc
  | .ss _, e, d, hc, hk => by cases hc
  | .b2 _ _ _, e, d, hc, hk => by cases hc
  | .isi _ _, e, d, hc, hk => by cases hc
  | .get _ _ _, e, d, hc, hk => by cases hc
  | .app _ _, e, d, hc, hk => by cases hc
  | .comp _ _ _ _ _ _, e, d, hc, hk => by cases hc
  | .compi _ _ _ _ _ _, e, d, hc, hk => by cases hc
  | .dcomp _ _ _ _ _ _, e, d, hc, hk => by cases hc
  | .ssc _ _ _ _ _, e, d, hc, hk => by cases hc
  | .comp2 _ _ _ _ _ _ _ _ _, e, d, hc, hk => by cases hc
  | .binl _ _ _ _, e, d, hc, hk => by cases hc
  | .said _ _ _, e, d, hc, hk => by cases hc
  | .lm _ _ _, e, d, hc, hk => by cases hc
  | .isx _ _, e, d, hc, hk => by cases hc
  | .dctp, e, d, hc, hk => by cases hc
  | .sk _ _ _ _, e, d, hc, hk => by cases hc
theorem okKs (sk : SlK P W A env h0 N lv) : ∀ (b : Exs) {e : List Expr} {d : List PyData}, chkKs N env.scope b e = true → kyEs b lv = some d → KPs P W A env h0 e d
  | .nil, e, d, hc, hk => by
    have hc : (match (generalizing := false) e with
      | [] => true
      | _ => false) = true := hc
    split at hc
    · cases (show some ([] : List PyData) = some d from hk)
      exact kps_nil
    · cases hc
  | .cons a es, e, d, hc, hk => by
    have hc : (match (generalizing := false) e with
      | y :: ys => noStar y && chkK N env.scope a y && chkKs N env.scope es ys
      | _ => false) = true := hc
    split at hc
    · simp only [Bool.and_eq_true] at hc
      obtain ⟨⟨h1, h2⟩, h3⟩ := hc
      have hk : (match (generalizing := false) kyE a lv, kyEs es lv with
        | some x, some xs => some (x :: xs)
        | _, _ => none) = some d := hk
      split at hk
      · rename_i q1 q2
        cases hk
        exact kps_cons (star1 h1) (okK sk a h2 q1) (okKs sk es h3 q2)
      · cases hk
    · cases hc
end
end
end Ev

/-! the end of a law: its def's promise where no guard stands and tables of code objects are tracked -/
namespace Ev
open PySem PySem.Spec PyProof.Rows L2 LamX
abbrev noTab : Obj := { cls := .none, data := .fields #[] }
/-- what is tracked at the law's entry: the tables; the script, where K doesn't know it -/
def trk0 (K : PySem.W.Frag) (tb : List Addr) (a : Addr) (oa : Obj) (ns : List Int) : Hp := fun b => if b ∈ tb then some (.tbl #[]) else if b = a ∧ K.lookup a = none then some (.frz oa (.lst (ns.map V.int))) else none
section
variable {K : PySem.W.Frag} {tb : List Addr} {a b : Addr} {oa : Obj} {ns : List Int} {u : HO}
theorem trk0_cases (h : trk0 K tb a oa ns b = some u) : (b ∈ tb ∧ u = .tbl #[]) ∨ (b = a ∧ K.lookup a = none ∧ u = .frz oa (.lst (ns.map V.int))) := by
  unfold trk0 at h
  split at h
  · rename_i q; cases h; exact .inl ⟨q, rfl⟩
  · split at h
    · rename_i q; cases h; exact .inr ⟨q.1, q.2, rfl⟩
    · cases h
theorem trk0_tb (h : b ∈ tb) : trk0 K tb a oa ns b = some (.tbl #[]) := if_pos h
theorem trk0_a (h : a ∉ tb) (hk : K.lookup a = none) : trk0 K tb a oa ns a = some (.frz oa (.lst (ns.map V.int))) := (if_neg h).trans (if_pos ⟨rfl, hk⟩)
theorem trk0_off (h : b ∉ tb) (h2 : b = a → K.lookup a ≠ none) : trk0 K tb a oa ns b = none := (if_neg h).trans (if_neg fun z => h2 z.1 z.2)
end
section
variable {Pg : Program} {W : World} {K : PySem.W.Frag} {mg mb : Str → Option Value} {k : Nat} {f a : Addr} {cs : List (Addr × Addr)} {fd : FuncData} {x : Str} {sp : Sp} {s1 : Shared} {vs : List Value} {ns : List Int}
theorem law_goT (kx : K.In s1.heap) (hns : s1.heap.Ns mainGlobals mg) (hb : s1.heap.Ns builtinsNs mb) (hbb : ∀ x : Str, x ≠ "__name__" → mb x = bootBuiltins x) (hlim : s1.heap.NoLimit) (hg : s1.gens = #[])
    (hT : ∀ p ∈ cs, s1.heap.get? p.2 = some noTab) (nT : ∀ p ∈ cs, K.lookup p.2 = none) (C : ∀ p ∈ cs, PySem.W.CodeHd s1.heap p.1 p.2)
    (hbm : ∃ (bm : Addr) (ob : Obj), mg "__builtins__" = some (.ref bm) ∧ bm ≠ builtinsNs ∧ s1.heap.get? bm = some ob ∧ ob.cls = .type "module" ∧ ob.dict = some builtinsNs ∧ ob.data = .plain)
    (ha : s1.heap.get? a = some { cls := .type "list", data := .seq vs.toArray }) (hi : IntsAre vs ns) (hl : ns.length ≤ sizeLine) (hr : Room k callerA)
    (F : ∀ base : Heap, K.In base → base.Ns mainGlobals mg → (∀ p ∈ cs, TabB base mg p.1 p.2) → FnG Pg W K mg base k f fd [x] sp) (hbind : ∀ (s : Shared) (u : Value), BindsTo s fd ⟨[u], []⟩ [(x, u)])
    (hsp : ∀ H : Hp, (∀ p ∈ cs, H p.2 = some (.tbl #[])) → SqL K H a (ns.map V.int) → sp [.ref a] H (fun v _ => v = .bl true) fun _ _ _ => False) :
    codeAny (model Pg W) callerA (.call (.ref f) ⟨[.ref a], []⟩) (fun r s' => r = .ok (.ret (.bool true)) ∧ OldK s1.heap s'.heap ∧ s'.os = s1.os ∧ AllBare s'.gens) s1 := by
  have rv := vals_ints hi
  obtain ⟨oa, hoa⟩ : ∃ oa : Obj, oa = { cls := .type "list", data := .seq vs.toArray } := ⟨_, rfl⟩
  obtain ⟨tb, htb⟩ : ∃ tb : List Addr, tb = cs.map (·.2) := ⟨_, rfl⟩
  have inT : ∀ p ∈ cs, p.2 ∈ tb := fun p hp => by rw [htb]; exact List.mem_map.mpr ⟨p, hp, rfl⟩
  have ofT : ∀ b ∈ tb, ∃ p ∈ cs, p.2 = b := fun b h => by rw [htb] at h; exact List.mem_map.mp h
  have isT : ∀ b ∈ tb, s1.heap.get? b = some noTab := fun b h => by
    obtain ⟨p, hp, e⟩ := ofT b h
    rw [← e]; exact hT p hp
  rw [← hoa] at ha
  have aT : a ∉ tb := fun z => by
    have q := isT a z
    rw [ha, hoa] at q
    cases q
  -- an object that is neither a table nor a list is not tracked
  have off : ∀ {b : Addr} {o : Obj}, s1.heap.get? b = some o → o.data ≠ .fields #[] → (∀ vs n, o.data ≠ .seq vs n) → trk0 K tb a oa ns b = none := fun {b o} e h1 h2 => by
    refine trk0_off (fun z => ?_) fun z => ?_
    · rw [isT b z] at e; cases e; exact absurd rfl h1
    · rw [z, ha, hoa] at e; cases e; exact absurd rfl (h2 _ _)
  have ns1 : ∀ {b : Addr} {m : Str → Option Value}, s1.heap.Ns b m → (hidT s1.heap (trk0 K tb a oa ns)).Ns b m := fun {b m} ⟨o, es, ep, e, d, r⟩ => ⟨o, es, ep, hidT_get e (off e (by rw [d]; exact fun z => by cases z) (by rw [d]; exact fun _ _ z => by cases z)), d, r⟩
  have kin : K.In (hidT s1.heap (trk0 K tb a oa ns)) := fun b o e => hidT_get (kx b o e) (trk0_off (fun z => by
    obtain ⟨p, hp, e2⟩ := ofT b z
    rw [← e2, nT p hp] at e; cases e) fun z => by rw [← z, e]; simp)
  have mainD : ∀ p ∈ cs, mainGlobals ≠ p.2 := fun p hp z => by
    obtain ⟨o, es, ep, e, hd, _⟩ := hns
    rw [z, hT p hp] at e
    cases e; cases hd
  have TB : ∀ p ∈ cs, TabB (hidT s1.heap (trk0 K tb a oa ns)) mg p.1 p.2 := fun p hp => by
    refine ⟨?_, ?_, mainD p hp⟩
    · obtain ⟨o, us, file, tf, flags, tg, inF, text, tt, e1, r1, r2, r3, r⟩ := C p hp
      refine ⟨o, us, file, tf, flags, tg, inF, text, tt, hidT_get e1 (off e1 (fun z => ?_) fun _ _ z => ?_), r1, r2, r3, r⟩
      · rw [r2] at z; cases z; simp at r3
      · rw [r2] at z; cases z
    · obtain ⟨bm, ob, b1, b2, b3, b4, b5, b6⟩ := hbm
      refine ⟨bm, ob, b1, b2, fun q => ?_, fun q => ?_, hidT_get b3 (off b3 (by rw [b6]; exact fun z => by cases z) (by rw [b6]; exact fun _ _ z => by cases z)), b4, b5, b6⟩
      · obtain ⟨o, es, ep, e, hd, _⟩ := hns
        rw [q, e] at b3
        cases b3
        rw [hd] at b6
        cases b6
      · rw [q, hT p hp] at b3
        cases b3
        cases b6
  have hok : HOk Pg W (trk0 K tb a oa ns) s1.heap := fun b u z => by
    rcases trk0_cases z with ⟨h1, rfl⟩ | ⟨h1, h2, rfl⟩
    · exact isT b h1
    · subst h1 hoa
      exact ⟨ha, by rw [List.length_map]; exact hl, vs, _, rv, ha⟩
  have hS : SqL K (trk0 K tb a oa ns) a (ns.map V.int) := by
    cases hk : K.lookup a with
    | some o =>
      have e := kx a o hk
      rw [ha, hoa] at e
      cases e
      exact .inr ⟨_, vs.toArray, _, hk, rfl, rfl, rfl, by rw [List.size_toArray, hi.length]; exact hl, by simpa using rv⟩
    | none => exact .inl (.inr ⟨oa, trk0_a aT hk⟩)
  obtain ⟨mc, c1, c2⟩ := hlim
  have e0 : Env0 Pg W K mg (hidT s1.heap (trk0 K tb a oa ns)) callerA [] s1 (trk0 K tb a oa ns) := ⟨rfl, ⟨kin, ns1 hns, ⟨mb, ns1 hb, hbb⟩, ⟨mc, ns1 c1, c2⟩⟩, fun b o e => of_hidT e, Nat.le_of_eq (hidT_size _ _), trivial, fun b hb => absurd hb (by intro z; cases z), hok, .of_eq hg⟩
  refine codeAny_mono ((F _ kin (ns1 hns) TB).go callerA [] s1 (trk0 K tb a oa ns) ⟨[.ref a], []⟩ [.ref a] [.ref a] _ _ rfl hr e0 (hbind s1 (.ref a)) (.cons rfl .nil) (hsp _ (fun p hp => trk0_tb (inT p hp)) hS)) fun r s' h => ?_
  cases r with
  | error e =>
    obtain ⟨_, _, _, _, _, _, _, _, _, _, _, _, z⟩ := (show L2.CX _ _ _ _ _ _ _ _ from h)
    exact False.elim z
  | ok fl =>
    cases fl with
    | next => exact False.elim h
    | brk => exact False.elim h
    | cont => exact False.elim h
    | ret u =>
      obtain ⟨v, H', os, bare, un, hok', r', q⟩ := h
      cases (show v = .bl true from q)
      cases (show u = Value.bool true from r')
      have grown : ∀ p ∈ cs, ∃ more : Array Value, s'.heap.get? p.2 = some { cls := .none, data := .fields more } := fun p hp => by
        obtain ⟨more, z⟩ := un.tbls p.2 #[] (trk0_tb (inT p hp))
        exact ⟨_, hok' p.2 _ z⟩
      have key : ∀ b o, b ∉ tb → s1.heap.get? b = some o → s'.heap.get? b = some o := fun b o nb e => by
        cases q : trk0 K tb a oa ns b with
        | none => exact un.keep b o e q (by intro z; exact absurd (show b ∈ ([] : List Addr) from z) (by simp)) (by simp)
        | some u =>
          rcases trk0_cases q with ⟨h1, _⟩ | ⟨h1, h2, rfl⟩
          · exact absurd h1 nb
          · have t1 := (hok b _ q).1
            rw [e] at t1
            cases t1
            exact (hok' b _ (un.frzs b _ _ q)).1
      refine ⟨rfl, ⟨fun b o e => ?_, fun b o e => ?_⟩, os, bare⟩
      · by_cases hm : b ∈ tb
        · obtain ⟨p, hp, ep⟩ := ofT b hm
          obtain ⟨more, h4⟩ := grown p hp
          subst ep
          rw [hT p hp] at e
          cases e
          exact .inr (.inl ⟨((C p hp).tab (hT p hp)).isCodeTable, rfl, #[], more, rfl, by rw [Array.empty_append]; exact h4⟩)
        · exact .inl (key b o hm e)
      · by_cases hm : b ∈ tb
        · obtain ⟨p, hp, ep⟩ := ofT b hm
          obtain ⟨more, h4⟩ := grown p hp
          subst ep
          exact ⟨_, h4⟩
        · exact ⟨o, key b o hm e⟩
end
theorem walk_goT {l : PySem.W.OpenLaw} {n k : Nat} {q : Program} {loose : List Str} {XP : (Str → Option Value) → Heap → Prop} {YP : World → Heap → Prop} {d : DefRec} {x : Str}
    (hn : l.most = some n) (hn2 : n ≤ sizeLine) (hdf : d.params.defaults = []) (hr : Room k callerA)
    (F : ∀ (w : World) (mg : Str → Option Value) (fa : Addr) (h : Heap), YP w h → h.Ns mainGlobals mg → mg d.name = some (.ref fa) →
      ∃ (K : PySem.W.Frag) (fd : FuncData) (cs : List (Addr × Addr)) (sp : Sp), K.In h ∧ (∀ p ∈ cs, h.get? p.2 = some noTab) ∧ (∀ p ∈ cs, K.lookup p.2 = none) ∧ (∀ p ∈ cs, PySem.W.CodeHd h p.1 p.2) ∧ (∀ (s : Shared) (u : Value), BindsTo s fd ⟨[u], []⟩ [(x, u)]) ∧
        (∀ (H : Hp) (a : Addr) (ns : List Int), ns.length ≤ n → (∀ p ∈ cs, H p.2 = some (.tbl #[])) → SqL K H a (ns.map V.int) → sp [.ref a] H (fun v _ => v = .bl true) fun _ _ _ => False) ∧
        ∀ base : Heap, K.In base → base.Ns mainGlobals mg → (∀ p ∈ cs, TabB base mg p.1 p.2) → FnG l.prog w K mg base k fa fd [x] sp) : PySem.W.WalkO q loose XP YP l.row.toRowW d [] (fun f vs => PySem.call f vs) := by
  refine Att.attach_call hn hdf fun w s0 s1 mg mb fa o pm cd doc a vs ns G Y ho hd hcd hmg hobj hints hlen hg => ?_
  obtain ⟨K, fd, cs, sp, kx, hT, nT, C, hb, hsp, hF⟩ := F w mg fa _ Y G.T.g hmg
  exact law_goT kx G.T.g G.T.b G.T.builtins G.T.nolimit hg hT nT C G.T.bmain hobj hints (Nat.le_trans hlen hn2) hr hF hb fun H hH hS => hsp H a ns hlen hH hS
end Ev

/-! sorted(.., key=lambda x: ..) -/
namespace Ev
open PySem PySem.Spec PyProof.Rows L2 LamX
structure LamP (sc scope : Scope) (x : Str) : Prop where
  kind : scope.kind = .function
  co : scope.isCoroutine = false
  gen : scope.isGenerator = false
  par : scope.names.lookup x = some .local
  nc : ∀ y ∈ scope.names, y.2 ≠ .cell
  own : ∀ y ∈ scope.names, y.2 = .local → y.1 = x
  free : ∀ y ∈ scope.names, y.2 = .free → sc.names.lookup y.1 = some .cell ∨ sc.names.lookup y.1 = some .free
theorem lamP_by {sc scope : Scope} {x : Str} (h : lamPB sc scope x = true) : LamP sc scope x := by
  unfold lamPB at h
  simp only [Bool.and_eq_true, Bool.not_eq_true', decide_eq_true_eq, List.all_eq_true, Bool.or_eq_true, decide_eq_false_iff_not] at h
  obtain ⟨⟨⟨⟨h1, h2⟩, h3⟩, h4⟩, h5⟩ := h
  refine ⟨?_, h2, h3, h4, fun y hy => (h5 y hy).1.1, fun y hy e => ?_, fun y hy e => ?_⟩
  · revert h1
    cases scope.kind <;> intro h1 <;> first | rfl | cases h1
  · rcases (h5 y hy).1.2 with z | z
    · exact absurd e z
    · exact z
  · rcases (h5 y hy).2 with (z | z) | z
    · exact absurd e z
    · exact .inl z
    · exact .inr z
theorem oneArg_ok {x : Str} {a : Arguments} (h : oneArg x a = true) : ∃ b : Arg, a = ⟨[], [b], none, [], [], none, []⟩ ∧ b.arg = x := by
  unfold oneArg at h
  split at h
  · exact ⟨_, rfl, of_decide_eq_true h⟩
  · cases h
theorem oneArg_def {x : Str} {a : Arguments} {env : Env} (h : oneArg x a = true) : defaultsOf a env = ([], []) := by
  obtain ⟨b, rfl, rfl⟩ := oneArg_ok h
  rfl
theorem oneArg_bind {x : Str} {a : Arguments} {body : Expr} {scope : Scope} (h : oneArg x a = true) (q : Str) (cl : List (Str × Addr)) (pm cv ctv v : Value) : bindArgs (PySem.W.kla_fn "<lambda>" q a body scope cl pm cv ctv) ⟨[v], []⟩ = pure [(x, v)] := by
  obtain ⟨b, rfl, rfl⟩ := oneArg_ok h
  unfold bindArgs
  simp [PySem.W.kla_fn, seqItems?, List.lookup]
  rfl
section
variable {X : Cx} {pins : List (Addr × Obj)} {σ : L2.St} {H : Hp} {s : Shared}
theorem key_call {x : Str} {params : Arguments} {body : Expr} {scope : Scope} {f c' : Addr} {pm ctv v : Value} {A' : Around} {h : Heap} {tk : Nat} {k : PyData} (I : Inv X pins σ H s) (L : LamP X.env.scope scope x) (dep : A'.depth < recursionLimit)
    (hf : s.heap.get? f = some (PySem.W.kla_obj "<lambda>" (X.env.qual ++ "<lambda>") params body scope (cloFrom X.env.cells scope.names []) pm c' ctv)) (hco : H c' = some (CodeO c' (X.env.qual ++ "<lambda>"))) (ho : oneArg x params = true) (kp : Kp s.heap h)
    (hb : ∀ (h1 : Heap) (env : Env), env.scope = scope → env.cells = cloFrom X.env.cells scope.names [] → Kp h h1 → (h1.Ns env.locals fun y => ([(x, v)] : List (Str × Value)).reverse.lookup y) → KP X.prog X.w (A'.deeper env) env h1 body k) (fl : flatD k = true) :
    wpAny (model X.prog X.w) A' (call (.ref f) [v]) (PySem.W.KeyPure k { s with heap := h, toks := tk }) (fun _ _ => False) { s with heap := h, toks := tk } := by
  have of1 := kp _ _ hf
  obtain ⟨⟨oc, vs, t, hoc, hdc, hvc⟩, _, _⟩ := I.hok c' _ hco
  have rc : codeAny (model X.prog X.w) A' (.call (.ref f) ⟨[v], []⟩) (fun r s' => ∃ u, r = .ok (.ret u) ∧ PySem.W.KeyPure k { s with heap := h, toks := tk } u s') { s with heap := h, toks := tk } := by
    refine PySem.W.kla_callFunE dep of1 rfl L.co L.gen rfl ⟨c', oc, vs, t, rfl, kp _ _ hoc, hdc, hvc⟩ ?_
    rw [show bindArgs _ _ = pure [(x, v)] from oneArg_bind ho _ _ _ _ _ _]
    refine wpAny_pure (wpAny_newFunctionEnv (fun y hy => L.nc y hy) (fun y hy => ?_) (fun h₁ hns hsb => ⟨(I.nolimit.keeps kp).fresh _ hsb, ?_⟩) L.kind)
    · cases List.mem_singleton.mp hy
      exact L.par
    · have kp1 : Kp h h₁ := fun b o e => hsb.extBut b o (Nat.ne_of_lt (Heap.lt_size e)) (Heap.get?_push_of_some _ e)
      refine PySem.W.kla_codeExpr (hb h₁ _ rfl rfl kp1 hns _ _ _ (Kp.refl _) fun u h' tk' as k' r' => ?_)
      refine ⟨u, rfl, h', tk', rfl, kp1.trans k', ?_⟩
      rw [flat_nil k r' fl] at r'
      exact r'
  refine wpAny_call (codeAny_mono rc fun r s' hq => ?_)
  obtain ⟨u, rfl, hq⟩ := hq
  exact hq
/-- the slots in the lambda's frame -/
theorem lam_slots {w0 w : Wd} {H0 : Hp} {e : Lv} {st : Sto} {x : Str} {scope : Scope} {i : Nat} {d : PyData} {v : Value} {as : List Addr} {A : Around} {h1 : Heap} {env : Env} (I : Inv X pins σ H s) (R : Rl X.K w0 H0 w e st σ H) (nd : X.N.Nodup) (L : LamP X.env.scope scope x) (hN : X.N[i]? = some x)
    (kp : Kp s.heap h1) (es : env.scope = scope) (ec : env.cells = cloFrom X.env.cells scope.names []) (hns : h1.Ns env.locals fun y => ([(x, v)] : List (Str × Value)).reverse.lookup y) (rv : Reads h1 v d as) :
    SlK X.prog X.w A env h1 X.N ((dLv e).set i (some d)) := by
  intro j y d' pos hy hl hv hd hcd
  have hk : env.scope.kind = .function := by rw [es]; exact L.kind
  by_cases hj : j = i
  · subst hj
    have exy : y = x := Option.some.inj (hy.symm.trans hN)
    subst exy
    have hlt : j < (dLv e).length := by
      have := (List.getElem?_eq_some_iff.mp hl).1
      simpa using this
    rw [List.getElem?_set_self (by simpa using hlt)] at hl
    cases hl
    exact kp_local hk (by show env.scope.names.lookup y = _; rw [es]; exact L.par) hns (by simp) rv hd
  · rw [List.getElem?_set_ne (fun z => hj z.symm)] at hl
    have hne : y ≠ x := fun z => by
      subst z
      exact hj ((List.getElem?_inj (List.getElem?_eq_some_iff.mp hy).1 nd).mp (hy.trans hN.symm))
    have hev : e[j]? = some (some (.d d')) := by
      unfold dLv at hl
      rw [List.getElem?_map] at hl
      cases q : e[j]? with
      | none => rw [q] at hl; cases hl
      | some o =>
        rw [q] at hl
        have hl : o.bind valD = some d' := Option.some.inj hl
        obtain ⟨z, rfl, hz⟩ := Option.bind_eq_some_iff.mp hl
        cases z with
        | d d2 => cases hz; rfl
        | _ => cases hz
    obtain ⟨p, hp, hpr⟩ := R.env.at_ hev
    obtain ⟨z, rfl, hz⟩ := hpr _ rfl
    have hz : Rp X.K w.F d' z := hz
    have hvf : scope.names.lookup y = some .free := by
      rw [es] at hv
      unfold visK at hv
      split at hv
      · rename_i q
        exact absurd (L.own _ (PySem.mem_of_lookup q) rfl) hne
      · assumption
      · cases hv
    have hsc := L.free _ (PySem.mem_of_lookup hvf) rfl
    obtain ⟨m, hn, hloc⟩ := I.loc
    obtain ⟨u, ru, lk⟩ := hloc j y z hy hp (hsc.elim (fun k => .inr (.inl k)) fun k => .inr (.inr k))
    obtain ⟨as', rd⟩ := Rp.reads I d' (Rp.mono R.fh d' hz) ru
    rcases lk with ⟨hkk, _⟩ | ⟨_, c, hc, hcell⟩
    · have hkk : X.env.scope.names.lookup y = some .local := hkk
      rcases hsc with k2 | k2 <;> rw [show X.env.scope.names.lookup y = _ from k2] at hkk <;> cases hkk
    · have hfree : ∀ q ∈ scope.names, q.2 = .free → ∃ c, X.env.cells.lookup q.1 = some c := fun q hq e => I.ok.has _ ((L.free q hq e).elim .inl .inr)
      have hcl : (cloFrom X.env.cells scope.names []).lookup y = some c := by
        obtain ⟨c2, h2⟩ := mem_lookup (cloFrom_has (cells := X.env.cells) (acc := []) (PySem.mem_of_lookup hvf))
        rcases cloFrom_mem (PySem.mem_of_lookup h2) with hm | ⟨_, h3⟩
        · cases hm
        · rw [h2, h3]
          have hc : X.env.cells.lookup y = some c := hc
          show some ((X.env.cells.lookup y).getD 0) = _
          rw [hc]; rfl
      refine kp_free hk (by show env.scope.names.lookup y = _; rw [es]; exact hvf) (by rw [ec]; exact hcl) ?_ (PyProof.Rows.Reads.keeps kp rd) hd hcd
      obtain ⟨o, e1, e2⟩ := hcell
      exact ⟨o, kp _ _ e1, e2⟩
end
section
variable {X : Cx} {pins : List (Addr × Obj)} {si : L2.St} {H : Hp} {sh : Shared} {Q : Value → Shared → Prop} {E : Value → Shared → Prop}
/-- what stands before the sort by keys -/
structure KeyF (X : Cx) (g : Gx) : Prop where
  dep : X.A.depth < recursionLimit
  tab : ∃ c P, TabB X.base X.mg c P ∧ X.env.code = .ref c ∧ (P, X.env.qual ++ "<lambda>") ∈ g.T ∧ ∀ p ∈ g.T, p.1 = P → p.2 = X.env.qual ++ "<lambda>"
theorem all2_ext {α β : Type} {R : α → β → Prop} : ∀ {as : List α} {bs : List β}, as.length = bs.length → (∀ (i : Nat) (a : α) (b : β), as[i]? = some a → bs[i]? = some b → R a b) → All2 R as bs
  | [], [], _, _ => .nil
  | [], _ :: _, h, _ => by simp at h
  | _ :: _, [], h, _ => by simp at h
  | a :: as, b :: bs, h, f => .cons (f 0 a b rfl rfl) (all2_ext (by simpa using h) fun i x y hx hy => f (i + 1) x y (by simpa using hx) (by simpa using hy))
/-- sorted(range, key=f), the range's items read into a new list first -/
theorem sorted_range_key {prog : Program} {w : World} {A : Around} {s : Shared} {r f : Addr} {n : Int} {t u v : Tok} {key : Int → PyData} (hh : A.handled = none) (hr : IsRange s.heap r 0 n 1 t u v) (hn0 : 0 ≤ n) (hn : n ≤ 16777216)
    (hal : PySem.W.AllAlike (((List.range n.toNat).map fun i : Nat => (i : Int)).map key)) (hk : PySem.W.Sortable (((List.range n.toNat).map fun i : Nat => (i : Int)).map key)) (hu : ∀ x ∈ (List.range n.toNat).map fun i : Nat => (i : Int), A.units + 2 + (key x).depth < cLine)
    (turn : ∀ (x : Int) (tx : Tok), x ∈ ((List.range n.toNat).map fun i : Nat => (i : Int)) → ∀ (h : Heap) (tk : Nat), Kp s.heap h → wpAny (model prog w) A.in1.in1 (call (.ref f) [.int x tx]) (PySem.W.KeyPure (key x) { s with heap := h, toks := tk }) (fun _ _ => False) { s with heap := h, toks := tk })
    (h : ∀ (out : List Value) (c : Nat) (a : Addr) (h1 h' : Heap) (tk : Nat), Kp s.heap h1 → Kp h1 h' → a = h1.objs.size → h'.get? a = some (seqObj "list" out.toArray c) → PySem.W.EachIs (fun (v : Value) (x : Int) => ∃ t, v = .int x t) out ((((List.range n.toNat).map fun i : Nat => (i : Int))).mergeSort (PySem.W.dataLe false key)) → Q (.ref a) { s with heap := h', toks := tk }) :
    wpAny (model prog w) A (call (.builtin "sorted") [.ref r] [("key", .ref f)]) Q E s := by
  refine PyProof.Rows.call_function_entry_kw PyProof.Rows.kind_sorted PyProof.Rows.plain_sorted PyProof.Rows.entry_sorted (PyProof.Rows.ksk_s1 _ _) ?_
  unfold Builtin.«sorted»
  refine wpAny_bind (m := checkCount "sorted" 1 1 _) (wpAny_pure ?_)
  refine wpAny_bind (collect_range (n := n.toNat) hh hr (small_one (by omega) (by omega) (by omega) (by omega)) (by rw [PyProof.Rows.rangeSize_nat, Int.sub_zero]) (by omega) fun h1 tk1 acc kp1 items => ?_)
  have hlen : acc.toList.length = n.toNat := by rw [Array.length_toList]; exact items.1
  refine wpAny_bind (wpAny_newList ?_ (by rw [hlen, size_line]; omega))
  have hat : (h1.push { cls := Value.type "list", data := Data.seq acc.toList.toArray }).get? h1.objs.size = some (seqObj "list" acc.toList.toArray 0) := Heap.get?_push_size _ rfl
  have kp2 : Kp h1 (h1.push { cls := Value.type "list", data := Data.seq acc.toList.toArray }) := fun b o e => Heap.get?_push_of_some _ e
  have each : PySem.W.EachIs (fun (v : Value) (x : Int) => ∃ t, v = .int x t) acc.toList ((List.range n.toNat).map fun i : Nat => (i : Int)) := by
    refine each_of (all2_ext ?_ fun i v x hv hx => ?_)
    · rw [hlen]; simp
    · obtain ⟨t, e⟩ := items.2 i v (by rw [← Array.getElem?_toList]; exact hv)
      rw [List.getElem?_map] at hx
      have hi : i < n.toNat := by
        have := (List.getElem?_eq_some_iff.mp hv).1
        omega
      rw [List.getElem?_range hi] at hx
      cases hx
      refine ⟨t, ?_⟩
      rw [e]
      congr 1
      show (0 : Int) + (i : Int) * 1 = (i : Int)
      omega
  refine wpAny_bind (wpAny_holding (PyProof.Rows.wpAny_call_entry_kw PyProof.Rows.slot_list_sort ⟨_, hat, rfl⟩ PyProof.Rows.entry_list_sort ?_ (PyProof.Rows.ksk_l1 _ _)))
  show wpAny (model prog w) A.in1.in1 (Builtin.«list.sort» ⟨[.ref h1.objs.size], [("key", .ref f)]⟩) _ _ _
  rw [show Builtin.«list.sort» ⟨[.ref h1.objs.size], [("key", .ref f)]⟩ = PyProof.Rows.ksk_tree h1.objs.size (.ref f) false from PyProof.Rows.ksk_t1 _ _]
  have up1 : ∀ {g : Heap}, PySem.W.KeepsBut h1.objs.size (h1.push { cls := Value.type "list", data := Data.seq acc.toList.toArray }) g → Kp h1 g := fun {g} kp b o e => kp b o (Nat.ne_of_lt (Heap.lt_size e)) (kp2 _ _ e)
  have up : ∀ {g : Heap}, PySem.W.KeepsBut h1.objs.size (h1.push { cls := Value.type "list", data := Data.seq acc.toList.toArray }) g → Kp s.heap g := fun {g} kp b o e => kp b o (Nat.ne_of_lt (Heap.lt_size (kp1 _ _ e))) (kp2 _ _ (kp1 _ _ e))
  refine PySem.W.keyH_tree (kz := ((List.range n.toNat).map fun i : Nat => (i : Int)).map key) (vs := acc.toList) hat (by rw [hlen]; simp) (by rw [hlen, size_line]; omega) hal hk (fun d hd => ?_)
    (PySem.W.keyH_turns each fun v x hR hx h tk kp => ?_) fun h' tk out c kp hD ko => ⟨_, rfl, ?_⟩
  · obtain ⟨x, hx, rfl⟩ := List.mem_map.mp hd
    exact hu x hx
  · obtain ⟨t, rfl⟩ := hR
    exact turn x t hx h tk (up kp)
  · exact wpAny_pure ⟨_, rfl, h out c h1.objs.size h1 h' tk kp1 (up1 kp) rfl hD (PySem.W.keyedOut_each key ko each)⟩
end
section
variable {X : Cx} {w0 : Wd} {H0 : Hp} {g : Gx} {ma : Lv → M Val} {z body : Expr} {params : Arguments} {scope : Scope} {x : Str} {i : Nat} {b : Ex} {p1 p2 p3 p4 p5 pos : Pos}
theorem sortable_by {ds : List PyData} (h : canSort ds = true) : PySem.W.AllAlike ds ∧ PySem.W.Sortable ds ∧ (∀ d ∈ ds, d.depth ≤ 64) ∧ ds.length ≤ 16777216 := by
  unfold canSort at h
  simp only [Bool.and_eq_true, Bool.or_eq_true, List.all_eq_true, decide_eq_true_eq] at h
  obtain ⟨⟨⟨c1, c2⟩, c3⟩, c4⟩ := h
  refine ⟨fun d hd d' hd' => c1 d hd d' hd', ?_, c3, c4⟩
  rcases c2 with c2 | c2
  · refine .inl fun d hd => ?_
    have q := c2 d hd
    unfold isTup1 at q
    split at q
    · exact ⟨_, _, rfl⟩
    · cases q
  · refine .inr fun d hd => ?_
    have q := c2 d hd
    exact ⟨(fun e => by subst e; cases q), (fun ys e => by subst e; cases q)⟩
theorem int_vals : ∀ {ns : List Int} {out : List Value}, All2 (fun (v : Value) (x : Int) => ∃ t, v = .int x t) out ns → Vals (ns.map V.int) out
  | [], _, h => by cases h; exact .nil
  | n :: ns, _, h => by
    cases h with
    | cons a h => exact .cons a (int_vals h)
theorem rpA_ks {K : PySem.W.Frag} {F : Hp} : ∀ ns : List Int, RpA K F (ns.map PyData.int) (ns.map V.int)
  | [] => by unfold RpA; rfl
  | n :: ns => by
    rw [List.map_cons, List.map_cons]
    unfold RpA
    exact ⟨_, _, rfl, rp_int, rpA_ks ns⟩
/-- what a sort by keys gives -/
theorem skD_inv {lv : List (Option PyData)} {ds : List PyData} {d : PyData} (h : skD b i lv ds = some d) : d = .list (ds.mergeSort (PySem.W.dataLe false (keyD b i lv))) ∧ (∀ y ∈ ds, kyE b (lv.set i (some y)) = some (keyD b i lv y) ∧ flatD (keyD b i lv y) = true) ∧ canSort (ds.map (keyD b i lv)) = true ∧ ds.length ≤ 16777216 := by
  unfold skD at h
  split at h
  · rename_i hc
    cases h
    simp only [Bool.and_eq_true, List.all_eq_true, decide_eq_true_eq] at hc
    obtain ⟨⟨h1, h2⟩, h3⟩ := hc
    refine ⟨rfl, fun y hy => ?_, h2, h3⟩
    obtain ⟨q1, q2⟩ := h1 y hy
    refine ⟨?_, q2⟩
    unfold keyD
    cases q : kyE b (lv.set i (some y)) with
    | none => rw [q] at q1; cases q1
    | some k => rfl
  · cases h
theorem e_skr (C : Cn X) (hT : W0 g w0 H0) (TF : KeyF X g) (nd : X.N.Nodup) (hgs : Gl X "sorted") (hms : X.mg "sorted" = none) (hgr : Gl X "range") (hmr : X.mg "range" = none) (ha : PE X z (tE X.K w0 H0 ma)) (nz : noStar z = true) (hN : X.N[i]? = some x) (ho : oneArg x params = true)
    (L : LamP X.env.scope scope x) (hc : chkK X.N scope b body = true) :
    PE X (.Call (.Name "sorted" p1) [.Call (.Name "range" p2) [z] [] p3] [⟨some "key", .Lambda params body scope p4, p5⟩] pos) (tE X.K w0 H0 fun e => bd (ma e) fun v => bd (peek v) fun x => bd (ofO (skI true x)) fun ds => ofO ((skD b i (dLv e) ds).map .d)) := by
  obtain ⟨c, P, TB, hcode, hmT, hu⟩ := TF.tab
  have dep := TF.dep
  refine ⟨fun pins s σ H Q I h => ?_⟩
  obtain ⟨w, lv, st, val, st', R0, ev0, kk⟩ := h
  obtain ⟨v1, s1, e1, ev1⟩ := bd_inv ev0
  clear ev0
  refine wpAny_Call_Name_kw (ld_blt I hgs hms PyProof.Rows.boot_sorted ?_)
  refine PyProof.Rows.callWith_kw ?_ (by rfl) (by rfl) (by rfl) (by rfl)
  refine Calls.spliced_cons (Call_ (ld_blt I hgr hmr PyProof.Rows.boot_range (PyProof.Rows.callWith_type1 (one_arg (R := fun y H1 => ∃ w1 n, y = V.int n ∧ Rl X.K w0 H0 w1 lv s1 σ H1 ∧ Le w H w1 H1 ∧ (bd (ofO (skI true (.int n))) fun ds => ofO ((skD b i (dLv lv) ds).map Val.d)) s1 = some (val, st')) ha I ⟨w, lv, st, v1, s1, R0, e1, fun w1 y H1 R1 l1 r1 => ?_⟩ (fun v s2 y H2 I2 r q => ?_) (star1 nz)) (star1 nz))))
  · obtain ⟨d, t1, ev⟩ := pk R1 r1 ev1
    cases d with
    | int n => exact ⟨w1, n, t1, R1, l1, ev⟩
    | _ =>
      obtain ⟨ds, s5, e5, _⟩ := bd_inv ev
      obtain ⟨e6, _⟩ := ofO_inv e5
      cases e6
  clear ev1
  obtain ⟨w2, n, rfl, R2, l2, ev2⟩ := q
  obtain ⟨t, rfl⟩ := r
  obtain ⟨ds, s5, e5, ev3⟩ := bd_inv ev2
  clear ev2
  obtain ⟨e6, e7⟩ := ofO_inv e5
  subst e7
  obtain ⟨e8, e9⟩ := ofO_inv ev3
  subst e9
  obtain ⟨d, e10, e11⟩ := Option.map_eq_some_iff.mp e8
  subst e11
  obtain ⟨rfl, hkeys, hcs, hlen⟩ := skD_inv e10
  obtain ⟨hal, hsk, hdp, _⟩ := sortable_by hcs
  have e6 : (if 0 ≤ n ∧ n ≤ 16777216 then some ((List.range n.toNat).map fun (i : Nat) => PyData.int (i : Int)) else none) = some ds := e6
  split at e6
  · rename_i hn
    cases e6
    refine call_range_1 (Calls.spliced_nil ?_)
    have I3 := ClX.pin_new (t' := s2.toks + 1 + 1) (h' := s2.heap.push { cls := .type "range", data := .fields #[.int 0 s2.toks, .int n t, .int 1 (s2.toks + 1)] }) (a := s2.heap.objs.size) I2 (fun b o e => Heap.get?_push_of_some _ e) (Nat.le_refl _) (Heap.get?_push_size _ rfl) (fun v e => by cases e)
    refine wpAny_evalAll_cons (wpAny_bind (lam_makeM I3 TB hcode hmT hu (hT.tabs R2) (oneArg_def ho) (fun y hy e => I.ok.has _ ((L.free y hy e).elim .inl .inr)) fun f c' pm ctv H3 s3 I4 eN nn T3 hf hfn hfr hco => wpAny_bind (wpAny_standAt (wpAny_pure (wpAny_evalAll_nil ?_)))))
    have rel := R2.lam eN nn (by rw [hT.teq R2]; exact fun _ => T3)
    have hrange := ClX.pin_at I4
    have I5 := ClX.unpin I4
    show wpAny (model X.prog X.w) X.A (call (.builtin "sorted") [.ref s2.heap.objs.size] [("key", .ref f)]) _ _ s3
    have hIsR : IsRange s3.heap s2.heap.objs.size 0 n 1 s2.toks t (s2.toks + 1) := hrange
    have keyI : ∀ y : Int, y ∈ ((List.range n.toNat).map fun k : Nat => (k : Int)) → PyData.int y ∈ ((List.range n.toNat).map fun (k : Nat) => PyData.int (k : Int)) := fun y hy => by
      obtain ⟨k, hk, rfl⟩ := List.mem_map.mp hy
      exact List.mem_map.mpr ⟨k, hk, rfl⟩
    have mm : ((List.range n.toNat).map fun (k : Nat) => PyData.int (k : Int)) = ((List.range n.toNat).map fun k : Nat => (k : Int)).map PyData.int := by rw [List.map_map]; rfl
    refine sorted_range_key (key := fun y => keyD b i (dLv lv) (.int y)) (I5.ok.hd C.calm) hIsR hn.1 hn.2 ?_ ?_ (fun y hy => ?_) (fun y ty hy h tk kp => ?_) fun out cc a h1 h' tk kp1 kp2 ea hD he => ?_
    · rw [mm, List.map_map] at hal
      exact hal
    · rw [mm, List.map_map] at hsk
      exact hsk
    · have q := hdp (keyD b i (dLv lv) (.int y)) (List.mem_map.mpr ⟨_, keyI y hy, rfl⟩)
      have := C.un
      omega
    · obtain ⟨k1, k2⟩ := hkeys (.int y) (keyI y hy)
      refine key_call (A' := X.A.in1.in1) I5 L dep hf hco ho kp (fun h1 env es ec kp1 hns => ?_) k2
      have sl := lam_slots (A := X.A.in1.in1.deeper env) I5 rel.1 nd L hN (kp.trans kp1) es ec hns (.int y ty)
      rw [← es] at hc
      exact okK sl b hc k1
    · subst ea
      have I6 : Inv X pins σ H3 { s3 with heap := h1, toks := s3.toks } := I5.kept kp1
      have hp : H3 h1.objs.size = none := I6.hok.fresh (Nat.le_refl _)
      have hv : Vals (((((List.range n.toNat).map fun k : Nat => (k : Int))).mergeSort (PySem.W.dataLe false fun y => keyD b i (dLv lv) (.int y))).map V.int) out := int_vals (of_each he)
      have hl : (((((List.range n.toNat).map fun k : Nat => (k : Int))).mergeSort (PySem.W.dataLe false fun y => keyD b i (dLv lv) (.int y))).map V.int).length ≤ sizeLine := by
        rw [List.length_map, List.length_mergeSort, List.length_map, List.length_range, size_line]
        omega
      have I7 := I6.laid (t' := tk) (h' := h') (a := h1.objs.size) kp2 (Nat.le_refl _) (show ObjOk X.prog X.w _ _ _ (.lst _) from ⟨hl, out, cc, hv, hD⟩)
      obtain ⟨R8, l8⟩ := rel.1.new (o := .lst (((((List.range n.toNat).map fun k : Nat => (k : Int))).mergeSort (PySem.W.dataLe false fun y => keyD b i (dLv lv) (.int y))).map V.int)) hp
      refine ⟨.ref h1.objs.size, _, I7, rfl, kk _ _ _ R8 ((l2.trans rel.2).trans l8) ?_⟩
      show Rp _ _ _ _
      unfold Rp
      refine ⟨_, _, rfl, upd_same, ?_⟩
      rw [mm, ← List.map_mergeSort (f := PyData.int) (r := PySem.W.dataLe false fun y => keyD b i (dLv lv) (.int y)) (s := PySem.W.dataLe false (keyD b i (dLv lv))) (fun _ _ _ _ => rfl)]
      exact rpA_ks _
  · cases e6
end
end Ev

/-! expressions that pass the look are what the evaluator says -/
namespace Ev
open PySem PySem.Spec PyProof.Rows L2
def blNames : List String := ["len", "sum", "all", "any", "abs", "sorted", "tuple", "list", "int", "max", "min", "isinstance", "bool", "str", "dict", "range", "enumerate", "zip", "repr", "set"]
/-- the context is as the look was told -/
structure Fit (P : Pm) (g : Gx) (T : Tx) (X : Cx) : Prop where
  cn : Cn0 X
  cal : nh P = true → X.calm = true
  nn : X.N = P.N
  nd : P.N.Nodup
  sc : X.env.scope = P.sc
  fn : ∀ x, P.fnB x = true → X.fn x = true
  bl : ∀ x ∈ blNames, X.mg (Str.ofString x) = none
  cs : ∀ k x, P.cn[k]? = some x → ∃ u v, X.mg x = some u ∧ RelV v u ∧ ∀ d, T.cs k = some d → ∀ F, Rp X.K F d v
  fs : ∀ f x n, P.fs[f]? = some (x, n) → ∃ k, CalG X.prog X.w X.K X.mg X.base k x (spE X.K g (T.xr f) n) ∧ Room (k + 2) X.A ∧ ∀ y ws, P.sd = some (y, ws) → ∃ k', SaidF X g k' y ws ∧ k' ≤ k + 1
  xk : ∀ (k : Nat) (c : Str) (a : Addr) (d : PyData) (G : List SO), P.xk[k]? = some c → T.xr k [.e a] [] = some (.inl (.d d), G) → ∃ v : V, (∀ F, Rp X.K F d v) ∧ ∀ (i : Nat) (e : Str) (p1 p2 p3 p4 : Pos), X.N[i]? = some e → Vis X.env.scope e → (e == ("__debug__" : Str)) = false → (e == ("__classdict__" : Str)) = false → PE X (.Call (.Name "isinstance" p1) [.Name e p2, .Name c p3] [] p4) (fun (σ : L2.St) (H : Hp) (Q : VK) => σ[i]? = some (some (V.ref a)) ∧ Q v H)
  xs : ∀ c x, P.xs[c]? = some x → ∃ C, X.mg x = some (.ref C) ∧ g.cl c = .ref C ∧ XcF X.K C
  tb : P.lm = true → KeyF X g
section
variable {P : Pm} {g : Gx} {T : Tx} {X : Cx}
theorem Fit.blk (F : Fit P g T X) {scope : Scope} {s : Shared} {H : Hp} {C : Addr} {cl : List (Str × Addr)} {fp : List Addr} : Fit (P.blk scope) g T (X.blk s H scope (compEnvC scope cl C X.env) fp) where
  cn := ⟨F.cn.un, F.cn.gd, F.cn.sm⟩
  cal := F.cal
  nn := F.nn
  nd := F.nd
  sc := by
    show relS scope X.env.scope = relS scope P.sc
    rw [F.sc]
  fn := fun x h => h
  bl := F.bl
  cs := F.cs
  fs := fun f x n h => by
    obtain ⟨k, c, r, _⟩ := F.fs f x n h
    exact ⟨k, c, r, fun y ws z => by cases z⟩
  xk := fun k c a d G h => by cases h
  xs := F.xs
  tb := fun h => by cases h
theorem vis_of {sc : Scope} {x : Str} (h : visB sc x = true) : Vis sc x := by
  unfold visB at h
  unfold Vis
  split at h <;> first | exact absurd h Bool.false_ne_true | simp [*]
theorem loc_of {sc : Scope} {x : Str} (h : locB sc x = true) : L2.Loc sc x := by
  unfold locB at h
  unfold L2.Loc
  split at h <;> first | exact absurd h Bool.false_ne_true | simp [*]
theorem Fit.vis (F : Fit P g T X) {x : Str} (h : visB P.sc x = true) : Vis X.env.scope x := F.sc ▸ vis_of h
theorem Fit.loc (F : Fit P g T X) {x : Str} (h : locB P.sc x = true) : L2.Loc X.env.scope x := F.sc ▸ loc_of h
theorem Fit.gl (F : Fit P g T X) {x : Str} (h : glB P.sc x = true) : Gl X x := by
  unfold Gl Env.kindOf
  rw [F.sc]
  unfold glB at h
  simpa using h
theorem Fit.at_ (F : Fit P g T X) {i : Nat} {x : Str} (h : P.N[i]? = some x) : X.N[i]? = some x := by rw [F.nn]; exact h
theorem Fit.nod (F : Fit P g T X) : X.N.Nodup := by rw [F.nn]; exact F.nd
theorem star_cons {a : Expr} {es : List Expr} {env : Env} (h : noStar a = true) : starEach (a :: es) env = (false, eval a env) :: starEach es env := by
  cases a <;> first | rfl | exact absurd h Bool.false_ne_true
theorem star_one {a : Expr} {env : Env} (h : noStar a = true) : starEach [a] env = [(false, eval a env)] := star_cons h
theorem any_star {env : Env} {pos : Pos} : ∀ {es : List Expr}, es.all noStar = true → (backTo pos (starEach es env)).any (·.1) = false
  | [], _ => rfl
  | a :: es, h => by
    simp only [List.all_cons, Bool.and_eq_true] at h
    rw [star_cons h.1]
    show (false || (backTo pos (starEach es env)).any (·.1)) = false
    rw [any_star h.2]; rfl
theorem slice_of {a : Expr} (h : noSlice a = true) : PlainIx a := by
  intro o i
  cases a <;> first | rfl | exact absurd h Bool.false_ne_true
theorem set_of {a : Expr} {env : Env} (h : noSet a = true) : ∀ x, foldedSetIterable a env x = pure x := by
  intro x
  cases a <;> first | rfl | exact absurd h Bool.false_ne_true
theorem base_of {o : Expr} {m : Str} {env : Env} (h : plainBase o = true) : attributeBase o m env (eval o env) = eval o env := by
  unfold attributeBase
  split
  · cases h
  · rfl
theorem true_of {a : Expr} {env : Env} (h : (match a with
    | .UnaryOp .Not _ _ => false
    | .BoolOp .. => false
    | .IfExp .. => false
    | _ => true) = true) (hc : ∀ x os cs p, a ≠ .Compare x os cs p) : ∀ whole, isTrue a env whole = (do let v ← whole; standAt a.pos; holding [v] (truthy v)) := by
  intro whole
  cases a with
  | UnaryOp o x p => cases o <;> first | rfl | cases h
  | BoolOp => cases h
  | IfExp => cases h
  | Compare x os cs p => exact absurd rfl (hc x os cs p)
  | _ => rfl
theorem evEs_len {T : Tx} : ∀ (es : Exs) (P : Pm) (xs : List Expr) (lv : Lv) (s : Sto) (vs : List Val) (s' : Sto), chkEs es P xs = true → evEs T es lv s = some (vs, s') → vs.length = xs.length
  | .nil, P, xs, lv, s, vs, s', h, ev => by
    obtain ⟨e1, _⟩ := rt_inv (show rt [] s = some (vs, s') from ev)
    subst e1
    cases xs with
    | nil => rfl
    | cons _ _ => cases h
  | .cons a es, P, xs, lv, s, vs, s', h, ev => by
    cases xs with
    | nil => cases h
    | cons y ys =>
      have h : (noStar y && chkE a P y && chkEs es P ys) = true := h
      simp only [Bool.and_eq_true] at h
      obtain ⟨v, s1, _, ev⟩ := bd_inv (show bd (evE T a lv) (fun v => bd (evEs T es lv) fun vs => rt (v :: vs)) s = some (vs, s') from ev)
      obtain ⟨us, s2, e2, ev⟩ := bd_inv ev
      obtain ⟨e3, _⟩ := rt_inv ev
      subst e3
      simp [evEs_len es P ys lv s1 us s2 h.2 e2]
theorem chkEs_star : ∀ (es : Exs) (P : Pm) (xs : List Expr), chkEs es P xs = true → xs.all noStar = true
  | .nil, P, xs, h => by
    cases xs with
    | nil => rfl
    | cons _ _ => cases h
  | .cons a es, P, xs, h => by
    cases xs with
    | nil => cases h
    | cons y ys =>
      have h : (noStar y && chkE a P y && chkEs es P ys) = true := h
      simp only [Bool.and_eq_true] at h
      simp [h.1.1, chkEs_star es P ys h.2]
theorem blt_of {x : Str} {n : String} (h : bltB P x n = true) : x = Str.ofString n ∧ glB P.sc x = true := by
  unfold bltB at h
  rw [Bool.and_eq_true] at h
  simpa using h.2
theorem blt_nh {x : Str} {n : String} (h : bltB P x n = true) : nh P = true := by
  unfold bltB at h
  rw [Bool.and_eq_true] at h
  exact h.1
theorem blkP_ok {scope : Scope} {own : List Nat} (h : blkP P scope own = true) : blkC P.N P.sc scope (ownP P.N own) = true := by
  unfold blkP at h
  rw [Bool.and_eq_true] at h
  exact h.2
theorem blkP_nh {scope : Scope} {own : List Nat} (h : blkP P scope own = true) : nh P = true := by
  unfold blkP at h
  rw [Bool.and_eq_true] at h
  exact h.1
theorem isFn_fun (h : isFn P = true) : isFun P = true := by
  unfold isFn at h
  rw [Bool.and_eq_true] at h
  exact h.2
theorem isFn_nh (h : isFn P = true) : nh P = true := by
  unfold isFn at h
  rw [Bool.and_eq_true] at h
  exact h.1
theorem Fit.cc (F : Fit P g T X) (h : nh P = true) : Cn X := { F.cn with calm := F.cal h }
theorem ownP_snd (N : List Str) (own : List Nat) : (ownP N own).map (·.2) = own := by
  unfold ownP
  rw [List.map_map]
  exact List.map_id _
/-! ### targets -/
theorem asgTs_len : ∀ (ts : Tgs) (P : Pm) (ys : List Expr), chkGs P ts ys = true → ∀ ds e e1, asgTs ts ds e = some e1 → ds.length = ys.length
  | .nil, P, ys, h, ds, e, e1, ha => by
    cases ys with
    | cons _ _ => cases h
    | nil => cases ds with
      | nil => rfl
      | cons _ _ => cases ha
  | .cons t ts, P, ys, h, ds, e, e1, ha => by
    cases ys with
    | nil => cases h
    | cons y ys =>
      have h : (noStar y && chkG P t y && chkGs P ts ys) = true := h
      simp only [Bool.and_eq_true] at h
      cases ds with
      | nil => cases ha
      | cons d ds =>
        obtain ⟨e2, _, h4⟩ := Option.bind_eq_some_iff.mp (show (asgT t (.d d) e).bind (fun e1 => asgTs ts ds e1) = some e1 from ha)
        simp [asgTs_len ts P ys h.2 ds e2 e1 h4]
theorem assign_snd {y : Expr} {ys : List Expr} {env : Env} : (assignEach (y :: ys) env).map (·.2) = (match y with | .Starred t _ => assign t env | _ => assign y env) :: (assignEach ys env).map (·.2) := by
  cases y <;> rfl
theorem assign_snd' {y : Expr} {ys : List Expr} {env : Env} (h : noStar y = true) : (assignEach (y :: ys) env).map (·.2) = assign y env :: (assignEach ys env).map (·.2) := by
  cases y <;> first | rfl | exact absurd h Bool.false_ne_true
theorem assign_len {env : Env} : ∀ {ys : List Expr}, (assignEach ys env).length = ys.length
  | [] => rfl
  | y :: ys => by
    have ih := assign_len (env := env) (ys := ys)
    cases y <;> (show (assignEach ys env).length + 1 = ys.length + 1; rw [ih])
theorem assign_find {env : Env} : ∀ {ys : List Expr}, ys.all noStar = true → (assignEach ys env).findIdx? (·.1) = none
  | [], _ => rfl
  | y :: ys, h => by
    simp only [List.all_cons, Bool.and_eq_true] at h
    have ih := assign_find (env := env) h.2
    have e : assignEach (y :: ys) env = (false, assign y env) :: assignEach ys env := by
      cases y <;> first | rfl | exact absurd h.1 Bool.false_ne_true
    rw [e, List.findIdx?_cons]
    simp [ih]
theorem chkGs_star : ∀ (ts : Tgs) (P : Pm) (ys : List Expr), chkGs P ts ys = true → ys.all noStar = true
  | .nil, P, xs, h => by
    cases xs with
    | nil => rfl
    | cons _ _ => cases h
  | .cons a es, P, xs, h => by
    cases xs with
    | nil => cases h
    | cons y ys =>
      have h : (noStar y && chkG P a y && chkGs P es ys) = true := h
      simp only [Bool.and_eq_true] at h
      simp [h.1.1, chkGs_star es P ys h.2]
mutual
theorem okG {g : Gx} {T : Tx} {w0 : Wd} {H0 : Hp} : ∀ (t : Tg) {P : Pm} {X : Cx} {x : Expr}, Fit P g T X → chkG P t x = true → PG X x (tG X.K w0 H0 t)
  | .nm i, P, X, x, F, h => by
    cases x with
    | Name y p =>
      have h : (decide (P.N[i]? = some y) && locB P.sc y && (P.fnB y || decide (P.sc.names.lookup y = some .local))) = true := h
      simp only [Bool.and_eq_true, Bool.or_eq_true, decide_eq_true_eq] at h
      obtain ⟨⟨h1, h2⟩, h3⟩ := h
      refine g_name F.nod (F.at_ h1) (F.loc h2) ?_
      rcases h3 with h3 | h3
      · exact .inl (F.fn _ h3)
      · exact .inr (by rw [F.sc]; exact h3)
    | _ => cases h
  | .tp ts, P, X, x, F, h => by
    cases x with
    | Tuple ys k p =>
      have h : (nh P && chkGs P ts ys) = true := h
      rw [Bool.and_eq_true] at h
      exact g_tup (F.cal h.1) (okGs ts F h.2) (asgTs_len ts P ys h.2) assign_len (assign_find (chkGs_star ts P ys h.2))
    | _ => cases h
theorem okGs {g : Gx} {T : Tx} {w0 : Wd} {H0 : Hp} : ∀ (ts : Tgs) {P : Pm} {X : Cx} {xs : List Expr}, Fit P g T X → chkGs P ts xs = true → PGs X xs (tGs X.K w0 H0 ts)
  | .nil, P, X, xs, F, h => by
    cases xs with
    | nil => exact gs_nil
    | cons _ _ => cases h
  | .cons t ts, P, X, xs, F, h => by
    cases xs with
    | nil => cases h
    | cons y ys =>
      have h : (noStar y && chkG P t y && chkGs P ts ys) = true := h
      simp only [Bool.and_eq_true] at h
      exact gs_cons (okG t F h.1.2) (okGs ts F h.2) (assign_snd' h.1.1)
end
/-! ### built-in names -/
theorem Fit.b1 (F : Fit P g T X) {f : B1} {y : Str} {z : Expr} {p pos : Pos} {t : TE} (hf : b1S f = true) (hb : bltB P y (b1N f) = true) (hz : PE X z t) (hs : noStar z = true) : PE X (.Call (.Name y p) [z] [] pos) (tCB (semC X (b1F f)) (tCons t tNil)) := by
  obtain ⟨e, hg⟩ := blt_of hb
  subst e
  have hm : ∀ n ∈ blNames, X.mg (Str.ofString n) = none := F.bl
  have hg := F.gl hg
  have ha : PA X [z] (tCons t tNil) := pa_cons hz pa_nil (star_cons hs)
  cases f <;> first
    | exact absurd hf Bool.false_ne_true
    | exact pe_callB (call_sem _) hg (hm _ (by decide)) (by decide +kernel) ha (by decide) (by decide) (star_cons hs) rfl
    | exact pe_callTy (call_sem _) hg (hm _ (by decide)) (by decide +kernel) ha (by decide) (by decide) (star_cons hs) rfl
theorem Fit.ss (F : Fit P g T X) {y u : Str} {z : Expr} {p p2 p3 pos : Pos} {t : TE} (hb : bltB P y "sorted" = true) (hu : bltB P u "set" = true) (hz : PE X z t) (hs : noStar z = true) :
    PE X (.Call (.Name y p) [.Call (.Name u p2) [z] [] p3] [] pos) (tCB (semC X (.builtin "sorted")) (tCons (tCB (semC X (.type "set")) (tCons t tNil)) tNil)) := by
  obtain ⟨e, hg⟩ := blt_of hb
  subst e
  obtain ⟨e, hgu⟩ := blt_of hu
  subst e
  have hm : ∀ n ∈ blNames, X.mg (Str.ofString n) = none := F.bl
  have hg := F.gl hg
  have hgu := F.gl hgu
  have ha : PA X [z] (tCons t tNil) := pa_cons hz pa_nil (star_cons hs)
  exact pe_callB (call_sem _) hg (hm _ (by decide)) (by decide +kernel) (pa_cons (pe_callTy (call_sem _) hgu (hm _ (by decide)) (by decide +kernel) ha (by decide) (by decide) (star_cons hs) rfl) pa_nil rfl) (by decide) (by decide) rfl rfl
theorem Fit.b2 (F : Fit P g T X) {f : B2} {y : Str} {z u : Expr} {p pos : Pos} {t t' : TE} (hb : bltB P y (b2N f) = true) (hz : PE X z t) (hu : PE X u t') (hs : noStar z = true) (hs' : noStar u = true) :
    PE X (.Call (.Name y p) [z, u] [] pos) (tCB (semC X (b2F f)) (tCons t (tCons t' tNil))) := by
  obtain ⟨e, hg⟩ := blt_of hb
  subst e
  have hm : ∀ n ∈ blNames, X.mg (Str.ofString n) = none := F.bl
  have hg := F.gl hg
  have ha : PA X [z, u] (tCons t (tCons t' tNil)) := pa_cons hz (pa_cons hu pa_nil (star_cons hs')) (star_cons hs)
  cases f <;> exact pe_callB (call_sem _) hg (hm _ (by decide)) (by decide +kernel) ha (by decide) (by decide) (star_cons hs) (any_star (by simp [hs']))
theorem Fit.isi (F : Fit P g T X) {ty : Ty} {y u : Str} {z : Expr} {p pos pu : Pos} {t : TE} (hb : bltB P y "isinstance" = true) (hu : bltB P u (tyN ty) = true) (hz : PE X z t) (hs : noStar z = true) :
    PE X (.Call (.Name y p) [z, .Name u pu] [] pos) (tCB (semC X (.builtin "isinstance")) (tCons t (tCons (tC (.ty (tyN ty))) tNil))) := by
  obtain ⟨e, hg⟩ := blt_of hb
  subst e
  obtain ⟨e, hgu⟩ := blt_of hu
  subst e
  have hm : ∀ n ∈ blNames, X.mg (Str.ofString n) = none := F.bl
  have hg := F.gl hg
  have hgu := F.gl hgu
  have ht : PE X (.Name (Str.ofString (tyN ty)) pu) (tC (.ty (tyN ty))) := by
    cases ty <;> exact pe_bltn hgu (hm _ (by decide)) (by decide +kernel) rfl (by decide) (by decide)
  exact pe_callB (call_sem _) hg (hm _ (by decide)) (by decide +kernel) (pa_cons hz (pa_cons ht pa_nil rfl) (star_cons hs)) (by decide) (by decide) (star_cons hs) rfl
end
end Ev

/-! expressions that pass the look are what the evaluator says -/
namespace Ev
open PySem PySem.Spec PyProof.Rows L2 LamX
theorem lit_ok {X : Cx} {d : PyData} {c : Const} {k : Nat} {pos : Pos} {w0 : Wd} {H0 : Hp} (h : litB d c = true) : PE X (.Constant c k pos) (tE X.K w0 H0 fun _ => rt (.d d)) := by
  unfold litB at h
  split at h
  · exact e_con pe_non fun F => rp_none
  · rename_i a b
    cases (of_decide_eq_true h)
    exact e_con pe_bl fun F => rp_bool
  · rename_i a b
    cases (of_decide_eq_true h)
    exact e_con pe_int fun F => rp_int
  · rename_i a b
    cases (of_decide_eq_true h)
    exact e_con pe_str fun F => rp_str
  · cases h
theorem setI : ∀ (it : Ix) {P : Pm} {t x : Expr}, chkI it P t x = true → ∀ (env : Env) (u : Value), foldedSetIterable x env u = pure u
  | .seq a, P, t, x, h, env => by
    have h : (chkE a P x && noSet x) = true := h
    rw [Bool.and_eq_true] at h
    exact set_of h.2
  | .rng1 a, P, t, x, h, env => by
    have h : (match (generalizing := false) x with
      | .Call (.Name y _) [z] [] _ => bltB P y "range" && chkE a P z && noStar z
      | _ => false) = true := h
    split at h
    · exact fun _ => rfl
    · cases h
  | .rng2 a b, P, t, x, h, env => by
    have h : (match (generalizing := false) x with
      | .Call (.Name y _) [z, u] [] _ => bltB P y "range" && chkE a P z && chkE b P u && noStar z && noStar u
      | _ => false) = true := h
    split at h
    · exact fun _ => rfl
    · cases h
  | .enum a, P, t, x, h, env => by
    have h : (match (generalizing := false) t, x with
      | .Tuple .., .Call (.Name y _) [z] [] _ => bltB P y "enumerate" && chkE a P z && noStar z
      | _, _ => false) = true := h
    split at h
    · exact fun _ => rfl
    · cases h
  | .zip st a b, P, t, x, h, env => by
    have h : (match (generalizing := false) t, x with
      | .Tuple .., .Call (.Name y _) [z, u] [] _ => !st && bltB P y "zip" && chkE a P z && chkE b P u && noStar z && noStar u
      | _, _ => false) = true := h
    split at h
    · exact fun _ => rfl
    · cases h
  | .ezip a b, P, t, x, h, env => by
    have h : (match (generalizing := false) t, x with
      | .Tuple .., .Call (.Name v _) [.Call (.Name y _) [z, u] [] _] [] _ => bltB P v "enumerate" && bltB P y "zip" && chkE a P z && chkE b P u && noStar z && noStar u
      | _, _ => false) = true := h
    split at h
    · exact fun _ => rfl
    · cases h
theorem noArgs_eq {a : Arguments} (h : noArgs a = true) : a = ⟨[], [], none, [], [], none, []⟩ := by
  unfold noArgs at h
  obtain ⟨a1, a2, a3, a4, a5, a6, a7⟩ := a
  simp only [Bool.and_eq_true, List.isEmpty_iff, Option.isNone_iff_eq_none] at h
  obtain ⟨⟨⟨⟨⟨⟨rfl, rfl⟩, rfl⟩, rfl⟩, rfl⟩, rfl⟩, rfl⟩ := h
  rfl
theorem noArgs_def {a : Arguments} {env : Env} (h : noArgs a = true) : defaultsOf a env = ([], []) := by
  rw [noArgs_eq h]; rfl
theorem noArgs_bind {a : Arguments} {body : Expr} {scope : Scope} (h : noArgs a = true) (q : Str) (cl : List (Str × Addr)) (pm cv ctv : Value) : bindArgs (PySem.W.kla_fn "<lambda>" q a body scope cl pm cv ctv) ⟨[], []⟩ = pure [] := by
  rw [noArgs_eq h]; rfl
section
variable {T : Tx} {g : Gx} {w0 : Wd} {H0 : Hp} (hw : w0.nu = []) (hT : W0 g w0 H0)
include hw hT
mutual
theorem okE : ∀ (a : Ex) {P : Pm} {X : Cx} {x : Expr}, Fit P g T X → chkE a P x = true → PE X x (tE X.K w0 H0 (evE T a))
  | .var i, P, X, x, F, h => by
    have h : (match (generalizing := false) x with
      | .Name y _ => decide (P.N[i]? = some y) && visB P.sc y && !(y == ("__debug__" : Str)) && !(y == ("__classdict__" : Str))
      | _ => false) = true := h
    split at h
    · simp only [Bool.and_eq_true, decide_eq_true_eq, Bool.not_eq_true'] at h
      obtain ⟨⟨⟨h1, h2⟩, h3⟩, h4⟩ := h
      exact e_var (F.at_ h1) (F.vis h2) h3 h4
    · cases h
  | .lit d, P, X, x, F, h => by
    have h : (match (generalizing := false) x with
      | .Constant c _ _ => litB d c
      | _ => false) = true := h
    split at h
    · exact lit_ok h
    · cases h
  | .glo k, P, X, x, F, h => by
    have h : (match (generalizing := false) x with
      | .Name y _ => decide (P.cn[k]? = some y) && glB P.sc y && !(y == ("__debug__" : Str))
      | _ => false) = true := h
    split at h
    · simp only [Bool.and_eq_true, decide_eq_true_eq, Bool.not_eq_true'] at h
      obtain ⟨⟨h1, h2⟩, h3⟩ := h
      obtain ⟨u, v, hm, r, hd⟩ := F.cs k _ h1
      refine pe_imp (pe_glob (F.gl h2) hm r h3) fun σ H Q q => ?_
      obtain ⟨w, e, s, z, s', R, ev, kk⟩ := q
      obtain ⟨d, e1, e2, e3⟩ := of_map (show ofO ((T.cs k).map Val.d) s = some (z, s') from ev)
      subst e2 e3
      exact kk w v H R .refl (hd d e1 w.F)
    · cases h
  | .bin o a b, P, X, x, F, h => by
    have h : (match (generalizing := false) x with
      | .BinOp y p z _ => decide (p = o) && chkE a P y && chkE b P z
      | _ => false) = true := h
    split at h
    · simp only [Bool.and_eq_true, decide_eq_true_eq] at h
      obtain ⟨⟨h1, h2⟩, h3⟩ := h
      subst h1
      exact e_bin F.cn (okE a F h2) (okE b F h3)
    · cases h
  | .neg a, P, X, x, F, h => by
    have h : (match (generalizing := false) x with
      | .UnaryOp .USub y _ => chkE a P y
      | _ => false) = true := h
    split at h
    · exact e_neg (okE a F h)
    · cases h
  | .cmp o a b, P, X, x, F, h => by
    have h : (match (generalizing := false) x with
      | .Compare y [p] [z] _ => decide (p = o) && chkE a P y && chkE b P z && !(behindInMarks o z)
      | _ => false) = true := h
    split at h
    · simp only [Bool.and_eq_true, decide_eq_true_eq, Bool.not_eq_true'] at h
      obtain ⟨⟨⟨h1, h2⟩, h3⟩, h4⟩ := h
      subst h1
      exact e_cmp F.cn (okE a F h2) (okE b F h3) h4
    · cases h
  | .chn o1 o2 a b c, P, X, x, F, h => by
    have h : (match (generalizing := false) x with
      | .Compare y [p, q] [z, u] _ => decide (p = o1) && decide (q = o2) && chkE a P y && chkE b P z && chkE c P u && !(lastMarks [o1, o2] [z, u])
      | _ => false) = true := h
    split at h
    · simp only [Bool.and_eq_true, decide_eq_true_eq, Bool.not_eq_true'] at h
      obtain ⟨⟨⟨⟨⟨h1, h2⟩, h3⟩, h4⟩, h5⟩, h6⟩ := h
      subst h1 h2
      exact e_chn F.cn (okE a F h3) (okE b F h4) (okE c F h5) h6
    · cases h
  | .and es, P, X, x, F, h => by
    have h : (match (generalizing := false) x with
      | .BoolOp .And ys _ => chkB es P ys
      | _ => false) = true := h
    split at h
    · exact okA es F h
    · cases h
  | .or es, P, X, x, F, h => by
    have h : (match (generalizing := false) x with
      | .BoolOp .Or ys _ => chkB es P ys
      | _ => false) = true := h
    split at h
    · exact okO es F h
    · cases h
  | .not a, P, X, x, F, h => by
    have h : (match (generalizing := false) x with
      | .UnaryOp .Not y _ => chkE a P y
      | _ => false) = true := h
    split at h
    · exact e_not (okE a F h)
    · cases h
  | .ife c a b, P, X, x, F, h => by
    have h : (match (generalizing := false) x with
      | .IfExp t y z _ => chkT c P t && chkE a P y && chkE b P z
      | _ => false) = true := h
    split at h
    · simp only [Bool.and_eq_true] at h
      exact e_ife (okT c F h.1.1) (okE a F h.1.2) (okE b F h.2)
    · cases h
  | .tup es, P, X, x, F, h => by
    have h : (match (generalizing := false) x with
      | .Tuple ys _ _ => chkEs es P ys
      | _ => false) = true := h
    split at h
    · exact e_tup hw (okEs es F h)
    · cases h
  | .lst w es, P, X, x, F, h => by
    have h : (match (generalizing := false) x with
      | .List ys _ => chkEs es P ys
      | _ => false) = true := h
    split at h
    · exact e_lst hw (okEs es F h)
    · cases h
  | .dct0, P, X, x, F, h => by
    have h : (match (generalizing := false) x with
      | .Dict [] [] _ => true
      | _ => false) = true := h
    split at h
    · exact e_dct0
    · cases h
  | .idx a b, P, X, x, F, h => by
    have h : (match (generalizing := false) x with
      | .Subscript y z _ => chkE a P y && chkE b P z && noSlice z
      | _ => false) = true := h
    split at h
    · simp only [Bool.and_eq_true] at h
      exact e_idx F.cn (okE a F h.1.1) (okE b F h.1.2) (slice_of h.2)
    · cases h
  | .slc a lo hi, P, X, x, F, h => by
    have h : (match (generalizing := false) x with
      | .Subscript y (.Slice l h none _) _ => chkE a P y && chkP lo P l && chkP hi P h
      | _ => false) = true := h
    split at h
    · simp only [Bool.and_eq_true] at h
      exact e_slc (okE a F h.1.1) (okP lo F h.1.2) (okP hi F h.2)
    · cases h
  | .rev a, P, X, x, F, h => by
    have h : (match (generalizing := false) x with
      | .Subscript y (.Slice none none (some s) _) _ => chkE a P y && isMinus1 s
      | _ => false) = true := h
    split at h
    · simp only [Bool.and_eq_true] at h
      obtain ⟨h1, h2⟩ := h
      unfold isMinus1 at h2
      split at h2
      · cases (of_decide_eq_true h2)
        exact e_rev (okE a F h1)
      · cases h2
    · cases h
  | .call f es, P, X, x, F, h => by
    have h : (match (generalizing := false) x with
      | .Call (.Name y _) (z :: zs) [] _ => decide (P.fs[f]? = some (y, (z :: zs).length)) && glB P.sc y && !(y == ("__debug__" : Str)) && chkEs es P (z :: zs)
      | _ => false) = true := h
    split at h
    · simp only [Bool.and_eq_true, decide_eq_true_eq, Bool.not_eq_true'] at h
      obtain ⟨⟨⟨h1, h2⟩, h3⟩, h4⟩ := h
      obtain ⟨k, c, r, _⟩ := F.fs f _ _ h1
      have hst := chkEs_star es P _ h4
      simp only [List.all_cons, Bool.and_eq_true] at hst
      exact e_call hw hT (fun lv s vs s' ev => evEs_len es P _ lv s vs s' h4 ev) (e_cal c F.cn.gd r (Nat.le_add_right k 2) (F.gl h2) (okEs es F h4) h3 (star_cons hst.1) (any_star hst.2))
    · cases h
  | .b1 f a, P, X, x, F, h => by
    have h : (match (generalizing := false) x with
      | .Call (.Name y _) [z] [] _ => b1S f && bltB P y (b1N f) && chkE a P z && noStar z
      | _ => false) = true := h
    split at h
    · simp only [Bool.and_eq_true] at h
      exact e_b1 (F.cc (blt_nh h.1.1.2)) (F.b1 h.1.1.1 h.1.1.2 (okE a F h.1.2) h.2)
    · cases h
  | .ss a, P, X, x, F, h => by
    have h : (match (generalizing := false) x with
      | .Call (.Name y _) [.Call (.Name z _) [u] [] _] [] _ => bltB P y "sorted" && bltB P z "set" && chkE a P u && noStar u
      | _ => false) = true := h
    split at h
    · simp only [Bool.and_eq_true] at h
      exact e_ss (F.cc (blt_nh h.1.1.1)) (F.ss h.1.1.1 h.1.1.2 (okE a F h.1.2) h.2)
    · cases h
  | .b2 f a b, P, X, x, F, h => by
    have h : (match (generalizing := false) x with
      | .Call (.Name y _) [z, u] [] _ => bltB P y (b2N f) && chkE a P z && chkE b P u && noStar z && noStar u
      | _ => false) = true := h
    split at h
    · simp only [Bool.and_eq_true] at h
      exact e_b2 (F.cc (blt_nh h.1.1.1.1)) (F.b2 h.1.1.1.1 (okE a F h.1.1.1.2) (okE b F h.1.1.2) h.1.2 h.2)
    · cases h
  | .isi a t, P, X, x, F, h => by
    have h : (match (generalizing := false) x with
      | .Call (.Name y _) [z, .Name u _] [] _ => bltB P y "isinstance" && bltB P u (tyN t) && chkE a P z && noStar z
      | _ => false) = true := h
    split at h
    · simp only [Bool.and_eq_true] at h
      exact e_isi (F.isi h.1.1.1 h.1.1.2 (okE a F h.1.2) h.2)
    · cases h
  | .get d k y, P, X, x, F, h => by
    have h : (match (generalizing := false) x with
      | .Call (.Attribute o m ap) [z, u] [] cp => decide (m = Str.ofString "get") && (ap.endLine == cp.line) && plainBase o && chkE d P o && chkE k P z && chkE y P u && noStar z && noStar u
      | _ => false) = true := h
    split at h
    · simp only [Bool.and_eq_true, decide_eq_true_eq] at h
      obtain ⟨⟨⟨⟨⟨⟨⟨h1, h2⟩, h3⟩, h4⟩, h5⟩, h6⟩, h7⟩, h8⟩ := h
      subst h1
      refine e_get F.cn hw (pe_dget2 (room1 F.cn) (okE d F h4) (okE k F h5) (okE y F h6) ⟨base_of h3, ?_, h2, ?_⟩)
      · rw [star_cons h7, star_cons h8]; rfl
      · rw [star_cons h7, star_cons h8]; rfl
    · cases h
  | .app o a, P, X, x, F, h => by
    have h : (match (generalizing := false) x with
      | .Call (.Attribute p m ap) [z] [] cp => decide (m = Str.ofString "append") && (ap.endLine == cp.line) && plainBase p && chkE o P p && chkE a P z && noStar z
      | _ => false) = true := h
    split at h
    · simp only [Bool.and_eq_true, decide_eq_true_eq] at h
      obtain ⟨⟨⟨⟨⟨h1, h2⟩, h3⟩, h4⟩, h5⟩, h6⟩ := h
      subst h1
      refine e_app F.cn hw (pe_bm PySem.F.plainAttrs_list PySem.F.slot_list_append PySem.F.type_list_append (mt_sem _) (okE o F h4) (pa_cons (okE a F h5) pa_nil (star_cons h6)) (base_of h3) ?_ h2 (star_cons h6) rfl)
      rw [star_cons h6]; rfl
    · cases h
  | .comp w elt tg it cd own, P, X, x, F, h => by
    have h : (match (generalizing := false) x with
      | .ListComp y [⟨t, i, ifs, z⟩] scope _ => decide (z = 0) && blkP P scope own && chkI it P t i && tgIn tg own && chkG (P.blk scope) tg t && chkC cd (P.blk scope) ifs && chkE elt (P.blk scope) y
      | _ => false) = true := h
    split at h
    · rename_i pos' hx
      simp only [Bool.and_eq_true, decide_eq_true_eq] at h
      obtain ⟨⟨⟨⟨⟨⟨h1, h2⟩, h3⟩, h4⟩, h5⟩, h6⟩, h7⟩ := h
      subst h1
      obtain ⟨hi, hs⟩ := okI it F h3
      have e := ownP_snd P.N own
      have q := e_comp (pos := pos') (wh := w) (w0 := w0) (H0 := H0) (tgt := tg) (own := ownP P.N own) hw (F.cal (blkP_nh h2)) F.nod hi (by rw [F.nn, F.sc]; exact blkOk_by (blkP_ok h2)) (fun s H C cl fp => okG tg F.blk h5) (fun s H C cl fp => okC cd F.blk h6) (fun s H C cl fp => okE elt F.blk h7) hs (by rw [e]; exact h4)
      rw [e] at q
      exact q
    · cases h
  | .compi w elt tg src cd own, P, X, x, F, h => by
    have h : (match (generalizing := false) x with
      | .ListComp y [⟨t, i, ifs, z⟩] scope _ => decide (z = 0) && blkP P scope own && chkE src P i && noSet i && tgIn tg own && chkG (P.blk scope) tg t && chkC cd (P.blk scope) ifs && chkE elt (P.blk scope) y
      | _ => false) = true := h
    split at h
    · rename_i pos' hx
      simp only [Bool.and_eq_true, decide_eq_true_eq] at h
      obtain ⟨⟨⟨⟨⟨⟨⟨h1, h2⟩, h3⟩, h3'⟩, h4⟩, h5⟩, h6⟩, h7⟩ := h
      subst h1
      have e := ownP_snd P.N own
      have q := e_compi (pos := pos') (wh := w) (w0 := w0) (H0 := H0) (tgt := tg) (own := ownP P.N own) hw (F.cal (blkP_nh h2)) F.nod (okE src F h3) (by rw [F.nn, F.sc]; exact blkOk_by (blkP_ok h2)) (fun s H C cl fp => okG tg F.blk h5) (fun s H C cl fp => okC cd F.blk h6) (fun s H C cl fp => okE elt F.blk h7) (set_of h3') (by rw [e]; exact h4)
      rw [e] at q
      exact q
    · cases h
  | .ssc elt tg it cd own, P, X, x, F, h => by
    have h : (match (generalizing := false) x with
      | .Call (.Name z _) [.SetComp y [⟨t, i, ifs, n⟩] scope _] [] _ => bltB P z "sorted" && decide (n = 0) && blkP P scope own && chkI it P t i && tgIn tg own && chkG (P.blk scope) tg t && chkC cd (P.blk scope) ifs && chkE elt (P.blk scope) y
      | _ => false) = true := h
    split at h
    · simp only [Bool.and_eq_true, decide_eq_true_eq] at h
      obtain ⟨⟨⟨⟨⟨⟨⟨h0, h1⟩, h2⟩, h3⟩, h4⟩, h5⟩, h6⟩, h7⟩ := h
      subst h1
      obtain ⟨ez, hg⟩ := blt_of h0
      subst ez
      obtain ⟨hi, hs⟩ := okI it F h3
      have e := ownP_snd P.N own
      refine e_ssc hw h4 (F.cc (blkP_nh h2)) (pe_callB (call_sem _) (F.gl hg) (F.bl _ (by decide)) ?bb (pa_cons ?qq pa_nil rfl))
      case qq =>
        have q := fun ps => pe_si (pos := ps) (g := tG X.K w0 H0 tg) (tt := tT X.K w0 H0 (evC T cd)) (te := tE X.K w0 H0 (evE T elt)) (own := ownP P.N own) (F.cal (blkP_nh h2)) F.nod hi (by rw [F.nn, F.sc]; exact blkOk_by (blkP_ok h2)) (fun s H C cl fp => okG (w0 := w0) (H0 := H0) tg F.blk h5) (fun s H C cl fp => okC cd F.blk h6) (fun s H C cl fp => okE elt F.blk h7) hs
        simp only [e] at q
        exact q _
      all_goals rfl
    · cases h
  | .comp2 w elt tg it tg1 it1 cd1 own own1, P, X, x, F, h => by
    have h : (match (generalizing := false) x with
      | .ListComp y [⟨t, i, [], z⟩, ⟨t1, i1, ifs1, z1⟩] scope _ => decide (z = 0) && decide (z1 = 0) && blkP P scope own && chkI it P t i && tgIn tg own && tgIn tg1 own1 && own1.all (own.contains ·) && chkG (P.blk scope) tg t && chkI it1 (P.blk scope) t1 i1 && chkG (P.blk scope) tg1 t1 && chkC cd1 (P.blk scope) ifs1 && chkE elt (P.blk scope) y
      | _ => false) = true := h
    split at h
    · rename_i pos' hx
      simp only [Bool.and_eq_true, decide_eq_true_eq] at h
      obtain ⟨⟨⟨⟨⟨⟨⟨⟨⟨⟨⟨h1, h1'⟩, h2⟩, h3⟩, h4⟩, h4'⟩, hv⟩, h5⟩, h6⟩, h7⟩, h8⟩, h9⟩ := h
      subst h1 h1'
      obtain ⟨hi, hs⟩ := okI it F h3
      have e := ownP_snd P.N own
      have hv2 : ∀ i ∈ own1, i ∈ (ownP P.N own).map (·.2) := fun i hi => by
        rw [e]
        have := List.all_eq_true.mp hv i hi
        simpa using this
      have q := pe_lc2 (pos := pos') (g := tG X.K w0 H0 tg) (tt := tT X.K w0 H0 fun _ => rt true) (wi1 := tI X.K w0 H0 (evI T it1)) (g1 := tG X.K w0 H0 tg1) (tt1 := tT X.K w0 H0 (evC T cd1)) (te := tE X.K w0 H0 (evE T elt)) (own := ownP P.N own) (vs1 := own1) (F.cal (blkP_nh h2)) F.nod hi (by rw [F.nn, F.sc]; exact blkOk_by (blkP_ok h2)) hv2 (fun s H C cl fp => okG tg F.blk h5) (fun s H C cl fp => c_none (w0 := w0) (H0 := H0)) (fun s H C cl fp => (okI it1 F.blk h6).1) (fun s H C cl fp => okG tg1 F.blk h7) (fun s H C cl fp => okC cd1 F.blk h8) (fun s H C cl fp => okE elt F.blk h9) hs (setI it1 h6)
      rw [e] at q
      exact pe_imp q fun σ H Q hq => lc2_imp hw h4 h4' hq
    · cases h
  | .binl w o a b, P, X, x, F, h => by
    have h : (match (generalizing := false) x with
      | .BinOp y p z _ => decide (p = o) && chkE a P y && chkE b P z
      | _ => false) = true := h
    split at h
    · simp only [Bool.and_eq_true, decide_eq_true_eq] at h
      obtain ⟨⟨h1, h2⟩, h3⟩ := h
      subst h1
      exact e_binl F.cn hw (okE a F h2) (okE b F h3)
    · cases h
  | .dcomp k v tg it cd own, P, X, x, F, h => by
    have h : (match (generalizing := false) x with
      | .DictComp y u [⟨t, i, ifs, z⟩] scope _ => decide (z = 0) && blkP P scope own && chkI it P t i && tgIn tg own && chkG (P.blk scope) tg t && chkC cd (P.blk scope) ifs && chkE k (P.blk scope) y && chkE v (P.blk scope) u
      | _ => false) = true := h
    split at h
    · rename_i pos' hx
      simp only [Bool.and_eq_true, decide_eq_true_eq] at h
      obtain ⟨⟨⟨⟨⟨⟨⟨h1, h2⟩, h3⟩, h4⟩, h5⟩, h6⟩, h7⟩, h8⟩ := h
      subst h1
      obtain ⟨hi, hs⟩ := okI it F h3
      have e := ownP_snd P.N own
      have q := e_dcomp (pos := pos') (w0 := w0) (H0 := H0) (tgt := tg) (own := ownP P.N own) hw (F.cal (blkP_nh h2)) F.nod hi (by rw [F.nn, F.sc]; exact blkOk_by (blkP_ok h2)) (fun s H C cl fp => okG tg F.blk h5) (fun s H C cl fp => okC cd F.blk h6) (fun s H C cl fp => okE k F.blk h7) (fun s H C cl fp => okE v F.blk h8) hs (by rw [e]; exact h4)
      rw [e] at q
      exact q
    · cases h
  | .lm f o a, P, X, x, F, h => by
    have h : (match (generalizing := false) x with
      | .Call (.Attribute p m ap) [z] [] cp => decide (m = lmN f) && (ap.endLine == cp.line) && plainBase p && chkE o P p && chkE a P z && noStar z
      | _ => false) = true := h
    split at h
    · simp only [Bool.and_eq_true, decide_eq_true_eq] at h
      obtain ⟨⟨⟨⟨⟨h1, h2⟩, h3⟩, h4⟩, h5⟩, h6⟩ := h
      cases f with
      | count =>
        have h1 := h1
        subst h1
        refine e_lm (f := .count) rfl (pe_bm PySem.F.plainAttrs_list PySem.F.slot_list_count PySem.F.type_list_count (mt_sem _) (okE o F h4) (pa_cons (okE a F h5) pa_nil (star_cons h6)) (base_of h3) ?_ h2 (star_cons h6) rfl)
        rw [star_cons h6]; rfl
      | index =>
        have h1 := h1
        subst h1
        refine e_lm (f := .index) rfl (pe_bm PySem.F.plainAttrs_list PySem.F.slot_list_index PySem.F.type_list_index (mt_sem _) (okE o F h4) (pa_cons (okE a F h5) pa_nil (star_cons h6)) (base_of h3) ?_ h2 (star_cons h6) rfl)
        rw [star_cons h6]; rfl
    · cases h
  | .dctp, P, X, x, F, h => by
    have h : (match (generalizing := false) x with
      | .Dict [] [] _ => true
      | _ => false) = true := h
    split at h
    · exact e_dctp
    · cases h
  | .isx i k, P, X, x, F, h => by
    have h : (match (generalizing := false) x with
      | .Call (.Name y _) [.Name e _, .Name c _] [] _ => decide (y = "isinstance") && decide (P.N[i]? = some e) && visB P.sc e && !(e == ("__debug__" : Str)) && !(e == ("__classdict__" : Str)) && decide (P.xk[k]? = some c)
      | _ => false) = true := h
    split at h
    · rename_i y p1 e p2 c p3 p4 _
      simp only [Bool.and_eq_true, decide_eq_true_eq, Bool.not_eq_true'] at h
      obtain ⟨⟨⟨⟨⟨h1, h2⟩, h3⟩, h4⟩, h5⟩, h6⟩ := h
      subst h1
      refine ⟨fun pins s σ H Q I h => ?_⟩
      obtain ⟨w, lv, st, v, st', R, ev, k'⟩ := h
      have ev : (match lv[i]? with
        | some (some (.e a)) => (match T.xr k [.e a] [] with
          | some (.inl (.d d), _) => some (Val.d d, st)
          | _ => none)
        | _ => none) = some (v, st') := ev
      split at ev
      · rename_i a hq
        split at ev
        · rename_i d G hr
          cases ev
          obtain ⟨v, rv, hp⟩ := F.xk k c a d _ h6 hr
          obtain ⟨x, h7, h8⟩ := R.env.at_ hq
          obtain ⟨x2, h9, h10⟩ := h8 _ rfl
          subst h9
          have h10 : x2 = V.ref a := h10
          subst h10
          exact (hp i e p1 p2 p3 p4 (F.at_ h2) (F.vis h3) h4 h5).run pins s σ H Q I ⟨h7, k' w v H R .refl (rv _)⟩
        · cases ev
      · cases ev
    · cases h
  | .sk rng a i b, P, X, x, F, h => by
    cases rng with
    | false => cases h
    | true =>
      have h : (match (generalizing := false) x with
        | .Call (.Name y _) [.Call (.Name r _) [z] [] _] [⟨some kn, .Lambda params body scope _, _⟩] _ => P.lm && bltB P y "sorted" && bltB P r "range" && noStar z && chkE a P z && decide (kn = "key") && (match P.N[i]? with
          | some x => oneArg x params && lamPB P.sc scope x
          | none => false) && chkK P.N scope b body
        | _ => false) = true := h
      split at h
      · rename_i y p1 r p2 z p3 kn params body scope p4 p5 pos
        simp only [Bool.and_eq_true, decide_eq_true_eq] at h
        obtain ⟨⟨⟨⟨⟨⟨⟨h1, h2⟩, h3⟩, h4⟩, h5⟩, h6⟩, h7⟩, h8⟩ := h
        subst h6
        split at h7
        · rename_i x0 hx0
          rw [Bool.and_eq_true] at h7
          obtain ⟨c1, g1⟩ := blt_of h2
          obtain ⟨c2, g2⟩ := blt_of h3
          have nh1 := blt_nh h2
          subst c1 c2
          have g1 := F.gl g1
          have g2 := F.gl g2
          have m1 := F.bl "sorted" (by simp [blNames])
          have m2 := F.bl "range" (by simp [blNames])
          exact e_skr (F.cc nh1) hT (F.tb h1) (F.nn ▸ F.nd) g1 m1 g2 m2 (okE a F h5) h4 (F.at_ hx0) h7.1 (lamP_by (by rw [F.sc]; exact h7.2)) (by rw [F.nn]; exact h8)
        · cases h7
      · cases h
  | .said ws f es, P, X, x, F, h => by
    have h : (match (generalizing := false) x with
      | .Call (.Name y _) [.Lambda params (.Call (.Name z _) (u :: us) [] _) scope _] [] _ => decide (P.sd = some (y, ws)) && glB P.sc y && !(y == ("__debug__" : Str)) && noArgs params && LamX.lamSB P.sc scope && decide (P.fs[f]? = some (z, (u :: us).length)) && glB scope z && !(z == ("__debug__" : Str)) && chkEs es (P.lam scope) (u :: us)
      | _ => false) = true := h
    split at h
    · rename_i y p params z pz u us pc scope lpos pos _
      simp only [Bool.and_eq_true, decide_eq_true_eq, Bool.not_eq_true'] at h
      obtain ⟨⟨⟨⟨⟨⟨⟨⟨h1, h2⟩, h3⟩, h4⟩, h5⟩, h6⟩, h7⟩, h8⟩, h9⟩ := h
      obtain ⟨k, c, r, sd⟩ := F.fs f _ _ h6
      obtain ⟨k', S, hk'⟩ := sd y ws h1
      have hst := chkEs_star es (P.lam scope) _ h9
      simp only [List.all_cons, Bool.and_eq_true] at hst
      exact e_said hw hT S F.cn.gd (F.gl h2) h3 (fun lv s vs s' ev => evEs_len es _ _ lv s vs s' h9 ev) r hk' c (of_decide_eq_true h7) h8 (lamS_by (by rw [F.sc]; exact h5)) (noArgs_def h4) (noArgs_bind h4)
        (fun A outer s H E f' c' gd hr => okEs es (P := P.lam scope) (X := lamCx X A outer s H E scope f' c') ⟨⟨(show (A.deeper _).units + 200 < cLine from by have := hr.un; omega), gd, F.cn.sm⟩, (fun _ => rfl), F.nn, F.nd, rfl, (fun x z => by cases z), F.bl, F.cs, (fun f x n z => by cases z), (fun k c a d G z => by cases z), (fun c x z => by cases z), (fun z => by cases z)⟩ h9)
        (fun env => star_cons hst.1) (fun env => any_star hst.2)
    · cases h
theorem okEs : ∀ (es : Exs) {P : Pm} {X : Cx} {xs : List Expr}, Fit P g T X → chkEs es P xs = true → PA X xs (tA X.K w0 H0 (evEs T es))
  | .nil, P, X, xs, F, h => by
    cases xs with
    | nil => exact a_nil
    | cons _ _ => cases h
  | .cons a es, P, X, xs, F, h => by
    cases xs with
    | nil => cases h
    | cons y ys =>
      have h : (noStar y && chkE a P y && chkEs es P ys) = true := h
      simp only [Bool.and_eq_true] at h
      exact a_cons (okE a F h.1.2) (okEs es F h.2) (star_cons h.1.1)
theorem okA : ∀ (es : Exs) {P : Pm} {X : Cx} {xs : List Expr} {pos : Pos}, Fit P g T X → chkB es P xs = true → PE X (.BoolOp .And xs pos) (tE X.K w0 H0 (evA T es))
  | .nil, P, X, xs, pos, F, h => by cases h
  | .cons a .nil, P, X, xs, pos, F, h => by
    match xs, h with
    | [], h => cases h
    | [y], h =>
      have h : (chkE a P y && true) = true := h
      rw [Bool.and_true] at h
      exact pe_one (okE a F h)
    | y :: z :: ys, h =>
      have h : (chkE a P y && false) = true := h
      rw [Bool.and_false] at h
      cases h
  | .cons a (.cons b bs), P, X, xs, pos, F, h => by
    match xs, h with
    | [], h => cases h
    | [y], h =>
      have h : (chkE a P y && false) = true := h
      rw [Bool.and_false] at h
      cases h
    | y :: z :: ys, h =>
      have h : (chkE a P y && chkB (.cons b bs) P (z :: ys)) = true := h
      simp only [Bool.and_eq_true] at h
      exact e_and (okE a F h.1) (okA (.cons b bs) F h.2)
theorem okO : ∀ (es : Exs) {P : Pm} {X : Cx} {xs : List Expr} {pos : Pos}, Fit P g T X → chkB es P xs = true → PE X (.BoolOp .Or xs pos) (tE X.K w0 H0 (evO T es))
  | .nil, P, X, xs, pos, F, h => by cases h
  | .cons a .nil, P, X, xs, pos, F, h => by
    match xs, h with
    | [], h => cases h
    | [y], h =>
      have h : (chkE a P y && true) = true := h
      rw [Bool.and_true] at h
      exact pe_one (okE a F h)
    | y :: z :: ys, h =>
      have h : (chkE a P y && false) = true := h
      rw [Bool.and_false] at h
      cases h
  | .cons a (.cons b bs), P, X, xs, pos, F, h => by
    match xs, h with
    | [], h => cases h
    | [y], h =>
      have h : (chkE a P y && false) = true := h
      rw [Bool.and_false] at h
      cases h
    | y :: z :: ys, h =>
      have h : (chkE a P y && chkB (.cons b bs) P (z :: ys)) = true := h
      simp only [Bool.and_eq_true] at h
      exact e_or (okE a F h.1) (okO (.cons b bs) F h.2)
theorem okP : ∀ (o : Xo) {P : Pm} {X : Cx} {x : Option Expr}, Fit P g T X → chkP o P x = true → PO X x (tO X.K w0 H0 (evP T o))
  | .none, P, X, x, F, h => by
    cases x with
    | none => exact o_none
    | some _ => cases h
  | .some a, P, X, x, F, h => by
    cases x with
    | none => cases h
    | some y => exact o_some (okE a F h)
theorem okT : ∀ (c : Ct) {P : Pm} {X : Cx} {x : Expr}, Fit P g T X → chkT c P x = true → PT X x (tT X.K w0 H0 (evT T c))
  | .v a, P, X, x, F, h => by
    have h : (chkE a P x && (match (generalizing := false) x with
      | .UnaryOp .Not _ _ => false
      | .BoolOp .. => false
      | .IfExp .. => false
      | _ => true)) = true := h
    rw [Bool.and_eq_true] at h
    obtain ⟨h1, h2⟩ := h
    have q := okE a F h1
    by_cases hc : ∃ y os cs p, x = .Compare y os cs p
    · obtain ⟨y, os, cs, p, e⟩ := hc
      subst e
      cases a with
      | cmp o a b =>
        have hh : (match (Expr.Compare y os cs p) with
          | .Compare y [p] [z] _ => decide (p = o) && chkE a P y && chkE b P z && !(behindInMarks o z)
          | _ => false) = true := h1
        split at hh
        · rename_i e
          cases e
          simp only [Bool.and_eq_true, decide_eq_true_eq, Bool.not_eq_true'] at hh
          obtain ⟨⟨⟨h1, h2⟩, h3⟩, h4⟩ := hh
          subst h1
          exact t_cmp F.cn (okE a F h2) (okE b F h3) h4
        · cases hh
      | chn o1 o2 a b c =>
        have hh : (match (Expr.Compare y os cs p) with
          | .Compare y [p, q] [z, u] _ => decide (p = o1) && decide (q = o2) && chkE a P y && chkE b P z && chkE c P u && !(lastMarks [o1, o2] [z, u])
          | _ => false) = true := h1
        split at hh
        · rename_i e
          cases e
          simp only [Bool.and_eq_true, decide_eq_true_eq, Bool.not_eq_true'] at hh
          obtain ⟨⟨⟨⟨⟨h1, h2⟩, h3⟩, h4⟩, h5⟩, h6⟩ := hh
          subst h1 h2
          exact t_chn F.cn (okE a F h3) (okE b F h4) (okE c F h5) h6
        · cases hh
      | sk r _ _ _ => cases r <;> cases h1
      | _ => cases h1
    · exact t_val q (true_of h2 fun y os cs p e => hc ⟨y, os, cs, p, e⟩)
  | .not a, P, X, x, F, h => by
    have h : (match (generalizing := false) x with
      | .UnaryOp .Not y _ => chkT a P y
      | _ => false) = true := h
    split at h
    · exact t_not (okT a F h)
    · cases h
  | .and cs, P, X, x, F, h => by
    have h : (match (generalizing := false) x with
      | .BoolOp .And ys _ => chkTs cs P ys
      | _ => false) = true := h
    split at h
    · exact (okTA cs F h).pt
    · cases h
  | .or cs, P, X, x, F, h => by
    have h : (match (generalizing := false) x with
      | .BoolOp .Or ys _ => chkTs cs P ys
      | _ => false) = true := h
    split at h
    · exact (okTO cs F h).pt
    · cases h
  | .ife _ _ _, P, X, x, F, h => by cases h
theorem okTA : ∀ (cs : Cts) {P : Pm} {X : Cx} {xs : List Expr} {pos : Pos}, Fit P g T X → chkTs cs P xs = true → PW X (.BoolOp .And xs pos) (tT X.K w0 H0 (evTA T cs))
  | .nil, P, X, xs, pos, F, h => by cases h
  | .cons a .nil, P, X, xs, pos, F, h => by
    match xs, h with
    | [], h => cases h
    | [y], h =>
      have h : (chkT a P y && true) = true := h
      rw [Bool.and_true] at h
      exact w_and1 (okT a F h)
    | y :: z :: ys, h =>
      have h : (chkT a P y && false) = true := h
      rw [Bool.and_false] at h
      cases h
  | .cons a (.cons b bs), P, X, xs, pos, F, h => by
    match xs, h with
    | [], h => cases h
    | [y], h =>
      have h : (chkT a P y && false) = true := h
      rw [Bool.and_false] at h
      cases h
    | y :: z :: ys, h =>
      have h : (chkT a P y && chkTs (.cons b bs) P (z :: ys)) = true := h
      simp only [Bool.and_eq_true] at h
      exact w_and (okT a F h.1) (okTA (.cons b bs) F h.2)
theorem okTO : ∀ (cs : Cts) {P : Pm} {X : Cx} {xs : List Expr} {pos : Pos}, Fit P g T X → chkTs cs P xs = true → PW X (.BoolOp .Or xs pos) (tT X.K w0 H0 (evTO T cs))
  | .nil, P, X, xs, pos, F, h => by cases h
  | .cons a .nil, P, X, xs, pos, F, h => by
    match xs, h with
    | [], h => cases h
    | [y], h =>
      have h : (chkT a P y && true) = true := h
      rw [Bool.and_true] at h
      exact w_or1 (okT a F h)
    | y :: z :: ys, h =>
      have h : (chkT a P y && false) = true := h
      rw [Bool.and_false] at h
      cases h
  | .cons a (.cons b bs), P, X, xs, pos, F, h => by
    match xs, h with
    | [], h => cases h
    | [y], h =>
      have h : (chkT a P y && false) = true := h
      rw [Bool.and_false] at h
      cases h
    | y :: z :: ys, h =>
      have h : (chkT a P y && chkTs (.cons b bs) P (z :: ys)) = true := h
      simp only [Bool.and_eq_true] at h
      exact w_or (okT a F h.1) (okTO (.cons b bs) F h.2)
theorem okC : ∀ (c : Co) {P : Pm} {X : Cx} {xs : List Expr}, Fit P g T X → chkC c P xs = true → PTs X xs (tT X.K w0 H0 (evC T c))
  | .none, P, X, xs, F, h => by
    cases xs with
    | nil => exact c_none
    | cons _ _ => cases h
  | .some c, P, X, xs, F, h => by
    match xs, h with
    | [], h => cases h
    | [y], h => exact pts_one (okT c F h)
    | _ :: _ :: _, h => cases h
theorem okI : ∀ (it : Ix) {P : Pm} {X : Cx} {t x : Expr}, Fit P g T X → chkI it P t x = true → PI X t x (tI X.K w0 H0 (evI T it)) ∧ ∀ u, foldedSetIterable x X.env u = pure u
  | .seq a, P, X, t, x, F, h => by
    have h : (chkE a P x && noSet x) = true := h
    rw [Bool.and_eq_true] at h
    exact ⟨i_seq hw (okE a F h.1), set_of h.2⟩
  | .rng1 a, P, X, t, x, F, h => by
    have h : (match (generalizing := false) x with
      | .Call (.Name y _) [z] [] _ => bltB P y "range" && chkE a P z && noStar z
      | _ => false) = true := h
    split at h
    · simp only [Bool.and_eq_true] at h
      obtain ⟨e, hg⟩ := blt_of h.1.1
      subst e
      exact ⟨i_rng1 (pi_range1 (F.gl hg) (F.bl _ (by decide)) (pa_cons (okE a F h.1.2) pa_nil (star_cons h.2)) (star_one h.2)), fun _ => rfl⟩
    · cases h
  | .rng2 a b, P, X, t, x, F, h => by
    have h : (match (generalizing := false) x with
      | .Call (.Name y _) [z, u] [] _ => bltB P y "range" && chkE a P z && chkE b P u && noStar z && noStar u
      | _ => false) = true := h
    split at h
    · simp only [Bool.and_eq_true] at h
      obtain ⟨⟨⟨⟨h1, h2⟩, h3⟩, h4⟩, h5⟩ := h
      obtain ⟨e, hg⟩ := blt_of h1
      subst e
      exact ⟨i_rng2 (pi_range2 (F.gl hg) (F.bl _ (by decide)) (pa_cons (okE a F h2) (pa_cons (okE b F h3) pa_nil (star_cons h5)) (star_cons h4)) (by rw [star_cons h4, star_one h5]) (star_one h5)), fun _ => rfl⟩
    · cases h
  | .enum a, P, X, t, x, F, h => by
    have h : (match (generalizing := false) t, x with
      | .Tuple .., .Call (.Name y _) [z] [] _ => bltB P y "enumerate" && chkE a P z && noStar z
      | _, _ => false) = true := h
    split at h
    · simp only [Bool.and_eq_true] at h
      obtain ⟨e, hg⟩ := blt_of h.1.1
      subst e
      exact ⟨i_enum hw (F.gl hg) (F.bl _ (by decide)) (okE a F h.1.2) (star_one h.2) (star_cons h.2), fun _ => rfl⟩
    · cases h
  | .zip st a b, P, X, t, x, F, h => by
    have h : (match (generalizing := false) t, x with
      | .Tuple .., .Call (.Name y _) [z, u] [] _ => !st && bltB P y "zip" && chkE a P z && chkE b P u && noStar z && noStar u
      | _, _ => false) = true := h
    split at h
    · simp only [Bool.and_eq_true, Bool.not_eq_true'] at h
      obtain ⟨⟨⟨⟨⟨h0, h1⟩, h2⟩, h3⟩, h4⟩, h5⟩ := h
      obtain ⟨e, hg⟩ := blt_of h1
      subst e h0
      exact ⟨i_zip hw (F.gl hg) (F.bl _ (by decide)) (okE a F h2) (okE b F h3) (star_cons h4) (star_cons h5) (any_star (by simp [h5])), fun _ => rfl⟩
    · cases h
  | .ezip a b, P, X, t, x, F, h => by
    have h : (match (generalizing := false) t, x with
      | .Tuple .., .Call (.Name v _) [.Call (.Name y _) [z, u] [] _] [] _ => bltB P v "enumerate" && bltB P y "zip" && chkE a P z && chkE b P u && noStar z && noStar u
      | _, _ => false) = true := h
    split at h
    · simp only [Bool.and_eq_true] at h
      obtain ⟨⟨⟨⟨⟨h0, h1⟩, h2⟩, h3⟩, h4⟩, h5⟩ := h
      obtain ⟨e, hg⟩ := blt_of h0
      obtain ⟨e2, hg2⟩ := blt_of h1
      subst e e2
      exact ⟨i_ezip hw (F.gl hg) (F.bl _ (by decide)) (F.gl hg2) (F.bl _ (by decide)) (okE a F h2) (okE b F h3) (star_cons h4) (star_cons h5) (any_star (by simp [h5])) rfl, fun _ => rfl⟩
    · cases h
end
end
end Ev

namespace Ev
open PySem PySem.Spec PyProof.Rows L2
theorem not_star_any {vs : List Expr} (h : vs.all noStar = true) : (vs.any fun | .Starred .. => true | _ => false) = false := by
  rw [List.any_eq_false]
  intro x hx
  have := List.all_eq_true.mp h x hx
  cases x <;> first | exact Bool.false_ne_true | exact absurd this Bool.false_ne_true
theorem not_star {u : Expr} (h : noStar u = true) {b : Prop} (hb : (match (generalizing := false) u with | .Starred .. => true | _ => false) = true) : b := by
  cases u <;> first | exact absurd hb Bool.false_ne_true | exact absurd h Bool.false_ne_true
theorem par2_sw {env : Env} {y z : Str} {yp zp p p2 : Pos} {k k2 : Nat} {u v : Expr} (hb : env.blockKind = .function) (hy : env.kindOf y = some .local) (hz : env.kindOf z = some .local) (ne : (z == y) = false) (hl : yp.line = zp.line) (hc : notConst [u, v] = true) (hu : noStar u = true) (hv : noStar v = true) :
    swappedStores [.Tuple [.Name y yp, .Name z zp] k p] (.Tuple [u, v] k2 p2) env = pure (some [y, z]) := by
  unfold notConst at hc
  simp only [Bool.and_eq_true, Bool.not_eq_true'] at hc
  unfold swappedStores
  simp only [hc.1, hc.2, hb]
  simp [List.filterMap, hy, hz, hl, Expr.pos, List.eraseDups, List.eraseDupsBy, List.eraseDupsBy.loop, ne]
  intro h
  rcases h with h | h
  · exact not_star hu h
  · exact not_star hv h
theorem par3_sw {env : Env} {y z t : Str} {yp zp tp p p2 : Pos} {k k2 : Nat} {u v w : Expr} (hb : env.blockKind = .function) (hy : env.kindOf y = some .local) (hz : env.kindOf z = some .local) (ht : env.kindOf t = some .local) (ne : (z == y) = false) (ne2 : (t == y) = false) (ne3 : (t == z) = false) (hl : yp.line = zp.line) (hl2 : yp.line = tp.line)
    (hc : notConst [u, v, w] = true) (hu : noStar u = true) (hv : noStar v = true) (hw : noStar w = true) :
    swappedStores [.Tuple [.Name y yp, .Name z zp, .Name t tp] k p] (.Tuple [u, v, w] k2 p2) env = pure (some [y, z, t]) := by
  unfold notConst at hc
  simp only [Bool.and_eq_true, Bool.not_eq_true'] at hc
  unfold swappedStores
  simp only [hc.1, hc.2, hb]
  simp [List.filterMap, hy, hz, ht, ← hl, ← hl2, Expr.pos, List.eraseDups, List.eraseDupsBy, List.eraseDupsBy.loop, ne, ne2, ne3]
  intro h
  rcases h with h | h | h
  · exact not_star hu h
  · exact not_star hv h
  · exact not_star hw h
theorem nest_sw {env : Env} {y : Str} {yp tp p : Pos} {k kt : Nat} {ts : List Expr} {v : Expr} : swappedStores [.Tuple [.Name y yp, .Tuple ts kt tp] k p] v env = pure none := by
  unfold swappedStores
  cases v with
  | Tuple vs k2 p2 =>
    simp only []
    split
    · rfl
    · split
      · rfl
      · rw [if_pos]
        cases h : (env.kindOf y == some .local) <;> simp [List.filterMap, h, Expr.pos]
  | _ => rfl
theorem fold_sw {env : Env} {ts vs : List Expr} {k k2 : Nat} {p p2 : Pos} (hf : folded vs = true) : swappedStores [.Tuple ts k p] (.Tuple vs k2 p2) env = pure none := by
  unfold folded at hf
  unfold swappedStores
  simp only [hf]
  split
  · rfl
  · split
    · rfl
    · split
      · rfl
      · rfl
theorem other_sw {env : Env} {ts : List Expr} {k : Nat} {p : Pos} {v : Expr} (h : ∀ vs k2 p2, v ≠ .Tuple vs k2 p2) : swappedStores [.Tuple ts k p] v env = pure none := by
  unfold swappedStores
  cases v with
  | Tuple vs k2 p2 => exact absurd rfl (h vs k2 p2)
  | _ => rfl
theorem fm_lt {α β : Type} {f : α → Option β} : ∀ {l : List α}, (∃ x ∈ l, f x = none) → (l.filterMap f).length < l.length
  | [], h => by
    obtain ⟨x, hx, _⟩ := h
    cases hx
  | a :: l, h => by
    obtain ⟨x, hx, e⟩ := h
    rw [List.filterMap_cons]
    rcases List.mem_cons.mp hx with z | z
    · subst z
      rw [e]
      exact Nat.lt_succ_of_le (List.length_filterMap_le f l)
    · have ih := fm_lt ⟨x, z, e⟩
      cases f a with
      | none => exact Nat.lt_succ_of_lt ih
      | some b => exact Nat.succ_lt_succ ih
theorem name_sw {env : Env} {ts vs : List Expr} {k k2 : Nat} {p p2 : Pos} (h : ∃ t ∈ ts, ∀ y q, t = .Name y q → (env.kindOf y == some .local) = false) : swappedStores [.Tuple ts k p] (.Tuple vs k2 p2) env = pure none := by
  unfold swappedStores
  simp only []
  split
  · rfl
  · split
    · rfl
    · rw [if_pos]
      rw [Bool.or_eq_true]
      left
      rw [bne_iff_ne]
      refine Nat.ne_of_lt (fm_lt ?_)
      obtain ⟨t, ht, hk⟩ := h
      refine ⟨t, ht, ?_⟩
      cases t with
      | Name y q => simp only [hk y q rfl, Bool.false_and]; rfl
      | _ => rfl
theorem len_sw {env : Env} {ts vs : List Expr} {k k2 : Nat} {p p2 : Pos} (h : ts.length ≠ 2 ∧ ts.length ≠ 3) : swappedStores [.Tuple ts k p] (.Tuple vs k2 p2) env = pure none := by
  unfold swappedStores
  simp only []
  rw [if_pos]
  have e1 : (ts.length == 2) = false := beq_eq_false_iff_ne.mpr h.1
  have e2 : (ts.length == 3) = false := beq_eq_false_iff_ne.mpr h.2
  rw [e1, e2]
  rfl
theorem par_sw {P : Pm} {g : Gx} {T : Tx} {X : Cx} (F : Fit P g T X) {ts : List Expr} {k : Nat} {p : Pos} {v : Expr} (h : parNo P ts v = true) : swappedStores [.Tuple ts k p] v X.env = pure none := by
  cases v with
  | Tuple vs k2 p2 =>
    have h : (folded vs || decide (ts.length ≠ 2 ∧ ts.length ≠ 3) || ts.any fun t => match t with
      | .Name y _ => !decide (P.sc.names.lookup y = some .local)
      | _ => true) = true := h
    rw [Bool.or_eq_true, Bool.or_eq_true] at h
    rcases h with (h | h) | h
    · exact fold_sw h
    · exact len_sw (of_decide_eq_true h)
    · obtain ⟨t, ht, h⟩ := List.any_eq_true.mp h
      refine name_sw ⟨t, ht, fun y q e => ?_⟩
      subst e
      have h : (!decide (P.sc.names.lookup y = some .local)) = true := h
      unfold Env.kindOf
      rw [F.sc]
      simpa using h
  | _ => exact other_sw fun vs k2 p2 e => by cases e
theorem kind_fun {P : Pm} {g : Gx} {T : Tx} {X : Cx} (F : Fit P g T X) (h : isFun P = true) : X.env.scope.kind = .function := by
  rw [F.sc]
  unfold isFun at h
  split at h
  · assumption
  · cases h
theorem blk_fun {env : Env} (h : env.scope.kind = .function) : env.blockKind = .function := by
  unfold Env.blockKind
  rw [h]; rfl
theorem sw_name {P : Pm} {g : Gx} {T : Tx} {X : Cx} (F : Fit P g T X) (hk : isFun P = true) {y : Str} {p : Pos} {v : Expr} {l : Nat} (h1 : ∀ e g s q, v ≠ .SetComp e g s q) (h : compSw P y p v = false) : swapsWith v (some (.Name y p)) l X.env = pure false := by
  have hf := kind_fun F hk
  cases v with
  | ListComp e g s vp =>
    have h : ((match P.sc.kind with
      | .function => true
      | _ => false) && decide (P.sc.names.lookup y = some .local) && (p.line == vp.line) && !(s.names.any fun z => z.1 == y && (z.2 == .local || z.2 == .cell))) = false := h
    have e1 : (match P.sc.kind with
      | .function => true
      | _ => false) = true := hk
    rw [e1, Bool.true_and] at h
    show (pure (X.env.blockKind == .function && X.env.kindOf y == some .local && p.line == vp.line && !(s.names.any fun z => z.1 == y && (z.2 == .local || z.2 == .cell))) : Sem Bool) = pure false
    congr 1
    rw [blk_fun hf]
    have e2 : (X.env.kindOf y == some .local) = decide (P.sc.names.lookup y = some .local) := by
      unfold Env.kindOf
      rw [F.sc, Bool.eq_iff_iff]
      simp
    rw [e2]
    exact h
  | SetComp e g s q => exact absurd rfl (h1 e g s q)
  | DictComp k e g s vp =>
    have h : ((match P.sc.kind with
      | .function => true
      | _ => false) && decide (P.sc.names.lookup y = some .local) && (p.line == vp.line) && !(s.names.any fun z => z.1 == y && (z.2 == .local || z.2 == .cell))) = false := h
    have e1 : (match P.sc.kind with
      | .function => true
      | _ => false) = true := hk
    rw [e1, Bool.true_and] at h
    show (pure (X.env.blockKind == .function && X.env.kindOf y == some .local && p.line == vp.line && !(s.names.any fun z => z.1 == y && (z.2 == .local || z.2 == .cell))) : Sem Bool) = pure false
    congr 1
    rw [blk_fun hf]
    have e2 : (X.env.kindOf y == some .local) = decide (P.sc.names.lookup y = some .local) := by
      unfold Env.kindOf
      rw [F.sc, Bool.eq_iff_iff]
      simp
    rw [e2]
    exact h
  | _ => rfl
theorem sw_none {v : Expr} {l : Nat} {env : Env} (h : noComp v = true) : swapsWith v none l env = pure false := by
  cases v <;> first | rfl | exact absurd h Bool.false_ne_true
theorem sw_other {v t : Expr} {l : Nat} {env : Env} (h : ∀ y p, t ≠ .Name y p) : swapsWith v (some t) l env = pure false := by
  cases t with
  | Name y p => exact absurd rfl (h y p)
  | _ => cases v <;> rfl
theorem chkE_comp {a : Ex} {P : Pm} {e : Expr} {g : List Comprehension} {s : Scope} {q : Pos} (h : chkE a P (.ListComp e g s q) = true) : (∃ w elt tg it cd own, a = .comp w elt tg it cd own) ∨ (∃ w elt tg src cd own, a = .compi w elt tg src cd own) ∨ ∃ w elt tg it tg1 it1 cd1 own own1, a = .comp2 w elt tg it tg1 it1 cd1 own own1 := by
  cases a with
  | comp w elt tg it cd own => exact .inl ⟨w, elt, tg, it, cd, own, rfl⟩
  | compi w elt tg it cd own => exact .inr (.inl ⟨w, elt, tg, it, cd, own, rfl⟩)
  | comp2 w elt tg it tg1 it1 cd1 own own1 => exact .inr (.inr ⟨w, elt, tg, it, tg1, it1, cd1, own, own1, rfl⟩)
  | sk r _ _ _ => cases r <;> cases h
  | _ => cases h
theorem chkE_set {a : Ex} {P : Pm} {e : Expr} {g : List Comprehension} {s : Scope} {q : Pos} : chkE a P (.SetComp e g s q) = false := by
  cases a with
  | sk r _ _ _ => cases r <;> rfl
  | _ => rfl
theorem chkE_dict {a : Ex} {P : Pm} {k e : Expr} {g : List Comprehension} {s : Scope} {q : Pos} (h : chkE a P (.DictComp k e g s q) = true) : ∃ k v tg it cd own, a = .dcomp k v tg it cd own := by
  cases a with
  | dcomp k v tg it cd own => exact ⟨k, v, tg, it, cd, own, rfl⟩
  | sk r _ _ _ => cases r <;> cases h
  | _ => cases h
theorem slice_asg {o i : Expr} {pos : Pos} {env : Env} (h : noSlice i = true) : ∀ v, assign (.Subscript o i pos) env v = (do
      let ov ← holding [v] (eval o env)
      let iv ← holding [v, ov] (eval i env)
      standAt pos
      holding [v, ov, iv] (setItem ov iv v)
      release [v, ov, iv] []) := by
  intro v
  cases i <;> first | rfl | exact absurd h Bool.false_ne_true
theorem slice_aug {i : Expr} (h : noSlice i = true) : ∀ ov iv new, augStore i ov iv new = (do holding [new, ov, iv] (setItem ov iv new); release [new, ov, iv] []; pure .next) := by
  intro ov iv new
  cases i <;> first | rfl | exact absurd h Bool.false_ne_true
section
variable {T : Tx} {g : Gx} {W : WX} {w0 : Wd} {H0 : Hp} (hw : w0.nu = []) (hT : W0 g w0 H0)
include hw hT
theorem set_ok2 {i : Nat} {a : Ex} {P : Pm} {X : Cx} {y : Str} {p pos : Pos} {v : Expr} (F : Fit P g T X) (hk : isFun P = true) (hi : P.N[i]? = some y) (hl : locB P.sc y = true) (hf : P.fnB y = true ∨ P.sc.names.lookup y = some .local) (h : chkE a P v = true) :
    PS X (.Assign [.Name y p] v pos) (tS X.K g W w0 H0 (evS T (.set i a))) := by
  have hf' : X.fn y = true ∨ X.env.scope.names.lookup y = some .local := hf.imp (F.fn y) fun z => by rw [F.sc]; exact z
  cases hc : compSw P y p v with
  | false =>
    refine s_set (ps_set F.nod (F.at_ hi) (F.loc hl) (okE hw hT a F h) (sw_name F hk (fun e g s q z => ?_) hc) hf')
    subst z; rw [chkE_set] at h; cases h
  | true =>
    cases v with
    | ListComp e g s vp =>
      rcases chkE_comp h with ⟨wh, elt, tg, it, cd, own, ea⟩ | ⟨wh, elt, tg, it, cd, own, ea⟩ | ⟨wh, elt, tg, it, tg1, it1, cd1, own, own1, ea⟩
      · subst ea
        have hc : ((match P.sc.kind with
          | .function => true
          | _ => false) && decide (P.sc.names.lookup y = some .local) && (p.line == vp.line) && !(s.names.any fun z => z.1 == y && (z.2 == .local || z.2 == .cell))) = true := hc
        simp only [Bool.and_eq_true, decide_eq_true_eq, Bool.not_eq_true'] at hc
        obtain ⟨⟨⟨_, c2⟩, c3⟩, c4⟩ := hc
        have hyl : X.env.scope.names.lookup y = some .local := by rw [F.sc]; exact c2
        have h : (match (Expr.ListComp e g s vp) with
          | .ListComp y [⟨t, i, ifs, z⟩] scope _ => decide (z = 0) && blkP P scope own && chkI it P t i && tgIn tg own && chkG (P.blk scope) tg t && chkC cd (P.blk scope) ifs && chkE elt (P.blk scope) y
          | _ => false) = true := h
        split at h
        · rename_i y' t i' ifs z sc' q' eq
          cases eq
          simp only [Bool.and_eq_true, decide_eq_true_eq] at h
          obtain ⟨⟨⟨⟨⟨⟨h1, h2⟩, h3⟩, h4⟩, h5⟩, h6⟩, h7⟩ := h
          subst h1
          obtain ⟨hi', hs⟩ := okI hw hT it F h3
          have e := ownP_snd P.N own
          have q := ps_setLc (g := tG X.K w0 H0 tg) (tt := tT X.K w0 H0 (evC T cd)) (te := tE X.K w0 H0 (evE T elt)) (own := ownP P.N own) (spos := pos) (py := p) (F.cal (blkP_nh h2)) F.nod (F.at_ hi) hyl (sw_true (kind_fun F hk) hyl c3 c4) hi' (by rw [F.nn, F.sc]; exact blkOk_by (blkP_ok h2)) (fun s H C cl fp => okG (w0 := w0) (H0 := H0) tg F.blk h5) (fun s H C cl fp => okC (w0 := w0) (H0 := H0) hw hT cd F.blk h6) (fun s H C cl fp => okE (w0 := w0) (H0 := H0) hw hT elt F.blk h7) hs
          rw [e] at q
          exact s_setL (wh := wh) hw h4 q
        · cases h
      · subst ea
        have hc : ((match P.sc.kind with
          | .function => true
          | _ => false) && decide (P.sc.names.lookup y = some .local) && (p.line == vp.line) && !(s.names.any fun z => z.1 == y && (z.2 == .local || z.2 == .cell))) = true := hc
        simp only [Bool.and_eq_true, decide_eq_true_eq, Bool.not_eq_true'] at hc
        obtain ⟨⟨⟨_, c2⟩, c3⟩, c4⟩ := hc
        have hyl : X.env.scope.names.lookup y = some .local := by rw [F.sc]; exact c2
        have h : (match (Expr.ListComp e g s vp) with
          | .ListComp y [⟨t, i, ifs, z⟩] scope _ => decide (z = 0) && blkP P scope own && chkE it P i && noSet i && tgIn tg own && chkG (P.blk scope) tg t && chkC cd (P.blk scope) ifs && chkE elt (P.blk scope) y
          | _ => false) = true := h
        split at h
        · rename_i y' t i' ifs z sc' q' eq
          cases eq
          simp only [Bool.and_eq_true, decide_eq_true_eq] at h
          obtain ⟨⟨⟨⟨⟨⟨⟨h1, h2⟩, h3⟩, h3'⟩, h4⟩, h5⟩, h6⟩, h7⟩ := h
          subst h1
          have hi' := i_lst (tg := t) (okE (w0 := w0) (H0 := H0) hw hT it F h3)
          have hs := set_of (env := X.env) h3'
          have e := ownP_snd P.N own
          have q := ps_setLc (g := tG X.K w0 H0 tg) (tt := tT X.K w0 H0 (evC T cd)) (te := tE X.K w0 H0 (evE T elt)) (own := ownP P.N own) (spos := pos) (py := p) (F.cal (blkP_nh h2)) F.nod (F.at_ hi) hyl (sw_true (kind_fun F hk) hyl c3 c4) hi' (by rw [F.nn, F.sc]; exact blkOk_by (blkP_ok h2)) (fun s H C cl fp => okG (w0 := w0) (H0 := H0) tg F.blk h5) (fun s H C cl fp => okC (w0 := w0) (H0 := H0) hw hT cd F.blk h6) (fun s H C cl fp => okE (w0 := w0) (H0 := H0) hw hT elt F.blk h7) hs
          rw [e] at q
          exact s_setI (wh := wh) hw h4 q
        · cases h
      · subst ea
        have hc : ((match P.sc.kind with
          | .function => true
          | _ => false) && decide (P.sc.names.lookup y = some .local) && (p.line == vp.line) && !(s.names.any fun z => z.1 == y && (z.2 == .local || z.2 == .cell))) = true := hc
        simp only [Bool.and_eq_true, decide_eq_true_eq, Bool.not_eq_true'] at hc
        obtain ⟨⟨⟨_, c2⟩, c3⟩, c4⟩ := hc
        have hyl : X.env.scope.names.lookup y = some .local := by rw [F.sc]; exact c2
        have h : (match (Expr.ListComp e g s vp) with
          | .ListComp y [⟨t, i, [], z⟩, ⟨t1, i1, ifs1, z1⟩] scope _ => decide (z = 0) && decide (z1 = 0) && blkP P scope own && chkI it P t i && tgIn tg own && tgIn tg1 own1 && own1.all (own.contains ·) && chkG (P.blk scope) tg t && chkI it1 (P.blk scope) t1 i1 && chkG (P.blk scope) tg1 t1 && chkC cd1 (P.blk scope) ifs1 && chkE elt (P.blk scope) y
          | _ => false) = true := h
        split at h
        · rename_i y' t i' z t1 i1' ifs1 z1 sc' q' eq
          cases eq
          simp only [Bool.and_eq_true, decide_eq_true_eq] at h
          obtain ⟨⟨⟨⟨⟨⟨⟨⟨⟨⟨⟨h1, h1'⟩, h2⟩, h3⟩, h4⟩, h4'⟩, hv⟩, h5⟩, h6⟩, h7⟩, h8⟩, h9⟩ := h
          subst h1 h1'
          obtain ⟨hi', hs⟩ := okI hw hT it F h3
          have e := ownP_snd P.N own
          have hv2 : ∀ i ∈ own1, i ∈ (ownP P.N own).map (·.2) := fun i hi => by
            rw [e]
            have := List.all_eq_true.mp hv i hi
            simpa using this
          have q := ps_setLc2 (g := tG X.K w0 H0 tg) (tt := tT X.K w0 H0 fun _ => rt true) (wi1 := tI X.K w0 H0 (evI T it1)) (g1 := tG X.K w0 H0 tg1) (tt1 := tT X.K w0 H0 (evC T cd1)) (te := tE X.K w0 H0 (evE T elt)) (own := ownP P.N own) (vs1 := own1) (spos := pos) (py := p) (F.cal (blkP_nh h2)) F.nod (F.at_ hi) hyl (sw_true (kind_fun F hk) hyl c3 c4) hi' (by rw [F.nn, F.sc]; exact blkOk_by (blkP_ok h2)) hv2 (fun s H C cl fp => okG (w0 := w0) (H0 := H0) tg F.blk h5) (fun s H C cl fp => c_none (w0 := w0) (H0 := H0)) (fun s H C cl fp => (okI hw hT it1 F.blk h6).1) (fun s H C cl fp => okG (w0 := w0) (H0 := H0) tg1 F.blk h7) (fun s H C cl fp => okC (w0 := w0) (H0 := H0) hw hT cd1 F.blk h8) (fun s H C cl fp => okE (w0 := w0) (H0 := H0) hw hT elt F.blk h9) hs (setI it1 h6)
          rw [e] at q
          exact s_setL2 (wh := wh) hw h4 h4' q
        · cases h
    | DictComp k0 e g s vp =>
      obtain ⟨k, v, tg, it, cd, own, ea⟩ := chkE_dict h
      subst ea
      have hc : ((match P.sc.kind with
        | .function => true
        | _ => false) && decide (P.sc.names.lookup y = some .local) && (p.line == vp.line) && !(s.names.any fun z => z.1 == y && (z.2 == .local || z.2 == .cell))) = true := hc
      simp only [Bool.and_eq_true, decide_eq_true_eq, Bool.not_eq_true'] at hc
      obtain ⟨⟨⟨_, c2⟩, c3⟩, c4⟩ := hc
      have hyl : X.env.scope.names.lookup y = some .local := by rw [F.sc]; exact c2
      have h : (match (Expr.DictComp k0 e g s vp) with
        | .DictComp y u [⟨t, i, ifs, z⟩] scope _ => decide (z = 0) && blkP P scope own && chkI it P t i && tgIn tg own && chkG (P.blk scope) tg t && chkC cd (P.blk scope) ifs && chkE k (P.blk scope) y && chkE v (P.blk scope) u
        | _ => false) = true := h
      split at h
      · rename_i y' u' t i' ifs z sc' q' eq
        cases eq
        simp only [Bool.and_eq_true, decide_eq_true_eq] at h
        obtain ⟨⟨⟨⟨⟨⟨⟨h1, h2⟩, h3⟩, h4⟩, h5⟩, h6⟩, h7⟩, h8⟩ := h
        subst h1
        obtain ⟨hi', hs⟩ := okI hw hT it F h3
        have e := ownP_snd P.N own
        have q := ps_setDc (g := tG X.K w0 H0 tg) (tt := tT X.K w0 H0 (evC T cd)) (tk := tE X.K w0 H0 (evE T k)) (tv := tE X.K w0 H0 (evE T v)) (own := ownP P.N own) (spos := pos) (py := p) (F.cal (blkP_nh h2)) F.nod (F.at_ hi) hyl (sw_trueD (kind_fun F hk) hyl c3 c4) hi' (by rw [F.nn, F.sc]; exact blkOk_by (blkP_ok h2)) (fun s H C cl fp => okG (w0 := w0) (H0 := H0) tg F.blk h5) (fun s H C cl fp => okC (w0 := w0) (H0 := H0) hw hT cd F.blk h6) (fun s H C cl fp => okE (w0 := w0) (H0 := H0) hw hT k F.blk h7) (fun s H C cl fp => okE (w0 := w0) (H0 := H0) hw hT v F.blk h8) hs
        rw [e] at q
        exact s_setD hw h4 q
      · cases h
    | _ => cases hc
end
end Ev

/-! statements and defs that pass the look -/
namespace Ev
open PySem PySem.Spec PyProof.Rows L2
def noName : Expr → Bool
  | .Name .. => false
  | _ => true
theorem sole_other {v t : Expr} {l : Nat} {env : Env} (h : noName t = true) : swapsWithSole [t] v l env = pure false :=
  sw_other (t := t) fun y p e => by subst e; cases h
section
variable {T : Tx} {g : Gx} {W : WX} {w0 : Wd} {H0 : Hp} (hw : w0.nu = []) (hT : W0 g w0 H0)
include hw hT
mutual
theorem okS : ∀ (a : St) {P : Pm} {X : Cx} {x : Stmt}, Fit P g T X → PassesOwn (model X.prog X.w) X.A X.env X.xe → L2.Takes X W → chkS a P x = true → PS X x (tS X.K g W w0 H0 (evS T a))
  | .ex a, P, X, x, F, hp, tk, h => by
    have h : (match (generalizing := false) x with
      | .Expr y _ => chkE a P y && noComp y
      | _ => false) = true := h
    split at h
    · rw [Bool.and_eq_true] at h
      exact s_ex (okE hw hT a F h.1) (sw_none h.2)
    · cases h
  | .set i a, P, X, x, F, hp, tk, h => by
    have h : (match (generalizing := false) x with
      | .Assign [.Name y p] v _ => isFun P && decide (P.N[i]? = some y) && locB P.sc y && (P.fnB y || decide (P.sc.names.lookup y = some .local)) && chkE a P v
      | _ => false) = true := h
    split at h
    · simp only [Bool.and_eq_true, Bool.or_eq_true, decide_eq_true_eq] at h
      obtain ⟨⟨⟨⟨h1, h2⟩, h3⟩, h4⟩, h5⟩ := h
      exact set_ok2 hw hT F h1 h2 h3 h4 h5
    · cases h
  | .par i j a b, P, X, x, F, hp, tk, h => by
    have h : (match (generalizing := false) x with
      | .Assign [.Tuple [.Name y yp, .Name z zp] _ _] (.Tuple [u, v] _ _) _ => isFn P && parB P i y && parB P j z && decide (i ≠ j) && !(z == y) && (yp.line == zp.line) && notConst [u, v] && noStar u && noStar v && chkE a P u && chkE b P v
      | _ => false) = true := h
    split at h
    · simp only [Bool.and_eq_true, decide_eq_true_eq, Bool.not_eq_true', parB, beq_iff_eq (α := Nat)] at h
      obtain ⟨⟨⟨⟨⟨⟨⟨⟨⟨⟨h1, h2⟩, h3⟩, h4⟩, h5⟩, h6⟩, h7⟩, h8⟩, h9⟩, h10⟩, h11⟩ := h
      have hb := blk_fun (kind_fun F (isFn_fun h1))
      have k1 : X.env.scope.names.lookup _ = some .local := F.sc ▸ h2.2
      have k2 : X.env.scope.names.lookup _ = some .local := F.sc ▸ h3.2
      exact s_par (ps_par (F.cal (isFn_nh h1)) F.nod (F.at_ h2.1) (F.at_ h3.1) h4 k1 k2 (pa_cons (okE hw hT a F h10) (pa_cons (okE hw hT b F h11) pa_nil (star_cons h9)) (star_cons h8)) (par2_sw hb k1 k2 h5 h6 h7 h8 h9) rfl)
    · cases h
  | .par3 i j k a b c, P, X, x, F, hp, tk, h => by
    have h : (match (generalizing := false) x with
      | .Assign [.Tuple [.Name y yp, .Name z zp, .Name t tp] _ _] (.Tuple [u, v, w] _ _) _ => isFn P && parB P i y && parB P j z && parB P k t && decide (i ≠ j) && decide (i ≠ k) && decide (j ≠ k) && !(z == y) && !(t == y) && !(t == z) && (yp.line == zp.line) && (yp.line == tp.line) &&
        notConst [u, v, w] && noStar u && noStar v && noStar w && chkE a P u && chkE b P v && chkE c P w
      | _ => false) = true := h
    split at h
    · simp only [Bool.and_eq_true, decide_eq_true_eq, Bool.not_eq_true', parB, beq_iff_eq (α := Nat)] at h
      obtain ⟨⟨⟨⟨⟨⟨⟨⟨⟨⟨⟨⟨⟨⟨⟨⟨⟨⟨h1, h2⟩, h3⟩, h4⟩, h5⟩, h6⟩, h7⟩, h8⟩, h9⟩, h10⟩, h11⟩, h12⟩, h13⟩, h14⟩, h15⟩, h16⟩, h17⟩, h18⟩, h19⟩ := h
      have hb := blk_fun (kind_fun F (isFn_fun h1))
      have k1 : X.env.scope.names.lookup _ = some .local := F.sc ▸ h2.2
      have k2 : X.env.scope.names.lookup _ = some .local := F.sc ▸ h3.2
      have k3 : X.env.scope.names.lookup _ = some .local := F.sc ▸ h4.2
      exact s_par3 (ps_par3 (F.cal (isFn_nh h1)) F.nod (F.at_ h2.1) (F.at_ h3.1) (F.at_ h4.1) h5 h6 h7 k1 k2 k3 (pa_cons (okE hw hT a F h17) (pa_cons (okE hw hT b F h18) (pa_cons (okE hw hT c F h19) pa_nil (star_cons h16)) (star_cons h15)) (star_cons h14)) (par3_sw hb k1 k2 k3 h8 h9 h10 h11 h12 h13 h14 h15 h16) rfl)
    · cases h
  | .asg tg a, P, X, x, F, hp, tk, h => by
    have h : (match (generalizing := false) x with
      | .Assign [.Tuple ts k p] v _ => parNo P ts v && chkG P tg (.Tuple ts k p) && chkE a P v && isFun P
      | _ => false) = true := h
    split at h
    · rename_i ts k p v pos _
      simp only [Bool.and_eq_true] at h
      obtain ⟨⟨⟨h1, h2⟩, h3⟩, h4⟩ := h
      refine s_asg (ps_asg (okE hw hT a F h3) (okG tg F h2) (sole_other rfl) ?_ rfl)
      exact par_sw F h1
    · cases h
  | .sub o i a, P, X, x, F, hp, tk, h => by
    have h : (match (generalizing := false) x with
      | .Assign [.Subscript y z _] v _ => chkE o P y && chkE i P z && chkE a P v && noSlice z
      | _ => false) = true := h
    split at h
    · simp only [Bool.and_eq_true] at h
      obtain ⟨⟨⟨h1, h2⟩, h3⟩, h4⟩ := h
      exact s_sub F.cn hw (ps_asg (okE hw hT a F h3) (pg_sub (okE hw hT o F h1) (okE hw hT i F h2) set_sem (slice_asg h4)) (sole_other rfl) rfl rfl)
    · cases h
  | .augs c i o a, P, X, x, F, hp, tk, h => by
    have h : (match (generalizing := false) x with
      | .AugAssign (.Subscript y z _) q v _ => decide (q = o) && (match (generalizing := false) o with
        | .Add => true
        | .Sub => true
        | _ => false) && chkE c P y && chkE i P z && chkE a P v && noSlice z
      | _ => false) = true := h
    split at h
    · simp only [Bool.and_eq_true, decide_eq_true_eq] at h
      obtain ⟨⟨⟨⟨⟨h1, h2⟩, h3⟩, h4⟩, h5⟩, h6⟩ := h
      subst h1
      split at h2
      · exact s_augs (fun i j => rfl) F.cn hw (ps_augS (okE hw hT c F h3) (okE hw hT i F h4) get_sem (okE hw hT a F h5) ip_add set_sem (slice_aug h6))
      · exact s_augs (fun i j => rfl) F.cn hw (ps_augS (okE hw hT c F h3) (okE hw hT i F h4) get_sem (okE hw hT a F h5) ip_sub set_sem (slice_aug h6))
      · cases h2
    · cases h
  | .iff c a b, P, X, x, F, hp, tk, h => by
    have h : (match (generalizing := false) x with
      | .If t y z _ => chkT c P t && chkSs a P y && chkSs b P z
      | _ => false) = true := h
    split at h
    · simp only [Bool.and_eq_true] at h
      exact s_if (okT hw hT c F h.1.1) (okSs a F hp tk h.1.2) (okSs b F hp tk h.2)
    · cases h
  | .forr tg it body, P, X, x, F, hp, tk, h => by
    have h : (match (generalizing := false) x with
      | .For t i y [] _ => (nh P && chkI it P t i) && chkG P tg t && chkSs body P y
      | _ => false) = true := h
    split at h
    · simp only [Bool.and_eq_true] at h
      obtain ⟨hi, hs⟩ := okI hw hT it F h.1.1.2
      exact s_for hp (F.cal h.1.1.1) hi (okG tg F h.1.2) (okSs body F hp tk h.2) hs
    · cases h
  | .whl n c body, P, X, x, F, hp, tk, h => by
    have h : (match (generalizing := false) x with
      | .While t y [] _ => chkT c P t && chkSs body P y
      | _ => false) = true := h
    split at h
    · simp only [Bool.and_eq_true] at h
      exact s_whl hp (okT hw hT c F h.1) (okSs body F hp tk h.2)
    · cases h
  | .ret a, P, X, x, F, hp, tk, h => by
    have h : (match (generalizing := false) x with
      | .Return (some y) _ => chkE a P y
      | _ => false) = true := h
    split at h
    · exact s_ret hw (okE hw hT a F h)
    · cases h
  | .ret0, P, X, x, F, hp, tk, h => by
    have h : (match (generalizing := false) x with
      | .Return none _ => true
      | _ => false) = true := h
    split at h
    · exact s_ret0
    · cases h
  | .rse, P, X, x, F, hp, tk, h => ps_imp ps_never fun D σ H q => by
    obtain ⟨w, e, s, fl, e1, s1, R, ev, k⟩ := q
    cases (show (none : Out) = some (fl, e1, s1) from ev)
  | .pass, P, X, x, F, hp, tk, h => by
    have h : (match (generalizing := false) x with
      | .Pass _ => true
      | _ => false) = true := h
    split at h
    · exact s_pass
    · cases h
  | .rsx c, P, X, x, F, hp, tk, h => by
    have h : (match (generalizing := false) x with
      | .Raise (some (.Call (.Name y _) [] [] _)) none _ => (nh P && decide (P.xs[c]? = some y)) && glB P.sc y && !(y == ("__debug__" : Str))
      | _ => false) = true := h
    split at h
    · simp only [Bool.and_eq_true, decide_eq_true_eq, Bool.not_eq_true'] at h
      obtain ⟨⟨⟨h0, h1⟩, h2⟩, h3⟩ := h
      obtain ⟨C, e1, e2, e3⟩ := F.xs c _ h1
      exact s_rsx (F.cal h0) tk e3 e1 (F.gl h2) h3 e2
    · cases h
  | .exx f es, P, X, x, F, hp, tk, h => by
    have h : (match (generalizing := false) x with
      | .Expr (.Call (.Name y _) (z :: zs) [] _) _ => decide (P.fs[f]? = some (y, (z :: zs).length)) && glB P.sc y && !(y == ("__debug__" : Str)) && chkEs es P (z :: zs)
      | _ => false) = true := h
    split at h
    · simp only [Bool.and_eq_true, decide_eq_true_eq, Bool.not_eq_true'] at h
      obtain ⟨⟨⟨h1, h2⟩, h3⟩, h4⟩ := h
      obtain ⟨k, c, r, _⟩ := F.fs f _ _ h1
      have hst := chkEs_star es P _ h4
      simp only [List.all_cons, Bool.and_eq_true] at hst
      exact s_exx hw hT (fun lv s vs s' ev => evEs_len es P _ lv s vs s' h4 ev) (e_calX c tk F.cn.gd r (Nat.le_add_right k 2) (F.gl h2) (okEs hw hT es F h4) h3 (star_cons hst.1) (any_star hst.2)) rfl
    · cases h
  | .retx f es, P, X, x, F, hp, tk, h => by
    have h : (match (generalizing := false) x with
      | .Return (some (.Call (.Name y _) (z :: zs) [] _)) _ => decide (P.fs[f]? = some (y, (z :: zs).length)) && glB P.sc y && !(y == ("__debug__" : Str)) && chkEs es P (z :: zs)
      | _ => false) = true := h
    split at h
    · simp only [Bool.and_eq_true, decide_eq_true_eq, Bool.not_eq_true'] at h
      obtain ⟨⟨⟨h1, h2⟩, h3⟩, h4⟩ := h
      obtain ⟨k, c, r, _⟩ := F.fs f _ _ h1
      have hst := chkEs_star es P _ h4
      simp only [List.all_cons, Bool.and_eq_true] at hst
      exact s_retx hw hT (fun lv s vs s' ev => evEs_len es P _ lv s vs s' h4 ev) (e_calX c tk F.cn.gd r (Nat.le_add_right k 2) (F.gl h2) (okEs hw hT es F h4) h3 (star_cons hst.1) (any_star hst.2))
    · cases h
  | .setx i f es, P, X, x, F, hp, tk, h => by
    have h : (match (generalizing := false) x with
      | .Assign [.Name t _] (.Call (.Name y _) (z :: zs) [] _) _ => isFun P && decide (P.N[i]? = some t) && locB P.sc t && (P.fnB t || decide (P.sc.names.lookup t = some .local)) && decide (P.fs[f]? = some (y, (z :: zs).length)) && glB P.sc y && !(y == ("__debug__" : Str)) && chkEs es P (z :: zs)
      | _ => false) = true := h
    split at h
    · simp only [Bool.and_eq_true, Bool.or_eq_true, decide_eq_true_eq, Bool.not_eq_true'] at h
      obtain ⟨⟨⟨⟨⟨⟨⟨_, g2⟩, g3⟩, g4⟩, h1⟩, h2⟩, h3⟩, h4⟩ := h
      obtain ⟨k, c, r, _⟩ := F.fs f _ _ h1
      have hst := chkEs_star es P _ h4
      simp only [List.all_cons, Bool.and_eq_true] at hst
      exact s_setx hw hT (fun lv s vs s' ev => evEs_len es P _ lv s vs s' h4 ev) (ps_set F.nod (F.at_ g2) (F.loc g3) (e_calX c tk F.cn.gd r (Nat.le_add_right k 2) (F.gl h2) (okEs hw hT es F h4) h3 (star_cons hst.1) (any_star hst.2)) rfl (g4.imp (F.fn _) fun z => by rw [F.sc]; exact z))
    · cases h
theorem okSs : ∀ (as : Sts) {P : Pm} {X : Cx} {xs : List Stmt}, Fit P g T X → PassesOwn (model X.prog X.w) X.A X.env X.xe → L2.Takes X W → chkSs as P xs = true → PSs X xs (tS X.K g W w0 H0 (evSs T as))
  | .nil, P, X, xs, F, hp, tk, h => by
    cases xs with
    | nil => exact s_nil
    | cons _ _ => cases h
  | .cons a as, P, X, xs, F, hp, tk, h => by
    cases xs with
    | nil => cases h
    | cons y ys =>
      have h : (chkS a P y && chkSs as P ys) = true := h
      rw [Bool.and_eq_true] at h
      exact s_cons (okS a F hp tk h.1) (okSs as F hp tk h.2)
end
end
/-! ### defs -/
theorem start_env {K : PySem.W.Frag} {w : Wd} : ∀ {vs : List Val} {xs : List V} {m : Nat}, All2 (Rv K w) vs xs → All2 (fun (o : Option Val) (p : Option V) => ∀ v, o = some v → ∃ x, p = some x ∧ Rv K w v x) (vs.map some ++ List.replicate m none) (xs.map some ++ List.replicate m none)
  | [], _, 0, .nil => .nil
  | [], _, m + 1, .nil => by
    rw [List.replicate_succ, List.replicate_succ]
    exact .cons (fun v h => by cases h) (start_env (m := m) .nil)
  | v :: vs, x :: xs, m, .cons r rs => .cons (fun u h => by cases h; exact ⟨x, rfl, r⟩) (start_env rs)
theorem endX_inv {o : Out} {r : Val ⊕ Nat} {G : List SO} (h : endX o = some (r, G)) : ∃ fl e s, o = some (fl, e, s) ∧ noG s.G = true ∧ G = s.G ∧ ((∃ v, fl = .rt v ∧ r = .inl v ∧ noV [v] = true) ∨ (fl = .nx ∧ r = .inl (.d .none)) ∨ ∃ c, fl = .xc c ∧ r = .inr c) := by
  unfold endX at h
  split at h
  · rename_i v e s
    split at h
    · rename_i hg
      cases h
      rw [Bool.and_eq_true] at hg
      exact ⟨_, e, s, rfl, hg.1, rfl, .inl ⟨v, rfl, rfl, hg.2⟩⟩
    · cases h
  · rename_i e s
    split at h
    · rename_i hg
      cases h
      exact ⟨_, e, s, rfl, hg, rfl, .inr (.inl ⟨rfl, rfl⟩)⟩
    · cases h
  · rename_i c e s
    split at h
    · rename_i hg
      cases h
      exact ⟨_, e, s, rfl, hg, rfl, .inr (.inr ⟨c, rfl, rfl⟩)⟩
    · cases h
  · cases h
/-- a def keeps its promise, those that it calls theirs -/
theorem fn_run {Pg : Program} {W : World} {K : PySem.W.Frag} {mg : Str → Option Value} {base : Heap} {x : Str} {pr : Arguments} {bd : List Stmt} {sc : Scope} {f : Addr} {fd : FuncData} {P : Pm} {g : Gx} {ps : List Str} {k : Nat} {T : Tx} {d : Df}
    (hsm : smB K = true) (F : FunD K x x pr bd sc [] [] f fd) (gx : mg x = some (.ref f)) (b : Binds K fd ps []) (S : FnScope P.N ps sc) (hps : ps.length = d.ar) (hN : P.N.length = d.sl) (hsc : P.sc = sc)
    (hbl : ∀ x ∈ blNames, mg (Str.ofString x) = none) (hcs : ∀ k x, P.cn[k]? = some x → ∃ u v, mg x = some u ∧ RelV v u ∧ ∀ d, T.cs k = some d → ∀ F, Rp K F d v)
    (hfs : ∀ f x n, P.fs[f]? = some (x, n) → CalG Pg W K mg base k x (spE K g (T.xr f) n))
    (hxk : P.xk = [])
    (hxs : ∀ c x, P.xs[c]? = some x → ∃ C, mg x = some (.ref C) ∧ g.cl c = .ref C ∧ XcF K C)
    (hsd : ∀ (cdv : Value) (A : Around) (outer : List Env) (s : Shared) (H : Hp) (E : XK) (y : Str) (ws : List Str), PySem.W.codeIn K cdv x = true → (∃ oc od osl, K.lookup f = some ⟨oc, od, .func fd, osl⟩ ∧ fd.code = cdv) → P.sd = some (y, ws) → ∃ k', SaidF (cxOf (L2.CX Pg W) Pg W K mg base P.N x sc f cdv A outer s H E) g k' y ws ∧ k' ≤ k + 1)
    (htb : ∀ (cdv : Value), PySem.W.codeIn K cdv x = true → (∃ oc od osl, K.lookup f = some ⟨oc, od, .func fd, osl⟩ ∧ fd.code = cdv) → P.lm = true → ∃ c P', LamX.TabB base mg c P' ∧ cdv = .ref c ∧ (P', x ++ ".<locals>." ++ "<lambda>") ∈ g.T ∧ ∀ p ∈ g.T, p.1 = P' → p.2 = x ++ ".<locals>." ++ "<lambda>")
    (hc : chkSs d.body P bd = true) : FnG Pg W K mg base (k + 3) f fd ps (spE K g (runX T d) d.ar) := by
  obtain ⟨oc, od, dV, kV, doc, pm, an, cdv0, ct, osl, efd, lk, hcd, _, _⟩ := F.ex
  refine fng_of2 F S (fun vs H Q E q => q.1.trans hps.symm) fun cdv hcd hfd A outer s H xs Q E gd r q => ?_
  obtain ⟨hl, w, vs, G, rr, G', hn, hwT, hwt, R, rv, hr, kk⟩ := q
  generalize hX : cxOf (L2.CX Pg W) Pg W K mg base P.N x sc f cdv A outer s H E = X
  have Ft : Fit P g T X := by
    subst hX
    exact ⟨⟨by
        have := r.un
        show (A.deeper _).units + 200 < cLine
        omega, gd, hsm⟩, fun _ => rfl, rfl, S.nd, hsc.symm, fun _ _ => rfl, hbl, hcs, fun f x n h => ⟨k, hfs f x n h, r, fun y ws z => hsd cdv A outer s H E y ws hcd hfd z⟩, (fun k c a d G z => by rw [hxk] at z; cases z), hxs, fun z => ⟨r.depth, htb cdv hcd hfd z⟩⟩
  have hp : PassesOwn (model X.prog X.w) X.A X.env X.xe := by
    subst hX
    exact L2.passes_of rfl
  have htk : L2.Takes X (fun cls d _ H => E cls d H) := by
    subst hX
    exact L2.takes_of rfl rfl rfl rfl
  have eK : X.K = K := by subst hX; rfl
  have run := okSs (w0 := w) (H0 := H) hn ⟨hwT, hwt⟩ d.body Ft hp htk hc
  rw [eK] at run
  refine ⟨_, run, ?_⟩
  have hv : vs.length = d.ar := rv.len.trans hl
  have hr : endX (evSs T d.body (startL d.ar d.sl vs) ⟨[], G⟩) = some (rr, G') := by
    have z : (if vs.length = d.ar then endX (evSs T d.body (startL d.ar d.sl vs) ⟨[], G⟩) else none) = some (rr, G') := hr
    rw [if_pos hv] at z
    exact z
  obtain ⟨fl, e1, s1, hev, hg, eG, hfl⟩ := endX_inv hr
  have env0 : All2 (fun (o : Option Val) (p : Option V) => ∀ v, o = some v → ∃ x, p = some x ∧ Rv K w v x) (startL d.ar d.sl vs) (L2.start P.N xs) := by
    have q := start_env (m := d.sl - d.ar) rv
    have e1 : L2.start P.N xs = xs.map some ++ List.replicate (d.sl - d.ar) none := by
      unfold L2.start
      rw [hN, ← hl]
    rw [e1]
    exact q
  have R0 : Rl K w H w (startL d.ar d.sl vs) ⟨[], G⟩ (L2.start P.N xs) H := R.reenv env0
  refine ⟨w, _, _, fl, e1, s1, R0, hev, fun w1 σ1 H1 R1 l1 => ?_⟩
  have L1 : Le w H { w1 with nu := [] } H1 := ⟨l1.f, l1.fn, l1.mu, ⟨[], by simp [hn], by simp⟩, l1.same0, l1.trk, l1.teq, l1.tb⟩
  have R2 : Rl K w H { w1 with nu := [] } [] ⟨[], G'⟩ [] H1 := ⟨L1, R1.fh, R1.ft, by
    show (w1.mu ++ []).Nodup
    rw [List.append_nil]
    exact (List.nodup_append.mp R1.nd).1, fun a ha => R1.tr a (List.mem_append_left _ (by simpa using ha)), by rw [eG]; exact noG_ok hg R1.G, .nil, .nil⟩
  have kk := kk _ H1 rfl R2 L1
  rcases hfl with ⟨v, e2, e3, hv2⟩ | ⟨e2, e3⟩ | ⟨c, e2, e3⟩
  · subst e2 e3
    intro z rz
    refine kk z ?_
    have := noV_ok (vs := [v]) (xs := [z]) hv2 (.cons rz .nil)
    cases this with
    | cons a _ => exact a
  · subst e2 e3
    exact kk .non (show Rp _ _ _ _ from rp_none)
  · subst e2 e3
    exact kk
end Ev

/-! a def that looks at the exception that is handled -/
namespace Ev
open PySem PySem.Spec PyProof.Rows L2 LamX
theorem call_isx {X : Cx} {a D : Addr} {oe : Obj} (hp : (a, oe) ∈ X.pn) (C : ExcC X.K D) (hz : Zc (.ref D) none oe) (hf : ∃ vs, oe.data = .fields vs) : CallR X (.builtin "isinstance") (rIsE X.K D a) := by
  intro pins s σ H xs us Q I r h
  obtain ⟨c, cv, b, rfl, hcv, e, q⟩ := h
  cases r with
  | cons rx rr =>
    cases rr with
    | cons rt rr =>
      cases rr
      cases rx
      have ec := hcv _ rt
      subst ec
      obtain ⟨hget, _⟩ := I.pin (a, oe) (List.mem_append.mpr (.inl hp))
      obtain ⟨vs, hv⟩ := hf
      have J : PySem.W.InstAt s.heap a oe D none := by
        obtain ⟨oc, od, oda, osl⟩ := oe
        obtain ⟨h1, h2⟩ := hz
        dsimp only at h1 h2 hv
        subst h1 h2 hv
        exact ⟨hget, rfl, rfl, trivial⟩
      exact PySem.W.kia_one (PySem.W.handS_kitx_exc C.hg C.hk C.hs C.hd C.ha C.hn C.ht C.hm) I.kIn J e (fun z => nomatch z) fun tk => ⟨.bl b, H, I.kept (t' := tk) fun _ _ z => z, rfl, q⟩
theorem pe_isx {X : Cx} {a D : Addr} {oe : Obj} {i : Nat} {e c : Str} {cV : V} {cv : Value} {b : Bool} {p1 p2 p3 p4 : Pos} (hp : (a, oe) ∈ X.pn) (C : ExcC X.K D) (hz : Zc (.ref D) none oe) (hf : ∃ vs, oe.data = .fields vs) (hgi : Gl X "isinstance") (hmi : X.mg "isinstance" = none)
    (hN : X.N[i]? = some e) (hv : Vis X.env.scope e) (hd : (e == ("__debug__" : Str)) = false) (hcd : (e == ("__classdict__" : Str)) = false) (hcls : PE X (.Name c p3) (tC cV)) (hcv : ∀ u, RelV cV u → u = cv) (hk : PySem.W.kitOne X.K (.ref D) cv = some b) :
    PE X (.Call (.Name "isinstance" p1) [.Name e p2, .Name c p3] [] p4) (fun σ H Q => σ[i]? = some (some (.ref a)) ∧ Q (.bl b) H) :=
  pe_imp (pe_callB (call_isx hp C hz hf) hgi hmi (by decide +kernel) (pa_cons (pe_var hN hv hd hcd) (pa_cons hcls pa_nil)) (by decide) (by decide) rfl rfl) fun σ H Q h => ⟨.ref a, h.1, cV, cv, b, rfl, hcv, hk, h.2⟩
/-- what the looks at the exception give -/
def isT (a0 : Nat) (bs : Nat → Bool) : XT := fun k vs G => match vs with
  | [.e a] => if a = a0 then some (.inl (.d (.bool (bs k))), G) else none
  | _ => none
/-- a class that is named: an own one, or a built-in one -/
def ClsN (mg : Str → Option Value) (sc : Scope) (c : Str) (cv : Value) : Prop := sc.names.lookup c = some .globalImplicit ∧ (c == ("__debug__" : Str)) = false ∧ ((∃ C, mg c = some (.ref C) ∧ cv = .ref C) ∨ (mg c = none ∧ ∃ t, bootBuiltins c = some (.type t) ∧ cv = .type t ∧ c ≠ "__name__"))
theorem pe_cls {X : Cx} {c : Str} {cv : Value} {pos : Pos} (h : ClsN X.mg X.env.scope c cv) : ∃ cV, PE X (.Name c pos) (tC cV) ∧ ∀ u, RelV cV u → u = cv := by
  obtain ⟨hg, hd, ⟨C, hm, rfl⟩ | ⟨hm, t, hb, rfl, hn⟩⟩ := h
  · exact ⟨.ref C, pe_glob hg hm rfl hd, fun u r => r⟩
  · exact ⟨.ty t, pe_bltn hg hm hb rfl hn hd, fun u r => r⟩
section
variable {Pg : Program} {W : World} {K : PySem.W.Frag} {mg : Str → Option Value} {base : Heap}
theorem fnr_of {y x : Str} {pr : Arguments} {bd : List Stmt} {sc : Scope} {f D : Addr} {fd : FuncData} {P : Pm} {k : Nat} {T0 : List (Addr × Str)} {wd : Str} {d : Sts} {bs : Nat → Bool} (hsm : smB K = true) (F : FunD K y y pr bd sc [] [] f fd) (S : FnScope P.N [x] sc) (hsc : P.sc = sc) (hh : P.hot = true)
    (hfs : P.fs = []) (hxs : P.xs = []) (hcn : P.cn = []) (hlm : P.lm = false) (C : ExcC K D) (hbl : ∀ x ∈ blNames, mg (Str.ofString x) = none) (hgi : sc.names.lookup ("isinstance" : Str) = some .globalImplicit) (hxk : ∀ k c, P.xk[k]? = some c → ∃ cv, ClsN mg sc c cv ∧ PySem.W.kitOne K (.ref D) cv = some (bs k)) (hc : chkSs d P bd = true)
    (hev : ∀ a, ∃ e1 s1, evSs ⟨fun _ => none, isT a bs⟩ d (startL 1 P.N.length [.e a]) ⟨[], []⟩ = some (.rt (.d (.str wd)), e1, s1)) : FnR Pg W K mg base T0 (k + 1) f fd x (.ref D) wd := by
  intro A outer s H args Q p gd hr hhd hz hf hpin e0 hb hQ
  obtain ⟨oc, od, dV, kV, doc, pm, an, cdv, ct, osl, rfl, lk, hcd, _, _⟩ := F.ex
  have KX : K.In s.heap := e0.mod.kin.keeps fun b o e => (e0.bs b o e).1
  have lim : s.heap.NoLimit := e0.mod.nolimit.keeps fun b o e => (e0.bs b o e).1
  have hkind : ∀ y ∈ [x].zip [Value.ref p.1], sc.names.lookup y.1 = some .local ∨ (sc.names.lookup y.1 = some .cell ∧ ((cellsFrom (s.heap.objs.size + 1) sc.names []).lookup y.1).isSome = true) := fun ⟨n, v⟩ hy => by
    rcases S.par n (List.of_mem_zip hy).1 with q | q
    · exact .inl q
    · exact .inr ⟨q, PySem.W.cellsFrom_some _ _ _ (.inl q)⟩
  refine codeAny_call_function hr.depth (KX _ _ lk) rfl S.co S.gen rfl (PySem.W.codeRec_of KX hcd) (hb _ _ _ _ ?_)
  refine wpAny_newFunctionEnv_cells (binds := [x].zip [Value.ref p.1]) S.kind hkind fun env he s1 xx => ?_
  subst he
  refine ⟨lim.keeps xx.toInCall.keep, codeAny_func ?_⟩
  have hrd := hr.deeper (envOfC y sc s.heap.objs.size f cdv)
  have I : Inv (L2H.cxH C8.CX0 Pg W K mg base P.N y sc f cdv A outer s H C8.E0 p) [] (L2.start P.N [.ref p.1]) H s1 := L2H.inv_startH S hpin e0 rfl (.cons rfl .nil) xx
  obtain ⟨T1, hT1, hT2⟩ : ∃ T1 : List (Addr × Str), Tabs T1 H ∧ (Tabs T0 H → T1 = T0) := by
    by_cases h : Tabs T0 H
    · exact ⟨T0, h, fun _ => rfl⟩
    · exact ⟨[], (fun x hx => absurd hx (by simp)), fun z => absurd z h⟩
  generalize hX : L2H.cxH C8.CX0 Pg W K mg base P.N y sc f cdv A outer s H C8.E0 p = X at I
  have eK : X.K = K := by subst hX; rfl
  have Ft : Fit P ⟨fun _ => .none, T1⟩ ⟨fun _ => none, isT p.1 bs⟩ X := by
    subst hX
    refine ⟨⟨?_, gd, hsm⟩, fun z => ?_, rfl, S.nd, hsc.symm, fun _ _ => rfl, hbl, fun k x z => ?_, fun f x n z => ?_, fun k c a d G h1 h2 => ?_, fun c x z => ?_, fun z => by rw [hlm] at z; cases z⟩
    · have := hrd.un
      show (A.deeper _).units + 200 < cLine
      omega
    · unfold nh at z; rw [hh] at z; cases z
    · rw [hcn] at z; cases z
    · rw [hfs] at z; cases z
    · obtain ⟨cv, c1, c2⟩ := hxk k c h1
      have h2 : (if a = p.1 then some ((.inl (.d (.bool (bs k))) : Val ⊕ Nat), ([] : List SO)) else none) = some (.inl (.d d), G) := h2
      split at h2
      · rename_i ea
        cases h2
        subst ea
        refine ⟨.bl (bs k), fun F => rp_bool, fun i e p1 p2 p3 p4 hN hv hd hcd => ?_⟩
        obtain ⟨cV, q1, q2⟩ := pe_cls (X := L2H.cxH C8.CX0 Pg W K mg base P.N y sc f cdv A outer s H C8.E0 p) (pos := p3) c1
        exact pe_isx (oe := p.2) (List.mem_singleton.mpr rfl) C hz hf hgi (hbl "isinstance" (by decide)) hN hv hd hcd q1 q2 c2
      · cases h2
    · rw [hxs] at z; cases z
  have hp : PassesOwn (model X.prog X.w) X.A X.env X.xe := by
    subst hX
    exact L2.passes_of rfl
  have run := okSs (W := fun _ _ _ _ => False) (w0 := ⟨fun a => match H a with | some (.tbl _) => none | o => o, [], [], T1⟩) (H0 := H) rfl ⟨rfl, hT1⟩ d Ft hp takes0 hc
  obtain ⟨e1, s2, hev⟩ := hev p.1
  have R0 : Rl K ⟨fun a => match H a with | some (.tbl _) => none | o => o, [], [], T1⟩ H ⟨fun a => match H a with | some (.tbl _) => none | o => o, [], [], T1⟩ (startL 1 P.N.length [.e p.1]) ⟨[], []⟩ (L2.start P.N [.ref p.1]) H := by
    refine ⟨.refl, fun a o h => ?_, fun a ps h => ?_, List.nodup_nil, (fun a ha => by cases ha), .nil, .nil, ?_⟩
    · have h : (match H a with | some (.tbl _) => none | o => o) = some o := h
      split at h
      · cases h
      · exact h
    · have h : (match H a with | some (.tbl _) => none | o => o) = some (.tbl ps) := h
      split at h
      · cases h
      · rename_i q
        exact q ps h
    · exact start_env (vs := [.e p.1]) (xs := [.ref p.1]) (m := P.N.length - 1) (.cons rfl .nil)
  rw [eK] at run
  subst hX
  refine wpAny_mono (run.run [] s1 (L2.start P.N [.ref p.1]) H { nx := fun _ H' => Q .non H', rt := Q } I ⟨_, _, _, _, e1, s2, R0, hev, fun w1 σ1 H1 R1 l1 z rz => ?_⟩) (fun fl s' hs => ?_) fun e s' hs => hs
  · have rz : Rp K w1.F (.str wd) z := rz
    unfold Rp at rz
    subst rz
    refine hQ H1 ⟨fun b o h ht => l1.same0 b o h ht (by simp) (by simp), fun b hb => ?_, fun t => ?_⟩
    · cases q : H b with
      | none => rfl
      | some o => exact absurd hb (l1.trk b (by rw [q]; simp))
    · have := l1.tb hT1
      rw [hT2 t] at this
      exact this
  · have fin : ∀ {σ' : L2.St} {H' : Hp} {v : V} {u : Value}, Inv (L2H.cxH C8.CX0 Pg W K mg base P.N y sc f cdv A outer s H C8.E0 p) [] σ' H' s' → RelV v u → Q v H' → CE outer Pg W H s Q u s' :=
      fun {σ' H' v u} J rv q => ⟨v, H', J.os, J.bare, J.base, J.hok, rv, q⟩
    cases fl with
    | ret u =>
      obtain ⟨v, σ', H', J, rv, q⟩ := hs
      exact fin J rv q
    | next =>
      obtain ⟨σ', H', J, q⟩ := hs
      exact fin (v := V.non) (u := Value.none) J rfl q
    | brk =>
      obtain ⟨_, _, _, q⟩ := hs
      exact False.elim q
    | cont =>
      obtain ⟨_, _, _, q⟩ := hs
      exact False.elim q
end
end Ev

/-! the defs of a row, by the head's facts -/
namespace Ev
open PySem PySem.Spec PyProof.Rows L2 LamX
/-- a def of the row: its statement, its parameters, its slots, its text here -/
structure Dr where
  st : Stmt
  name : Str
  ps : List Str
  N : List Str
  df : Df
def Dr.dd (d : Dr) : He.DefD := ⟨(d.name, none), d.name, d.name, defArgs d.st, defBody d.st, defScope d.st, [], []⟩
/-- the def that tells what a call gave or which refusal it was, the def that looks at a refusal -/
structure Sd where
  said : Dr
  rf : Dr
  e : Str
  xk : List Str
  ws : List Str
/-- a row: its defs, constants, the classes that are raised, the defs that hold lambdas, what the looks at refusals give -/
structure Rw where
  drs : List Dr
  cns : List (Str × PyData)
  xcs : List Str
  sd : Sd
  lam : List Str
  bt : Nat → Nat → Bool
  hs : Bool
def Rw.fs (R : Rw) : List (Str × Nat) := R.drs.map fun d => (d.name, d.df.ar)
def Rw.pm (R : Rw) (d : Dr) : Pm := ⟨d.N, defScope d.st, fun _ => true, R.cns.map (·.1), R.fs, R.xcs, if R.hs && R.lam.contains d.name then some (R.sd.said.name, R.sd.ws) else none, false, [], R.lam.contains d.name⟩
def Rw.ok1 (R : Rw) (d : Dr) : Bool := chkSs d.df.body (R.pm d) (defBody d.st) && C8.scC d.N d.ps (defScope d.st) && decide (d.ps.length = d.df.ar) && decide (d.N.length = d.df.sl)
/-- the look at the def that looks at refusals -/
def Sd.rpm (S : Sd) : Pm := ⟨S.rf.N, defScope S.rf.st, fun _ => true, [], [], [], none, true, S.xk, false⟩
def glX (sc : Scope) (x : Str) : Bool := glB sc x && !(x == ("__debug__" : Str))
def Sd.ok (S : Sd) : Bool := chkSs S.rf.df.body S.rpm (defBody S.rf.st) && C8.scC S.rf.N S.rf.ps (defScope S.rf.st) && decide (S.rf.ps.length = 1) && (S.xk.all fun c => glX (defScope S.rf.st) c) && glX (defScope S.rf.st) "isinstance" &&
  (match S.said.N, S.said.ps with
  | [a, v], [a'] => decide (a = a') && C8.scC S.said.N S.said.ps (defScope S.said.st) && saidB a S.e v S.rf.name (defBody S.said.st) && decide ((defScope S.said.st).names.lookup v = some .local) && glX (defScope S.said.st) S.e && glX (defScope S.said.st) S.rf.name &&
      !(a == ("__debug__" : Str)) && !(a == ("__classdict__" : Str)) && !(v == ("__debug__" : Str)) && !(v == ("__classdict__" : Str))
  | _, _ => false)
def Dr.Bind (d : Dr) : Prop := ∀ (kV doc pm : Value) (an : Option Addr) (cdv ct : Value) (us : List Value), us.length = d.ps.length → bindArgs (PySem.W.fnOf d.name d.name (defArgs d.st) (defBody d.st) (defScope d.st) .none kV doc pm an cdv ct) ⟨us, []⟩ = pure (d.ps.zip us)
mutual
def datB (K : PySem.W.Frag) : PyData → Value → Bool
  | .none, u => (match u with
    | .none => true
    | _ => false)
  | .bool b, u => (match u with
    | .bool c => decide (b = c)
    | _ => false)
  | .int i, u => (match u with
    | .int j _ => decide (i = j)
    | _ => false)
  | .str x, u => (match u with
    | .str y _ => decide (x = y)
    | _ => false)
  | .tuple ds, u => (match u with
    | .ref a => (match K.lookup a with
      | some ⟨.type t, _, .seq its _, _⟩ => decide (t = "tuple") && decide (its.size ≤ 1000) && datBs K ds its.toList
      | _ => false)
    | _ => false)
  | _, _ => false
  termination_by structural a => a
def datBs (K : PySem.W.Frag) : List PyData → List Value → Bool
  | [], us => (match us with
    | [] => true
    | _ => false)
  | d :: ds, us => (match us with
    | u :: us => datB K d u && datBs K ds us
    | _ => false)
  termination_by structural a => a
end
mutual
theorem datB_ok {K : PySem.W.Frag} : ∀ (d : PyData) {u : Value}, datB K d u = true → ∃ v, RelV v u ∧ ∀ F, Rp K F d v
  | .none, u, h => by
    cases u with
    | none => exact ⟨.non, rfl, fun F => rp_none⟩
    | _ => cases h
  | .bool b, u, h => by
    cases u with
    | bool c =>
      have e : b = c := of_decide_eq_true h
      subst e
      exact ⟨.bl b, rfl, fun F => rp_bool⟩
    | _ => cases h
  | .int i, u, h => by
    cases u with
    | int j t =>
      have e : i = j := of_decide_eq_true h
      subst e
      exact ⟨.int i, ⟨t, rfl⟩, fun F => rp_int⟩
    | _ => cases h
  | .str x, u, h => by
    cases u with
    | str y t =>
      have e : x = y := of_decide_eq_true h
      subst e
      exact ⟨.str x, ⟨t, rfl⟩, fun F => rp_str⟩
    | _ => cases h
  | .tuple ds, u, h => by
    cases u with
    | ref a =>
      have h : (match K.lookup a with
        | some ⟨.type t, _, .seq its _, _⟩ => decide (t = "tuple") && decide (its.size ≤ 1000) && datBs K ds its.toList
        | _ => false) = true := h
      split at h
      · rename_i t od its n osl hk
        simp only [Bool.and_eq_true, decide_eq_true_eq] at h
        obtain ⟨⟨h1, h2⟩, h3⟩ := h
        subst h1
        obtain ⟨xs, h4, h5⟩ := datBs_ok ds h3
        refine ⟨.ref a, rfl, fun F => ?_⟩
        unfold Rp
        exact ⟨a, xs, rfl, .inr ⟨_, its, n, hk, rfl, rfl, by rw [size_line]; omega, h4⟩, h5 F⟩
      · cases h
    | _ => cases h
  | .list _, _, h => by cases h
  | .dict _, _, h => by cases h
theorem datBs_ok {K : PySem.W.Frag} : ∀ (ds : List PyData) {us : List Value}, datBs K ds us = true → ∃ xs, Vals xs us ∧ ∀ F, RpA K F ds xs
  | [], us, h => by
    cases us with
    | nil => exact ⟨[], .nil, fun F => by unfold RpA; rfl⟩
    | cons _ _ => cases h
  | d :: ds, us, h => by
    cases us with
    | nil => cases h
    | cons u us =>
      have h : (datB K d u && datBs K ds us) = true := h
      rw [Bool.and_eq_true] at h
      obtain ⟨v, h1, h2⟩ := datB_ok d h.1
      obtain ⟨xs, h3, h4⟩ := datBs_ok ds h.2
      exact ⟨v :: xs, .cons h1 h3, fun F => by unfold RpA; exact ⟨v, xs, rfl, h2 F, h4 F⟩⟩
end
def conB (K : PySem.W.Frag) (q : Str × PyData) : Bool := match PySem.W.nsIn K mainGlobals q.1 with
  | some (some u) => datB K q.2 u
  | _ => false
theorem conB_ok {K : PySem.W.Frag} {h : Heap} {mg : Str → Option Value} (X : K.In h) (G : h.Ns mainGlobals mg) {q : Str × PyData} (e : conB K q = true) : ∃ u v, mg q.1 = some u ∧ RelV v u ∧ ∀ F, Rp K F q.2 v := by
  unfold conB at e
  split at e
  · rename_i u hu
    obtain ⟨v, h1, h2⟩ := datB_ok q.2 e
    exact ⟨u, v, PySem.W.mg_of X G hu, h1, h2⟩
  · cases e
/-- the class that a name means: an own one; ValueError -/
def cvX (K : PySem.W.Frag) (x : Str) : Value := if x = "ValueError" then .type "ValueError" else .ref (He.ga K x)
def Rw.fs1 (R : Rw) : List He.Fa := if R.hs then R.xcs.map (fun x => He.Fa.exm x R.sd.e true) ++ ([.glo R.sd.said.name, .glo R.sd.rf.name, .glo R.sd.e, .free "ValueError"] ++ (R.sd.xk.filter fun x => x ≠ ("ValueError" : Str)).map fun x => .glo x) else []
def Rw.fa (R : Rw) : List He.Fa := R.drs.map (fun d => .glo d.name) ++ (blNames.map (fun n => .free (Str.ofString n)) ++ (R.xcs.flatMap (fun x => [.glo x, .exc x]) ++ R.fs1))
def Rw.fn (R : Rw) : List He.DefD := R.drs.map Dr.dd ++ (if R.hs then [R.sd.said.dd, R.sd.rf.dd] else [])
def Rw.tf (R : Rw) : List He.Defn := R.lam.map fun x => (x, none)
def excB (K : PySem.W.Frag) (D : Addr) : Bool := eqB (PySem.W.findIn K (.ref D) "__getattribute__") (some (some (.builtin "BaseException.__getattribute__"))) && (eqB (PySem.W.findIn K (.ref D) "__getattr__") (some none) && (decide (PySem.W.subIn K (.ref D) (.type "BaseException") = some true) && (PySem.W.hasDictIn K D &&
  (eqB (PySem.W.findIn K (.ref D) "__class__") (some (some (.builtin "object.__class__"))) && (eqB (PySem.W.specialIn K (.builtin "object.__class__") "__get__") (some (some (.builtin "getset_descriptor.__get__"))) && (decide (PySem.W.takesIn K (.builtin "object.__class__") = some true) && decide (PySem.W.mroIn K D (.type "object") = some true)))))))
where eqB (a b : Option (Option Value)) : Bool := He.eqO a b
theorem excB_ok {K : PySem.W.Frag} {D : Addr} (h : excB K D = true) : ExcC K D := by
  unfold excB at h
  simp only [Bool.and_eq_true, decide_eq_true_eq] at h
  obtain ⟨h1, h2, h3, h4, h5, h6, h7, h8⟩ := h
  exact ⟨He.eqO_ok h1, He.eqO_ok h2, h3, h4, He.eqO_ok h5, He.eqO_ok h6, h7, h8⟩
def btB (K : PySem.W.Frag) (D : Addr) (bt : Nat → Bool) (xk : List Str) : Bool := (List.range xk.length).all fun k => decide (PySem.W.kitOne K (.ref D) (cvX K (xk.getD k "")) = some (bt k))
def Rw.ex (R : Rw) (K : PySem.W.Frag) : Bool := smB K && (R.cns.all (conB K) && (((List.range R.xcs.length).all fun c => excB K (He.ga K (R.xcs.getD c "")) && btB K (He.ga K (R.xcs.getD c "")) (R.bt c) R.sd.xk) && decide ((R.tf.map fun p => (He.cT K p).2).Nodup)))
end Ev

/-! the evaluator, step by step -/
namespace Ev
open PySem
section
variable {α β : Type} {T : Tx} {e : Lv} {s : Sto}
@[simp] theorem bd_ap (m : M α) (f : α → M β) (s : Sto) : bd m f s = (m s).bind fun p => f p.1 p.2 := by
  unfold bd; cases m s <;> rfl
@[simp] theorem rt_ap (a : α) (s : Sto) : rt a s = some (a, s) := rfl
@[simp] theorem no_ap (s : Sto) : (no : M α) s = none := rfl
@[simp] theorem ofO_ap (o : Option α) (s : Sto) : ofO o s = o.map fun a => (a, s) := by cases o <;> rfl
@[simp] theorem stp_ap (m : M α) (f : α → Sto → Out) (s : Sto) : stp m f s = (m s).bind fun p => f p.1 p.2 := by
  unfold stp; cases m s <;> rfl
@[simp] theorem sq_nx (e : Lv) (s : Sto) (f : Lv → Sto → Out) : sq (some (.nx, e, s)) f = f e s := rfl
@[simp] theorem sq_rt (v : Val) (e : Lv) (s : Sto) (f : Lv → Sto → Out) : sq (some (.rt v, e, s)) f = some (.rt v, e, s) := rfl
@[simp] theorem sq_none (f : Lv → Sto → Out) : sq none f = none := rfl
@[simp] theorem ite_ap {c : Prop} [Decidable c] (m n : M α) (s : Sto) : (if c then m else n) s = if c then m s else n s := by
  split <;> rfl
@[simp] theorem peek_d (x : PyData) (s : Sto) : peek (.d x) s = some (x, s) := rfl
@[simp] theorem peek_g (n : Nat) (s : Sto) : peek (.g n) s = ((s.G[n]?).bind readO).map fun x => (x, s) := rfl
@[simp] theorem peek_l (n : Nat) (s : Sto) : peek (.l n) s = ((s.L[n]?).bind readO).map fun x => (x, s) := rfl
@[simp] theorem keep_d (x : PyData) (s : Sto) : keep (.d x) s = some (x, s) := rfl
@[simp] theorem keep_l (n : Nat) (s : Sto) : keep (.l n) s = ((s.L[n]?).bind readO).map fun x => (x, { s with L := s.L.set n (.frz x) }) := rfl
@[simp] theorem keepV_d (x : PyData) (s : Sto) : keepV (.d x) s = some (.d x, s) := rfl
@[simp] theorem keepV_g (n : Nat) (s : Sto) : keepV (.g n) s = some (.g n, s) := rfl
@[simp] theorem keepV_e (a : Nat) (s : Sto) : keepV (.e a) s = some (.e a, s) := rfl
@[simp] theorem keepV_s (n : List Int) (s : Sto) : keepV (.s n) s = some (.s n, s) := rfl
@[simp] theorem keepV_l (n : Nat) (s : Sto) : keepV (.l n) s = ((s.L[n]?).bind readO).map fun x => (.d x, { s with L := s.L.set n (.frz x) }) := by
  show bd (keep (.l n)) (fun x => rt (Val.d x)) s = _
  rw [bd_ap, keep_l]
  cases (s.L[n]?).bind readO <;> rfl
@[simp] theorem keeps_nil (s : Sto) : keeps [] s = some ([], s) := rfl
@[simp] theorem keeps_cons (v : Val) (vs : List Val) (s : Sto) : keeps (v :: vs) s = (keep v s).bind fun p => (keeps vs p.2).map fun q => (p.1 :: q.1, q.2) := by
  show bd (keep v) (fun x => bd (keeps vs) fun xs => rt (x :: xs)) s = _
  simp only [bd_ap, rt_ap]
  cases keep v s with
  | none => rfl
  | some p => simp only [Option.bind_some]; cases keeps vs p.2 <;> rfl
@[simp] theorem keepVs_nil (s : Sto) : keepVs [] s = some ([], s) := rfl
@[simp] theorem keepVs_cons (v : Val) (vs : List Val) (s : Sto) : keepVs (v :: vs) s = (keepV v s).bind fun p => (keepVs vs p.2).map fun q => (p.1 :: q.1, q.2) := by
  show bd (keepV v) (fun x => bd (keepVs vs) fun xs => rt (x :: xs)) s = _
  simp only [bd_ap, rt_ap]
  cases keepV v s with
  | none => rfl
  | some p => simp only [Option.bind_some]; cases keepVs vs p.2 <;> rfl
@[simp] theorem readO_lst (vs : List Val) : readO (.lst vs) = (valsD vs).map .list := rfl
@[simp] theorem readO_frz (x : PyData) : readO (.frz x) = some x := rfl
@[simp] theorem readO_dct (x : List (PyData × PyData)) : readO (.dct x) = some (.dict x) := rfl
@[simp] theorem valsD_nil : valsD [] = some [] := rfl
@[simp] theorem valsD_d (x : PyData) (vs : List Val) : valsD (.d x :: vs) = (valsD vs).map (x :: ·) := by
  show (match valD (.d x), valsD vs with | some x, some xs => some (x :: xs) | _, _ => none) = _
  cases valsD vs <;> rfl
@[simp] theorem place_pure (vs : List Val) (s : Sto) : place .pure vs s = (keeps vs s).map fun p => (.d (.list p.1), p.2) := by
  show bd (keeps vs) (fun xs => rt (Val.d (.list xs))) s = _
  rw [bd_ap]; cases keeps vs s <;> rfl
@[simp] theorem place_loc (vs : List Val) (s : Sto) : place .loc vs s = some (.l s.L.length, { s with L := s.L ++ [.lst vs] }) := rfl
@[simp] theorem place_glob (vs : List Val) (s : Sto) : place .glob vs s = (keepVs vs s).map fun p => (.g p.2.G.length, { p.2 with G := p.2.G ++ [.lst p.1] }) := by
  show bd (keepVs vs) (fun vs => fun s => some (Val.g s.G.length, ({ s with G := s.G ++ [.lst vs] } : Sto))) s = _
  rw [bd_ap]; cases keepVs vs s <;> rfl
@[simp] theorem getO_g (n : Nat) (s : Sto) : getO (.g n) s = s.G[n]? := rfl
@[simp] theorem getO_l (n : Nat) (s : Sto) : getO (.l n) s = s.L[n]? := rfl
@[simp] theorem idxV_d (x : PyData) (i : Val) (s : Sto) : idxV (.d x) i s = (peek i s).bind fun p => (idxD x p.1).map fun y => (.d y, p.2) := by
  unfold idxV
  simp only [bd_ap]
  congr 1
  funext p
  simp only [ofO_ap, Option.map_map]
  rfl
@[simp] theorem idxV_s (ns : List Int) (j : Int) (s : Sto) : idxV (.s ns) (.d (.int j)) s = (atP ns j).map fun n => (.d (.int n), s) := by
  unfold idxV
  simp only [bd_ap, peek_d, Option.bind_some, ofO_ap, Option.map_map]
  rfl
theorem idxV_g {n : Nat} {j : Int} {s : Sto} {vs : List Val} (h : s.G[n]? = some (.lst vs)) : idxV (.g n) (.d (.int j)) s = (atP vs j).map fun v => (v, s) := by
  unfold idxV
  simp only [bd_ap, peek_d, Option.bind_some, getO_g, h]
theorem idxV_l {n : Nat} {j : Int} {s : Sto} {vs : List Val} (h : s.L[n]? = some (.lst vs)) : idxV (.l n) (.d (.int j)) s = (atP vs j).map fun v => (v, s) := by
  unfold idxV
  simp only [bd_ap, peek_d, Option.bind_some, getO_l, h]
theorem setV_g {n m : Nat} {j : Int} {s : Sto} {vs : List Val} {x : PyData} (h : s.G[n]? = some (.lst vs)) (hj : ixP vs.length j = some m) : setV (.g n) (.d (.int j)) (.d x) s = some ((), { s with G := s.G.set n (.lst (vs.set m (.d x))) }) := by
  unfold setV
  simp only [bd_ap, peek_d, Option.bind_some, keepV_d, getO_g, h, hj]
  rfl
@[simp] theorem b1V_d (f : B1) (x : PyData) (s : Sto) : b1V f (.d x) s = (b1D f x).map fun y => (.d y, s) := by
  show bd (peek (.d x)) (fun x => ofO ((b1D f x).map Val.d)) s = _
  simp only [bd_ap, peek_d, Option.bind_some, ofO_ap, Option.map_map]
  rfl
@[simp] theorem b1V_len (ns : List Int) (s : Sto) : b1V .len (.s ns) s = some (.d (.int ns.length), s) := rfl
@[simp] theorem callV_ap (f : Nat) (vs : List Val) (s : Sto) : callV T f vs s = if noG s.G then (T.fn f vs s.G).map fun p => (p.1, { s with G := p.2 }) else none := rfl
/-! the text -/
@[simp] theorem x_varE (i : Nat) : varE i e s = (e[i]?).bind fun o => o.map fun v => (v, s) := by
  unfold varE
  cases e[i]? with
  | none => rfl
  | some o => cases o <;> rfl
@[simp] theorem x_var (i : Nat) : evE T (.var i) e = varE i e := rfl
@[simp] theorem x_lit (x : PyData) : evE T (.lit x) e = rt (.d x) := rfl
@[simp] theorem x_glo (k : Nat) : evE T (.glo k) e = ofO ((T.cs k).map .d) := rfl
@[simp] theorem x_bin (o : Operator) (a b : Ex) : evE T (.bin o a b) e = bd (evE T a e) fun v => bd (evE T b e) fun u => bd (peek v) fun x => bd (peek u) fun y => ofO ((binD o x y).map .d) := rfl
@[simp] theorem x_neg (a : Ex) : evE T (.neg a) e = bd (evE T a e) fun v => bd (peek v) fun x => ofO ((negD x).map .d) := rfl
@[simp] theorem x_cmp (o : CmpOp) (a b : Ex) : evE T (.cmp o a b) e = bd (evE T a e) fun v => bd (evE T b e) fun u => bd (peek v) fun x => bd (peek u) fun y => ofO ((cmpD o x y).map fun c => .d (.bool c)) := rfl
@[simp] theorem x_chn (o1 o2 : CmpOp) (a b c : Ex) : evE T (.chn o1 o2 a b c) e = bd (evE T a e) fun v => bd (evE T b e) fun u => bd (peek v) fun x => bd (peek u) fun y => bd (ofO (cmpD o1 x y)) fun k =>
      if k then bd (evE T c e) fun w => bd (peek u) fun y => bd (peek w) fun z => ofO ((cmpD o2 y z).map fun c => .d (.bool c)) else rt (.d (.bool false)) := rfl
@[simp] theorem x_and (es : Exs) : evE T (.and es) e = evA T es e := rfl
@[simp] theorem x_or (es : Exs) : evE T (.or es) e = evO T es e := rfl
@[simp] theorem x_not (a : Ex) : evE T (.not a) e = bd (evE T a e) fun v => bd (peek v) fun x => bd (ofO (truthD x)) fun k => rt (.d (.bool !k)) := rfl
@[simp] theorem x_ife (c : Ct) (a b : Ex) : evE T (.ife c a b) e = bd (evT T c e) fun k => if k then evE T a e else evE T b e := rfl
@[simp] theorem x_tup (es : Exs) : evE T (.tup es) e = bd (evEs T es e) fun vs => bd (keeps vs) fun xs => if xs.length ≤ 16777216 then rt (.d (.tuple xs)) else no := rfl
@[simp] theorem x_lst (w : Wh) (es : Exs) : evE T (.lst w es) e = bd (evEs T es e) fun vs => if vs.length ≤ 16777216 then place w vs else no := rfl
@[simp] theorem x_dct0 : evE T .dct0 e s = some (.l s.L.length, { s with L := s.L ++ [.dct []] }) := rfl
@[simp] theorem x_idx (a b : Ex) : evE T (.idx a b) e = bd (evE T a e) fun v => bd (evE T b e) fun u => idxV v u := rfl
@[simp] theorem x_slc (a : Ex) (lo hi : Xo) : evE T (.slc a lo hi) e = bd (evE T a e) fun v => bd (evP T lo e) fun i => bd (evP T hi e) fun j => bd (peek v) fun x => ofO ((sliceD i j x).map .d) := rfl
@[simp] theorem x_rev (a : Ex) : evE T (.rev a) e = bd (evE T a e) fun v => bd (peek v) fun x => ofO ((revD x).map .d) := rfl
@[simp] theorem x_call (f : Nat) (es : Exs) : evE T (.call f es) e = bd (evEs T es e) fun vs => bd (keepVs vs) fun vs => callV T f vs := rfl
@[simp] theorem x_b1 (f : B1) (a : Ex) : evE T (.b1 f a) e = bd (evE T a e) fun v => b1V f v := rfl
@[simp] theorem x_b2 (f : B2) (a b : Ex) : evE T (.b2 f a b) e = bd (evE T a e) fun v => bd (evE T b e) fun u => bd (peek v) fun x => bd (peek u) fun y => ofO ((b2D f x y).map .d) := rfl
@[simp] theorem x_isi (a : Ex) (t : Ty) : evE T (.isi a t) e = bd (evE T a e) fun v => bd (peek v) fun x => rt (.d (.bool (isiD t x))) := rfl
@[simp] theorem x_get (d k x : Ex) : evE T (.get d k x) e = bd (evE T d e) fun d => bd (dctV d) fun _ => bd (evE T k e) fun k => bd (evE T x e) fun x => getV d k x := rfl
@[simp] theorem x_app (o a : Ex) : evE T (.app o a) e = bd (evE T o e) fun o => bd (lstV o) fun _ => bd (evE T a e) fun a => bd (appV o a) fun _ => rt (.d .none) := rfl
theorem x_comp (w : Wh) (elt : Ex) (tg : Tg) (it : Ix) (cd : Co) (own : List Nat) : evE T (.comp w elt tg it cd own) e = bd (evI T it e) fun xs => bd (compL (compF w tg own (evC T cd) (evE T elt) e) xs) fun vs => if vs.length ≤ 16777216 then place w vs else no := rfl
@[simp] theorem x_Es0 : evEs T .nil e = rt [] := rfl
@[simp] theorem x_Es (a : Ex) (es : Exs) : evEs T (.cons a es) e = bd (evE T a e) fun v => bd (evEs T es e) fun vs => rt (v :: vs) := rfl
@[simp] theorem x_A1 (a : Ex) : evA T (.cons a .nil) e = evE T a e := rfl
@[simp] theorem x_A (a b : Ex) (es : Exs) : evA T (.cons a (.cons b es)) e = bd (evE T a e) fun v => bd (peek v) fun x => bd (ofO (truthD x)) fun k => if k then evA T (.cons b es) e else rt v := rfl
@[simp] theorem x_O1 (a : Ex) : evO T (.cons a .nil) e = evE T a e := rfl
@[simp] theorem x_O (a b : Ex) (es : Exs) : evO T (.cons a (.cons b es)) e = bd (evE T a e) fun v => bd (peek v) fun x => bd (ofO (truthD x)) fun k => if k then rt v else evO T (.cons b es) e := rfl
@[simp] theorem x_P0 : evP T .none e = rt none := rfl
@[simp] theorem x_P (a : Ex) : evP T (.some a) e s = (evE T a e s).bind fun p => (peek p.1 p.2).bind fun q => (match q.1 with | .int i => some (some i, q.2) | _ => none) := by
  show bd (evE T a e) (fun v => bd (peek v) fun x => match x with | .int i => rt (some i) | _ => no) s = _
  simp only [bd_ap]
  congr 1
  funext p
  congr 1
  funext q
  cases q.1 <;> rfl
@[simp] theorem x_C0 : evC T .none e = rt true := rfl
@[simp] theorem x_C (c : Ct) : evC T (.some c) e = evT T c e := rfl
@[simp] theorem x_Tv (a : Ex) : evT T (.v a) e = bd (evE T a e) fun v => bd (peek v) fun x => ofO (truthD x) := rfl
@[simp] theorem x_Tn (a : Ct) : evT T (.not a) e = bd (evT T a e) fun k => rt !k := rfl
@[simp] theorem x_Ta (cs : Cts) : evT T (.and cs) e = evTA T cs e := rfl
@[simp] theorem x_To (cs : Cts) : evT T (.or cs) e = evTO T cs e := rfl
@[simp] theorem x_TA0 : evTA T .nil e = rt true := rfl
@[simp] theorem x_TA (a : Ct) (cs : Cts) : evTA T (.cons a cs) e = bd (evT T a e) fun k => if k then evTA T cs e else rt false := rfl
@[simp] theorem x_TO0 : evTO T .nil e = rt false := rfl
@[simp] theorem x_TO (a : Ct) (cs : Cts) : evTO T (.cons a cs) e = bd (evT T a e) fun k => if k then rt true else evTO T cs e := rfl
@[simp] theorem x_seq (a : Ex) : evI T (.seq a) e = bd (evE T a e) fun v => bd (keep v) fun x => ofO (itemsD x) := rfl
@[simp] theorem x_rng1 (a : Ex) : evI T (.rng1 a) e s = (evE T a e s).bind fun p => (peek p.1 p.2).bind fun q => (match q.1 with | .int j => (rngD 0 j).map fun d => (d, q.2) | _ => none) := by
  show bd (evE T a e) (fun v => bd (peek v) fun x => match x with | .int j => ofO (rngD 0 j) | _ => no) s = _
  simp only [bd_ap]
  congr 1
  funext p
  congr 1
  funext q
  cases q.1 <;> first | rfl | exact ofO_ap _ _
@[simp] theorem x_enum (a : Ex) : evI T (.enum a) e = bd (evE T a e) fun v => bd (keep v) fun x => bd (ofO (itemsD x)) fun xs => rt (enumD 0 xs) := rfl
@[simp] theorem x_zip (a b : Ex) : evI T (.zip false a b) e = bd (evE T a e) fun v => bd (evE T b e) fun u => bd (keep v) fun x => bd (keep u) fun y => bd (ofO (itemsD x)) fun xs => bd (ofO (itemsD y)) fun ys => rt (zipD xs ys) := rfl
@[simp] theorem x_ex (a : Ex) : evS T (.ex a) e s = stp (evE T a e) (fun _ s => some (.nx, e, s)) s := rfl
@[simp] theorem x_set (i : Nat) (a : Ex) : evS T (.set i a) e s = stp (evE T a e) (fun v s => some (.nx, e.set i (some v), s)) s := rfl
@[simp] theorem x_par (i j : Nat) (a b : Ex) : evS T (.par i j a b) e s = stp (evE T a e) (fun v s => stp (evE T b e) (fun u s => some (.nx, (e.set i (some v)).set j (some u), s)) s) s := rfl
@[simp] theorem x_par3 (i j k : Nat) (a b c : Ex) : evS T (.par3 i j k a b c) e s = stp (evE T a e) (fun v s => stp (evE T b e) (fun u s => stp (evE T c e) (fun w s => some (.nx, ((e.set i (some v)).set j (some u)).set k (some w), s)) s) s) s := rfl
@[simp] theorem x_asg (tg : Tg) (a : Ex) : evS T (.asg tg a) e s = stp (evE T a e) (fun v s => (asgT tg v e).map fun e1 => (.nx, e1, s)) s := rfl
@[simp] theorem x_sub (o i v : Ex) : evS T (.sub o i v) e s = stp (evE T v e) (fun x s => stp (evE T o e) (fun c s => stp (evE T i e) (fun k s => stp (setV c k x) (fun _ s => some (.nx, e, s)) s) s) s) s := rfl
@[simp] theorem x_iff (c : Ct) (a b : Sts) : evS T (.iff c a b) e s = stp (evT T c e) (fun k s => if k then evSs T a e s else evSs T b e s) s := rfl
theorem x_for (tg : Tg) (it : Ix) (b : Sts) : evS T (.forr tg it b) e s = stp (evI T it e) (fun xs s => forL (forF tg (evSs T b)) xs e s) s := rfl
@[simp] theorem x_whl (n : Nat) (c : Ct) (b : Sts) : evS T (.whl n c b) e s = whlL (evT T c) (evSs T b) n e s := rfl
@[simp] theorem x_ret (a : Ex) : evS T (.ret a) e s = stp (evE T a e) (fun v s => stp (keepV v) (fun w s => some (.rt w, e, s)) s) s := rfl
@[simp] theorem x_ret0 : evS T .ret0 e s = some (.rt (.d .none), e, s) := rfl
@[simp] theorem x_pass : evS T .pass e s = some (.nx, e, s) := rfl
@[simp] theorem x_Ss0 : evSs T .nil e s = some (.nx, e, s) := rfl
@[simp] theorem x_Ss (a : St) (as : Sts) : evSs T (.cons a as) e s = sq (evS T a e s) (evSs T as) := rfl
@[simp] theorem x_nm (i : Nat) (v : Val) : asgT (.nm i) v e = some (e.set i (some v)) := rfl
@[simp] theorem x_tp (ts : Tgs) (xs : List PyData) : asgT (.tp ts) (.d (.tuple xs)) e = asgTs ts xs e := rfl
@[simp] theorem x_tgs0 : asgTs .nil [] e = some e := rfl
@[simp] theorem x_tgs (t : Tg) (ts : Tgs) (x : PyData) (xs : List PyData) : asgTs (.cons t ts) (x :: xs) e = (asgT t (.d x) e).bind fun e1 => asgTs ts xs e1 := rfl
@[simp] theorem endD_rt (v : Val) (e : Lv) (s : Sto) : endD (some (.rt v, e, s)) = if noG s.G && noV [v] then some (v, s.G) else none := rfl
@[simp] theorem endD_nx (e : Lv) (s : Sto) : endD (some (.nx, e, s)) = if noG s.G then some (.d .none, s.G) else none := rfl
@[simp] theorem noV_d (x : PyData) : noV [.d x] = true := rfl
@[simp] theorem noV_g (n : Nat) : noV [.g n] = true := rfl
@[simp] theorem wipe_nil : wipeL e [] = e := rfl
@[simp] theorem wipe_cons (v : Nat) (vs : List Nat) : wipeL e (v :: vs) = (wipeL e vs).set v none := rfl
@[simp] theorem compL_nil (f : PyData → M (Option Val)) (s : Sto) : compL f [] s = some ([], s) := rfl
end
/-! pure data -/
@[simp] theorem add_i (a b : Int) : binD .Add (.int a) (.int b) = some (.int (a + b)) := rfl
@[simp] theorem sub_i (a b : Int) : binD .Sub (.int a) (.int b) = some (.int (a - b)) := rfl
@[simp] theorem add_t (a b : List PyData) : binD .Add (.tuple a) (.tuple b) = if a.length + b.length ≤ 16777216 then some (.tuple (a ++ b)) else none := rfl
theorem mul_i {a b : Int} (h : small a = true ∨ small b = true) : binD .Mult (.int a) (.int b) = some (.int (a * b)) := by
  show (if (small a || small b) = true then some (PyData.int (a * b)) else none) = _
  rw [if_pos]
  simpa [Bool.or_eq_true] using h
theorem fdiv_i {a b : Int} (h : 0 < b) (h2 : b < 1073741824) : binD .FloorDiv (.int a) (.int b) = some (.int (a / b)) := if_pos ⟨h, h2⟩
theorem mod_i {a b : Int} (h : 0 < b) : binD .Mod (.int a) (.int b) = some (.int (a % b)) := if_pos h
@[simp] theorem lt_i (a b : Int) : cmpD .Lt (.int a) (.int b) = some (decide (a < b)) := rfl
@[simp] theorem le_i (a b : Int) : cmpD .LtE (.int a) (.int b) = some (decide (a ≤ b)) := rfl
@[simp] theorem gt_i (a b : Int) : cmpD .Gt (.int a) (.int b) = some (decide (b < a)) := rfl
@[simp] theorem ge_i (a b : Int) : cmpD .GtE (.int a) (.int b) = some (decide (b ≤ a)) := rfl
@[simp] theorem eqD_i (a b : Int) : eqD (.int a) (.int b) = some (decide (a = b)) := by
  have h : ((PyData.int a).plain && (PyData.int b).plain && decide (min (PyData.int a).depth (PyData.int b).depth ≤ 64)) = true := by
    simp [PyData.plain, PyData.depth]
  unfold eqD
  rw [if_pos h]
  simp only [PyData.eqv]
  rfl
@[simp] theorem eq_any (a b : PyData) : cmpD .Eq a b = eqD a b := by cases a <;> cases b <;> rfl
@[simp] theorem ne_any (a b : PyData) : cmpD .NotEq a b = (eqD a b).map (!·) := by cases a <;> cases b <;> rfl
@[simp] theorem in_any (a b : PyData) : cmpD .In a b = inD a b := by cases a <;> cases b <;> rfl
@[simp] theorem notin_any (a b : PyData) : cmpD .NotIn a b = (inD a b).map (!·) := by cases a <;> cases b <;> rfl
@[simp] theorem truth_b (b : Bool) : truthD (.bool b) = some b := rfl
@[simp] theorem truth_i (i : Int) : truthD (.int i) = some (i != 0) := rfl
@[simp] theorem len_t (xs : List PyData) : b1D .len (.tuple xs) = some (.int xs.length) := rfl
@[simp] theorem len_l (xs : List PyData) : b1D .len (.list xs) = some (.int xs.length) := rfl
@[simp] theorem tup_l (xs : List PyData) : b1D .tuple (.list xs) = some (.tuple xs) := rfl
@[simp] theorem tup_t (xs : List PyData) : b1D .tuple (.tuple xs) = some (.tuple xs) := rfl
@[simp] theorem lst_t (xs : List PyData) : b1D .list (.tuple xs) = some (.list xs) := rfl
@[simp] theorem lst_l (xs : List PyData) : b1D .list (.list xs) = some (.list xs) := rfl
@[simp] theorem abs_i (i : Int) : b1D .abs (.int i) = some (.int (if i < 0 then -i else i)) := rfl
@[simp] theorem all_l (xs : List PyData) : b1D .all (.list xs) = (bools? xs).map fun bs => .bool (bs.all id) := rfl
@[simp] theorem any_l (xs : List PyData) : b1D .any (.list xs) = (bools? xs).map fun bs => .bool (bs.any id) := rfl
@[simp] theorem sum_t (xs : List PyData) : b1D .sum (.tuple xs) = (ints? xs).map fun ns => .int ns.sum := rfl
@[simp] theorem sum_l (xs : List PyData) : b1D .sum (.list xs) = (ints? xs).map fun ns => .int ns.sum := rfl
@[simp] theorem max_i (a b : Int) : b2D .max (.int a) (.int b) = some (.int (if b > a then b else a)) := rfl
@[simp] theorem min_i (a b : Int) : b2D .min (.int a) (.int b) = some (.int (if b < a then b else a)) := rfl
@[simp] theorem items_t (xs : List PyData) : itemsD (.tuple xs) = some xs := rfl
@[simp] theorem items_l (xs : List PyData) : itemsD (.list xs) = some xs := rfl
@[simp] theorem idx_t (xs : List PyData) (i : Int) : idxD (.tuple xs) (.int i) = atP xs i := rfl
@[simp] theorem idx_l (xs : List PyData) (i : Int) : idxD (.list xs) (.int i) = atP xs i := rfl
theorem atP_nat {α : Type} {xs : List α} {i : Int} (h : 0 ≤ i) : atP xs i = xs[i.toNat]? := by
  unfold atP L2.atI L2.ixN
  rw [if_pos h]
  by_cases hl : i < xs.length
  · rw [if_pos hl]; rfl
  · rw [if_neg hl]
    have : xs.length ≤ i.toNat := by omega
    rw [List.getElem?_eq_none this]; rfl
@[simp] theorem atP_0 {α : Type} (xs : List α) : atP xs 0 = xs[0]? := atP_nat (by decide)
@[simp] theorem atP_1 {α : Type} (xs : List α) : atP xs 1 = xs[1]? := atP_nat (by decide)
@[simp] theorem atP_2 {α : Type} (xs : List α) : atP xs 2 = xs[2]? := atP_nat (by decide)
@[simp] theorem atP_3 {α : Type} (xs : List α) : atP xs 3 = xs[3]? := atP_nat (by decide)
@[simp] theorem atP_4 {α : Type} (xs : List α) : atP xs 4 = xs[4]? := atP_nat (by decide)
@[simp] theorem ints_map (ns : List Int) : ints? (ns.map .int) = some ns := by
  induction ns with
  | nil => rfl
  | cons a r ih => show (ints? (r.map .int)).map (a :: ·) = _; rw [ih]; rfl
@[simp] theorem bools_map (bs : List Bool) : bools? (bs.map .bool) = some bs := by
  induction bs with
  | nil => rfl
  | cons a r ih => show (bools? (r.map .bool)).map (a :: ·) = _; rw [ih]; rfl
@[simp] theorem bools_rep (n : Nat) (b : Bool) : bools? (List.replicate n (.bool b)) = some (List.replicate n b) := by
  induction n with
  | zero => rfl
  | succ n ih => rw [List.replicate_succ, List.replicate_succ]; show (bools? (List.replicate n (.bool b))).map (b :: ·) = _; rw [ih]; rfl
theorem bools_mapf {α : Type} (f : α → Bool) (xs : List α) : bools? (xs.map fun x => .bool (f x)) = some (xs.map f) := by
  have := bools_map (xs.map f)
  rw [List.map_map] at this
  exact this
theorem ints_mapf {α : Type} (f : α → Int) (xs : List α) : ints? (xs.map fun x => .int (f x)) = some (xs.map f) := by
  have := ints_map (xs.map f)
  rw [List.map_map] at this
  exact this
theorem rng0 {n : Int} (h0 : 0 ≤ n) (h : n < 1000000) : rngD 0 n = some ((List.range n.toNat).map fun i : Nat => .int (i : Int)) := by
  unfold rngD
  rw [if_pos ⟨by decide, by decide, by omega, by omega⟩, Int.sub_zero]
  simp
/-- a comprehension whose turns leave the stores -/
theorem compL_map {f : PyData → M (Option Val)} {g : PyData → Val} {s : Sto} : ∀ {xs : List PyData}, (∀ x ∈ xs, f x s = some (some (g x), s)) → compL f xs s = some (xs.map g, s)
  | [], _ => rfl
  | x :: xs, h => by
    have ih := compL_map (xs := xs) fun y hy => h y (List.mem_cons_of_mem _ hy)
    show bd (f x) (fun o => bd (compL f xs) fun vs => rt (match o with | some v => v :: vs | none => vs)) s = _
    simp only [bd_ap, h x List.mem_cons_self, Option.bind_some, ih, rt_ap, List.map_cons]
theorem compL_filter {f : PyData → M (Option Val)} {g : PyData → Option Val} {s : Sto} : ∀ {xs : List PyData}, (∀ x ∈ xs, f x s = some (g x, s)) → compL f xs s = some (xs.filterMap g, s)
  | [], _ => rfl
  | x :: xs, h => by
    have ih := compL_filter (xs := xs) fun y hy => h y (List.mem_cons_of_mem _ hy)
    show bd (f x) (fun o => bd (compL f xs) fun vs => rt (match o with | some v => v :: vs | none => vs)) s = _
    simp only [bd_ap, h x List.mem_cons_self, Option.bind_some, ih, rt_ap, List.filterMap_cons]
    cases g x <;> rfl
/-- .. whose turns keep an invariant by the turns left -/
theorem compL_inv {f : PyData → M (Option Val)} {I : Nat → Sto → Prop} {R : Val → Prop} : ∀ {xs : List PyData} {s : Sto}, I xs.length s → (∀ x n s, x ∈ xs → I (n + 1) s → ∃ v s', f x s = some (some v, s') ∧ R v ∧ I n s') → ∃ vs s', compL f xs s = some (vs, s') ∧ vs.length = xs.length ∧ (∀ v ∈ vs, R v) ∧ I 0 s'
  | [], s, h, _ => ⟨[], s, rfl, rfl, (fun v hv => by cases hv), h⟩
  | x :: xs, s, h, hf => by
    obtain ⟨v, s1, h1, h2, h3⟩ := hf x xs.length s List.mem_cons_self h
    obtain ⟨vs, s2, h4, h5, h6, h7⟩ := compL_inv (xs := xs) h3 fun y n t hy => hf y n t (List.mem_cons_of_mem _ hy)
    refine ⟨v :: vs, s2, ?_, by simp [h5], fun u hu => ?_, h7⟩
    · show bd (f x) (fun o => bd (compL f xs) fun vs => rt (match o with | some v => v :: vs | none => vs)) s = _
      simp only [bd_ap, h1, Option.bind_some, h4, rt_ap]
    · rcases List.mem_cons.mp hu with e | e
      · rw [e]; exact h2
      · exact h6 u e
@[simp] theorem keeps_map (xs : List PyData) (s : Sto) : keeps (xs.map .d) s = some (xs, s) := by
  induction xs with
  | nil => rfl
  | cons x r ih => rw [List.map_cons, keeps_cons, keep_d, Option.bind_some, ih]; rfl
theorem comp_ap {T : Tx} {w : Wh} {elt : Ex} {tg : Tg} {it : Ix} {cd : Co} {own : List Nat} {e : Lv} {s s1 s2 : Sto} {xs : List PyData} {vs : List Val} (hi : evI T it e s = some (xs, s1)) (hc : compL (compF w tg own (evC T cd) (evE T elt) e) xs s1 = some (vs, s2)) (hl : vs.length ≤ 16777216) :
    evE T (.comp w elt tg it cd own) e s = place w vs s2 := by
  rw [x_comp]
  simp only [bd_ap, hi, Option.bind_some, hc, if_pos hl]
/-- a pure comprehension by its items -/
theorem comp_map {T : Tx} {elt : Ex} {tg : Tg} {it : Ix} {cd : Co} {own : List Nat} {e : Lv} {s : Sto} (xs : List PyData) (g : PyData → PyData) (hi : evI T it e s = some (xs, s)) (hl : xs.length ≤ 16777216) (h : ∀ x ∈ xs, compF .pure tg own (evC T cd) (evE T elt) e x s = some (some (.d (g x)), s)) :
    evE T (.comp .pure elt tg it cd own) e s = some (.d (.list (xs.map g)), s) := by
  rw [comp_ap hi (compL_map (g := fun x => .d (g x)) h) (by simpa using hl), place_pure]
  have e1 : xs.map (fun x => Val.d (g x)) = (xs.map g).map .d := by rw [List.map_map]; rfl
  rw [e1, keeps_map]; rfl
theorem comp_flt {T : Tx} {elt : Ex} {tg : Tg} {it : Ix} {cd : Co} {own : List Nat} {e : Lv} {s : Sto} (xs : List PyData) (g : PyData → Option PyData) (hi : evI T it e s = some (xs, s)) (hl : xs.length ≤ 16777216) (h : ∀ x ∈ xs, compF .pure tg own (evC T cd) (evE T elt) e x s = some ((g x).map .d, s)) :
    evE T (.comp .pure elt tg it cd own) e s = some (.d (.list (xs.filterMap g)), s) := by
  have e1 : xs.filterMap (fun x => (g x).map Val.d) = (xs.filterMap g).map .d := by rw [List.map_filterMap]
  have hl2 : (xs.filterMap fun x => (g x).map Val.d).length ≤ 16777216 := Nat.le_trans (List.length_filterMap_le _ _) hl
  rw [comp_ap hi (compL_filter (g := fun x => (g x).map .d) h) hl2, place_pure, e1, keeps_map]; rfl
@[simp] theorem compF_pure (tg : Tg) (own : List Nat) (mc : Lv → M Bool) (me : Lv → M Val) (e : Lv) (x : PyData) (s : Sto) : compF .pure tg own mc me e x s = (asgT tg (.d x) (wipeL e own)).bind fun e1 => (mc e1 s).bind fun p => if p.1 then (me e1 p.2).bind fun q => (keep q.1 q.2).map fun r => (some (.d r.1), r.2) else some (none, p.2) := by
  unfold compF
  cases asgT tg (.d x) (wipeL e own) with
  | none => rfl
  | some e1 =>
    simp only [bd_ap, ite_ap, Option.bind_some]
    congr 1
    funext p
    split
    · congr 1
      funext q
      cases keep q.1 q.2 <;> rfl
    · rfl
@[simp] theorem loopN_nx (k : Lv → Sto → Out) (e : Lv) (s : Sto) : loopN k (some (.nx, e, s)) = k e s := rfl
@[simp] theorem loopN_rt (k : Lv → Sto → Out) (v : Val) (e : Lv) (s : Sto) : loopN k (some (.rt v, e, s)) = some (.rt v, e, s) := rfl
@[simp] theorem forL_nil (f : PyData → Lv → Sto → Out) (e : Lv) (s : Sto) : forL f [] e s = some (.nx, e, s) := rfl
theorem forL_cons (f : PyData → Lv → Sto → Out) (x : PyData) (xs : List PyData) (e : Lv) (s : Sto) : forL f (x :: xs) e s = loopN (forL f xs) (f x e s) := rfl
@[simp] theorem whl_step (c : Lv → M Bool) (f : Lv → Sto → Out) (n : Nat) (e : Lv) (s : Sto) : whlL c f (n + 1) e s = (c e s).bind fun p => if p.1 then loopN (whlL c f n) (f e p.2) else some (.nx, e, p.2) := by
  show stp (c e) _ s = _
  rw [stp_ap]
@[simp] theorem forF_ap (tg : Tg) (f : Lv → Sto → Out) (x : PyData) (e : Lv) (s : Sto) : forF tg f x e s = (asgT tg (.d x) e).bind fun e1 => f e1 s := by
  unfold forF; cases asgT tg (.d x) e <;> rfl
/-- a comprehension whose turns keep an invariant by the turns left -/
theorem comp_inv {T : Tx} {elt : Ex} {tg : Tg} {it : Ix} {cd : Co} {own : List Nat} {e : Lv} {s s1 : Sto} (I : Nat → Sto → Prop) (R : PyData → Prop) (xs : List PyData) (hi : evI T it e s = some (xs, s1)) (hl : xs.length ≤ 16777216) (h0 : I xs.length s1)
    (h : ∀ x n s, x ∈ xs → I (n + 1) s → ∃ y s', compF .pure tg own (evC T cd) (evE T elt) e x s = some (some (.d y), s') ∧ R y ∧ I n s') :
    ∃ ys s', evE T (.comp .pure elt tg it cd own) e s = some (.d (.list ys), s') ∧ ys.length = xs.length ∧ (∀ y ∈ ys, R y) ∧ I 0 s' := by
  obtain ⟨vs, s', h1, h2, h3, h4⟩ := compL_inv (f := compF .pure tg own (evC T cd) (evE T elt) e) (I := I) (R := fun v => ∃ y, v = .d y ∧ R y) h0 fun x n s hx hI => by
    obtain ⟨y, s', a, b, c⟩ := h x n s hx hI
    exact ⟨.d y, s', a, ⟨y, rfl, b⟩, c⟩
  obtain ⟨ys, rfl⟩ : ∃ ys : List PyData, vs = ys.map .d := by
    clear h1 h2
    induction vs with
    | nil => exact ⟨[], rfl⟩
    | cons v vs ih =>
      obtain ⟨y, rfl, _⟩ := h3 v List.mem_cons_self
      obtain ⟨ys, rfl⟩ := ih fun u hu => h3 u (List.mem_cons_of_mem _ hu)
      exact ⟨y :: ys, rfl⟩
  refine ⟨ys, s', ?_, by simpa using h2, fun y hy => ?_, h4⟩
  · rw [comp_ap hi h1 (by rw [h2]; exact hl), place_pure, keeps_map]; rfl
  · obtain ⟨z, hz, hr⟩ := h3 (.d y) (List.mem_map.mpr ⟨y, hy, rfl⟩)
    cases hz; exact hr
/-- a loop whose turns go on and keep an invariant by the turns left -/
theorem forL_inv {f : PyData → Lv → Sto → Out} (I : Nat → Lv → Sto → Prop) : ∀ {xs : List PyData} {e : Lv} {s : Sto}, I xs.length e s → (∀ x n e s, x ∈ xs → I (n + 1) e s → ∃ e' s', f x e s = some (.nx, e', s') ∧ I n e' s') → ∃ e' s', forL f xs e s = some (.nx, e', s') ∧ I 0 e' s'
  | [], e, s, h, _ => ⟨e, s, rfl, h⟩
  | x :: xs, e, s, h, hf => by
    obtain ⟨e1, s1, h1, h2⟩ := hf x xs.length e s List.mem_cons_self h
    obtain ⟨e2, s2, h3, h4⟩ := forL_inv I (xs := xs) h2 fun y n e s hy => hf y n e s (List.mem_cons_of_mem _ hy)
    exact ⟨e2, s2, by rw [forL_cons, h1]; exact h3, h4⟩
@[simp] theorem plainAll_i (a : List Int) : PyData.plainAll (a.map .int) = true := by
  induction a with
  | nil => simp [PyData.plainAll]
  | cons x r ih => simp [PyData.plainAll, PyData.plain, ih]
theorem depthAll_i (a : List Int) : PyData.depthAll (a.map .int) ≤ 1 := by
  induction a with
  | nil => simp [PyData.depthAll]
  | cons x r ih => simp [PyData.depthAll, PyData.depth, ih]
@[simp] theorem eqvAll_i : ∀ (a b : List Int), PyData.eqvAll (a.map .int) (b.map .int) = decide (a = b)
  | [], [] => by simp [PyData.eqvAll]
  | [], _ :: _ => by simp [PyData.eqvAll]
  | _ :: _, [] => by simp [PyData.eqvAll]
  | x :: a, y :: b => by
    simp only [List.map_cons, PyData.eqvAll, eqvAll_i a b, PyData.eqv, List.cons.injEq]
    by_cases h : x = y <;> simp [h]
theorem eqD_tup {a b : List PyData} (h1 : PyData.plainAll a = true) (h2 : PyData.plainAll b = true) (h3 : PyData.depthAll a ≤ 63) : eqD (.tuple a) (.tuple b) = some (PyData.eqvAll a b) := by
  unfold eqD
  rw [if_pos]
  · simp [PyData.eqv]
  · simp only [PyData.plain, PyData.depth, h1, h2, Bool.and_true, Bool.true_and, decide_eq_true_eq]
    exact decide_eq_true (Nat.le_trans (Nat.min_le_left _ _) (Nat.succ_le_succ h3))
theorem eqD_lst {a b : List PyData} (h1 : PyData.plainAll a = true) (h2 : PyData.plainAll b = true) (h3 : PyData.depthAll a ≤ 63) : eqD (.list a) (.list b) = some (PyData.eqvAll a b) := by
  unfold eqD
  rw [if_pos]
  · simp [PyData.eqv]
  · simp only [PyData.plain, PyData.depth, h1, h2, Bool.and_true, Bool.true_and, decide_eq_true_eq]
    exact decide_eq_true (Nat.le_trans (Nat.min_le_left _ _) (Nat.succ_le_succ h3))
@[simp] theorem eqD_row (a b : List Int) : eqD (.tuple (a.map .int)) (.tuple (b.map .int)) = some (decide (a = b)) := by
  rw [eqD_tup (by simp) (by simp) (Nat.le_trans (depthAll_i a) (by decide)), eqvAll_i]
@[simp] theorem eqD_rowL (a b : List Int) : eqD (.list (a.map .int)) (.list (b.map .int)) = some (decide (a = b)) := by
  rw [eqD_lst (by simp) (by simp) (Nat.le_trans (depthAll_i a) (by decide)), eqvAll_i]
theorem inD_row (x : Int) (a : List Int) : inD (.int x) (.tuple (a.map .int)) = some (decide (x ∈ a)) := by
  show (if _ then some ((a.map PyData.int).any fun y => PyData.eqv y (.int x)) else none) = _
  rw [if_pos]
  · congr 1
    induction a with
    | nil => simp
    | cons y r ih =>
      simp only [List.map_cons, List.any_cons, ih, PyData.eqv, List.mem_cons]
      by_cases h : y = x
      · simp [h]
      · have : ¬ x = y := fun e => h e.symm
        simp [h, this]
  · simp [PyData.plain, PyData.depth]
@[simp] theorem neg_i (a : Int) : negD (.int a) = some (.int (-a)) := rfl
@[simp] theorem slc_t (lo hi : Option Int) (xs : List PyData) : sliceD lo hi (.tuple xs) = some (.tuple (cutP xs lo hi)) := rfl
@[simp] theorem slc_l (lo hi : Option Int) (xs : List PyData) : sliceD lo hi (.list xs) = some (.list (cutP xs lo hi)) := rfl
theorem cut_from {α : Type} (xs : List α) (k : Nat) : cutP xs (some (k : Int)) none = xs.drop k := by
  unfold cutP
  rw [HT.sIx_nat, HT.sIx_none]
  by_cases h : k ≤ xs.length
  · rw [Nat.min_eq_left h, List.take_of_length_le (by simp)]
  · rw [Nat.min_eq_right (by omega), List.drop_length, List.drop_of_length_le (by omega)]; simp
theorem cut_to {α : Type} (xs : List α) (k : Nat) : cutP xs none (some (k : Int)) = xs.take k := by
  unfold cutP
  rw [HT.sIx_nat, HT.sIx_none, List.drop_zero, Nat.sub_zero]
  by_cases h : k ≤ xs.length
  · rw [Nat.min_eq_left h]
  · rw [Nat.min_eq_right (by omega), List.take_of_length_le (Nat.le_refl _), List.take_of_length_le (by omega)]
@[simp] theorem cut_1 {α : Type} (xs : List α) : cutP xs (some 1) none = xs.drop 1 := cut_from xs 1
@[simp] theorem cut_0_1 {α : Type} (xs : List α) : cutP xs none (some 1) = xs.take 1 := cut_to xs 1
theorem zipD_map {α : Type} (f g : α → PyData) : ∀ xs : List α, zipD (xs.map f) (xs.map g) = xs.map fun x => .tuple [f x, g x]
  | [] => rfl
  | x :: xs => by simp [zipD, zipD_map f g xs]
theorem enumD_map (f : Nat → PyData) (n : Nat) : enumD 0 ((List.range n).map f) = (List.range n).map fun i : Nat => .tuple [.int (i : Int), f i] := by
  apply List.ext_getElem?
  intro i
  rw [enumD_at]
  by_cases h : i < n
  · simp [h]
  · simp [h]
end Ev

/-! the laws' pen -/
namespace Ev
open PySem
def cellDf : Df := ⟨2, 2, (.cons (.iff (.v (.cmp .Lt (.var 1) (.b1 .len (.var 0)))) (.cons (.ret (.idx (.var 0) (.var 1))) .nil) .nil) (.cons (.ret (.lit (.int 0))) .nil))⟩
def penDf : Df := ⟨1, 1, (.cons (.ret (.lst .glob (.cons (.b2 .max (.lit (.int 0)) (.bin .Sub (.var 0) (.bin .Pow (.lit (.int 10)) (.lit (.int 18))))) (.cons (.bin .Mod (.var 0) (.lit (.int 1000000007))) (.cons (.lit (.int 0)) .nil))))) .nil)⟩
def drawDf : Df := ⟨2, 4, (.cons (.iff (.v (.cmp .Gt (.idx (.var 0) (.lit (.int 0))) (.lit (.int 0)))) (.cons (.set 3 (.bin .Mod (.idx (.var 0) (.lit (.int 0))) (.var 1))) (.cons (.sub (.var 0) (.lit (.int 0)) (.bin .FloorDiv (.idx (.var 0) (.lit (.int 0))) (.var 1))) (.cons (.ret (.var 3)) .nil))) .nil) (.cons (.sub (.var 0) (.lit (.int 2)) (.bin .Add (.idx (.var 0) (.lit (.int 2))) (.lit (.int 1)))) (.cons (.set 2 (.bin .Mod (.bin .Mult (.bin .Add (.idx (.var 0) (.lit (.int 1))) (.bin .Mult (.lit (.int 17)) (.idx (.var 0) (.lit (.int 2))))) (.bin .Add (.lit (.int 69621)) (.bin .Mult (.lit (.int 2)) (.idx (.var 0) (.lit (.int 2)))))) (.lit (.int 2147483647)))) (.cons (.set 2 (.bin .Mod (.bin .Add (.bin .Add (.bin .Mult (.var 2) (.var 2)) (.bin .Mult (.lit (.int 40503)) (.idx (.var 0) (.lit (.int 2))))) (.lit (.int 5))) (.lit (.int 2147483629)))) (.cons (.ret (.bin .Mod (.bin .FloorDiv (.bin .Mod (.bin .Mult (.var 2) (.lit (.int 48271))) (.lit (.int 2147483647))) (.lit (.int 32))) (.var 1))) .nil)))))⟩
/-- a pen that can draw m times more -/
def PenB (m : Nat) (o : SO) : Prop := ∃ a b c : Int, o = .lst [.d (.int a), .d (.int b), .d (.int c)] ∧ 0 ≤ a ∧ 0 ≤ b ∧ b < 1000000007 ∧ 0 ≤ c ∧ c + m ≤ 1099511627776
/-- the pen at place j of the global store -/
def Pn (j m : Nat) (G : List SO) : Prop := noG G = true ∧ ∃ o, G[j]? = some o ∧ PenB m o
theorem noG_set {G : List SO} {j : Nat} {vs : List Val} (h : noG G = true) (hv : noV vs = true) : noG (G.set j (.lst vs)) = true := by
  induction G generalizing j with
  | nil => rfl
  | cons o r ih =>
    have hr : noG r = true ∧ ∀ r', noG r' = true → noG (o :: r') = true := by
      cases o with
      | lst us =>
        have : (noV us && noG r) = true := h
        rw [Bool.and_eq_true] at this
        exact ⟨this.2, fun r' hr => by show (noV us && noG r') = true; rw [this.1, hr]; rfl⟩
      | ins c fs =>
        have : (noF fs && noG r) = true := h
        rw [Bool.and_eq_true] at this
        exact ⟨this.2, fun r' hr => by show (noF fs && noG r') = true; rw [this.1, hr]; rfl⟩
      | dct _ => exact ⟨h, fun r' hr => hr⟩
      | frz _ => exact ⟨h, fun r' hr => hr⟩
    cases j with
    | zero => show (noV vs && noG r) = true; rw [hv, hr.1]; rfl
    | succ j => exact hr.2 _ (ih hr.1)
theorem noG_app {G : List SO} {vs : List Val} (h : noG G = true) (hv : noV vs = true) : noG (G ++ [.lst vs]) = true := by
  induction G with
  | nil => show (noV vs && noG []) = true; rw [hv]; rfl
  | cons o r ih =>
    cases o with
    | lst us =>
      have : (noV us && noG r) = true := h
      rw [Bool.and_eq_true] at this
      show (noV us && noG (r ++ [.lst vs])) = true
      rw [this.1, ih this.2]; rfl
    | ins c fs =>
      have : (noF fs && noG r) = true := h
      rw [Bool.and_eq_true] at this
      show (noF fs && noG (r ++ [.lst vs])) = true
      rw [this.1, ih this.2]; rfl
    | dct _ => exact ih h
    | frz _ => exact ih h
theorem Pn.no {j m : Nat} {G : List SO} (h : Pn j m G) : noG G = true := h.1
theorem Pn.le {j m k : Nat} {G : List SO} (h : Pn j m G) (hk : k ≤ m) : Pn j k G := by
  obtain ⟨h1, o, h2, a, b, c, h3, h4, h5, h6, h7, h8⟩ := h
  exact ⟨h1, o, h2, a, b, c, h3, h4, h5, h6, h7, by omega⟩
theorem noV3 (a b c : Int) : noV [.d (.int a), .d (.int b), .d (.int c)] = true := rfl
theorem draw_spec {T : Tx} {j m : Nat} {M : Int} {G : List SO} (h : Pn j (m + 1) G) (h1 : 0 < M) (h2 : M < 1073741824) : ∃ r G', runD T drawDf [.g j, .d (.int M)] G = some (.d (.int r), G') ∧ 0 ≤ r ∧ r < M ∧ Pn j m G' := by
  obtain ⟨hn, o, ho, a, b, c, rfl, ha, hb, hb2, hc, hc2⟩ := h
  have hj : j < G.length := (List.getElem?_eq_some_iff.mp ho).1
  by_cases hp : 0 < a
  · have n1 := noG_set (j := j) hn (noV3 (a / M) b c)
    refine ⟨a % M, G.set j (.lst [.d (.int (a / M)), .d (.int b), .d (.int c)]), ?_, Int.emod_nonneg _ (by omega), Int.emod_lt_of_pos _ h1, n1, _, List.getElem?_set_self hj, a / M, b, c, rfl, Int.ediv_nonneg ha (by omega), hb, hb2, hc, by omega⟩
    simp [drawDf, runD, startL, idxV_g (s := ⟨[], G⟩) ho, hp, mod_i h1, fdiv_i h1 h2, setV_g (s := ⟨[], G⟩) (m := 0) (j := 0) ho rfl, n1]
  · have n1 := noG_set (j := j) hn (noV3 a b (c + 1))
    have ho1 : (G.set j (.lst [.d (.int a), .d (.int b), .d (.int (c + 1))]))[j]? = some (.lst [.d (.int a), .d (.int b), .d (.int (c + 1))]) := List.getElem?_set_self hj
    have sm : ∀ i : Int, 0 ≤ i → i < 2 ^ 64 → small i = true := fun i h1 h2 => by unfold small; simp; omega
    have e1 : binD .Mult (.int 17) (.int (c + 1)) = some (.int (17 * (c + 1))) := mul_i (.inl rfl)
    have e2 : binD .Mult (.int 2) (.int (c + 1)) = some (.int (2 * (c + 1))) := mul_i (.inl rfl)
    have e3 : binD .Mult (.int (b + 17 * (c + 1))) (.int (69621 + 2 * (c + 1))) = some (.int ((b + 17 * (c + 1)) * (69621 + 2 * (c + 1)))) := mul_i (.inr (sm _ (by omega) (by omega)))
    have e4 : ∀ i, binD .Mult (.int 40503) (.int i) = some (.int (40503 * i)) := fun i => mul_i (.inl rfl)
    have e5 : ∀ i, binD .Mult (.int i) (.int 48271) = some (.int (i * 48271)) := fun i => mul_i (.inr rfl)
    generalize hs : (b + 17 * (c + 1)) * (69621 + 2 * (c + 1)) % 2147483647 = st
    have s0 : 0 ≤ st := by rw [← hs]; exact Int.emod_nonneg _ (by decide)
    have s1 : st < 2147483647 := by rw [← hs]; exact Int.emod_lt_of_pos _ (by decide)
    have e6 : binD .Mult (.int st) (.int st) = some (.int (st * st)) := mul_i (.inr (sm _ s0 (by omega)))
    refine ⟨(st * st + 40503 * (c + 1) + 5) % 2147483629 * 48271 % 2147483647 / 32 % M, _, ?_, Int.emod_nonneg _ (by omega), Int.emod_lt_of_pos _ h1, n1, _, ho1, a, b, c + 1, rfl, ha, hb, hb2, by omega, by omega⟩
    simp [drawDf, runD, startL, idxV_g (s := ⟨[], G⟩) ho, hp, setV_g (s := ⟨[], G⟩) (m := 2) (j := 2) ho rfl, n1, idxV_g (s := ⟨[], _⟩) ho1, e1, e2, e3, e4, e5, mod_i h1, mod_i (a := _) (b := 2147483647) (by decide), mod_i (a := _) (b := 2147483629) (by decide), hs, e6, fdiv_i (a := _) (b := 32) (by decide) (by decide)]
theorem pen_spec {T : Tx} {c : Int} {G : List SO} (h : noG G = true) : ∃ G', runD T penDf [.d (.int c)] G = some (.g G.length, G') ∧ Pn G.length 1000000 G' ∧ G'.length = G.length + 1 := by
  have e1 : binD .Pow (.int 10) (.int 18) = some (.int 1000000000000000000) := rfl
  have n1 := fun x : Int => noG_app h (noV3 x (c % 1000000007) 0)
  refine ⟨G ++ [.lst [.d (.int (if 1000000000000000000 < c then c - 1000000000000000000 else 0)), .d (.int (c % 1000000007)), .d (.int 0)]], ?_, ⟨n1 _, _, List.getElem?_concat_length, _, _, _, rfl, ?_, Int.emod_nonneg _ (by decide), Int.emod_lt_of_pos _ (by decide), by decide, by decide⟩, by simp⟩
  · simp [penDf, runD, startL, e1, mod_i (a := c) (b := 1000000007) (by decide), n1]
  · split <;> omega
theorem cell_spec {T : Tx} {ns : List Int} {k : Nat} {G : List SO} (h : noG G = true) : ∃ c : Int, runD T cellDf [.s ns, .d (.int k)] G = some (.d (.int c), G) := by
  by_cases hk : k < ns.length
  · refine ⟨ns[k], ?_⟩
    have e1 : atP ns (k : Int) = some ns[k] := by rw [atP_nat (by omega)]; simp [hk]
    simp [cellDf, runD, startL, hk, e1, h]
  · exact ⟨0, by simp [cellDf, runD, startL, hk, h]⟩
end Ev

/-! the defs of a row with refusals, by the head's facts -/
namespace Ev
open PySem PySem.Spec PyProof.Rows L2 LamX
def csOf (cns : List (Str × PyData)) (k : Nat) : Option PyData := cns[k]?.map (·.2)
def xiOf (drs : List Dr) (cns : List (Str × PyData)) (n : Nat) : XT := xi (csOf cns) (drs.map fun d : Dr => d.df) n
def phiOf (drs : List Dr) (cns : List (Str × PyData)) (n : Nat) : FT := normT (xiOf drs cns n)
def Rw.g (R : Rw) (K : PySem.W.Frag) : Gx := ⟨fun c => .ref (He.ga K (R.xcs.getD c "")), R.lam.map fun x => ((He.cT K (x, none)).2, x ++ ".<locals>." ++ "<lambda>")⟩
/-- all that a row's text must show -/
structure Rw.Ok (R : Rw) : Prop where
  ok : R.drs.all R.ok1 = true
  b : ∀ d ∈ R.drs, d.Bind
  sd : R.hs = true → R.sd.ok = true
  bs : R.hs = true → R.sd.said.Bind
  br : R.hs = true → R.sd.rf.Bind
  ws : R.hs = true → R.sd.ws.length ≤ R.xcs.length
  ev : R.hs = true → ∀ c wd, R.sd.ws[c]? = some wd → ∀ a, ∃ e1 s1, evSs ⟨fun _ => none, isT a (R.bt c)⟩ R.sd.rf.df.body (startL 1 R.sd.rf.N.length [.e a]) ⟨[], []⟩ = some (.rt (.d (.str wd)), e1, s1)
section
variable {R : Rw} {K : PySem.W.Frag} {h base : Heap} {mg : Str → Option Value} {Pg : Program} {W w : World}
theorem xi_succ {n i : Nat} {d : Dr} (hd : R.drs[i]? = some d) : xiOf R.drs R.cns (n + 1) i = runX ⟨csOf R.cns, xiOf R.drs R.cns n⟩ d.df := by
  funext vs g
  show (match (R.drs.map fun d : Dr => d.df)[i]? with
    | some d => runX ⟨csOf R.cns, xi (csOf R.cns) (R.drs.map fun d : Dr => d.df) n⟩ d vs g
    | none => none) = _
  rw [List.getElem?_map, hd]
  rfl
variable (X : K.In h) (G : h.Ns mainGlobals mg) (c : He.SaysX R.fa R.fn [] R.tf R.ex w h K)
include X G c
theorem f_glo {x : Str} (hx : He.Fa.glo x ∈ R.fa) : mg x = some (.ref (He.ga K x)) := He.glo_ok X G (c.t.d.facts hx)
theorem f_free {x : Str} (hx : He.Fa.free x ∈ R.fa) : mg x = none := He.free_ok X G (c.t.d.facts hx)
omit X G in
theorem f_def {d : Dr} (hd : d.dd ∈ R.fn) : ∃ fd, FunD K d.name d.name (defArgs d.st) (defBody d.st) (defScope d.st) [] [] (He.ga K d.name) fd := by
  have := c.t.d.defs hd
  exact this
theorem f_bl : ∀ x ∈ blNames, mg (Str.ofString x) = none := fun x hx => f_free X G c (List.mem_append_right _ (List.mem_append_left _ (List.mem_map.mpr ⟨x, hx, rfl⟩)))
theorem x_mem {x : Str} (hx : x ∈ R.xcs) : He.Fa.glo x ∈ R.fa ∧ He.Fa.exc x ∈ R.fa := by
  have key : ∀ f ∈ [He.Fa.glo x, .exc x], f ∈ R.fa := fun f hf => List.mem_append_right _ (List.mem_append_right _ (List.mem_append_left _ (List.mem_flatMap.mpr ⟨x, hx, hf⟩)))
  exact ⟨key _ (by simp), key _ (by simp)⟩
theorem s_at (hs : R.hs = true) {f : He.Fa} (hf : f ∈ R.xcs.map (fun x => He.Fa.exm x R.sd.e true) ++ ([.glo R.sd.said.name, .glo R.sd.rf.name, .glo R.sd.e, .free "ValueError"] ++ (R.sd.xk.filter fun x => x ≠ ("ValueError" : Str)).map fun x => .glo x)) : f ∈ R.fa := by
  refine List.mem_append_right _ (List.mem_append_right _ (List.mem_append_right _ ?_))
  unfold Rw.fs1
  rw [if_pos hs]
  exact hf
theorem x_memE (hs : R.hs = true) {x : Str} (hx : x ∈ R.xcs) : He.Fa.exm x R.sd.e true ∈ R.fa := s_at X G c hs (List.mem_append_left _ (List.mem_map.mpr ⟨x, hx, rfl⟩))
theorem f_xcf {x : Str} (hx : x ∈ R.xcs) : mg x = some (.ref (He.ga K x)) ∧ XcF K (He.ga K x) := by
  obtain ⟨h1, h2⟩ := x_mem X G c hx
  obtain ⟨e1, e2, e3, e4⟩ := He.exc_ok (c.t.d.facts h2)
  exact ⟨f_glo X G c h1, ⟨⟨_, _, _, _, PySem.F.excBase_ValueError, e1⟩, e2, e3, e4⟩⟩
theorem s_mem (hs : R.hs = true) {f : He.Fa} (hf : f ∈ ([.glo R.sd.said.name, .glo R.sd.rf.name, .glo R.sd.e, .free "ValueError"] : List He.Fa)) : f ∈ R.fa := s_at X G c hs (List.mem_append_right _ (List.mem_append_left _ hf))
omit X G in
theorem f_sm : smB K = true := by
  have m := c.more
  unfold Rw.ex at m
  rw [Bool.and_eq_true] at m
  exact m.1
omit X G in
theorem f_ex : (∀ q ∈ R.cns, conB K q = true) ∧ (∀ i, i < R.xcs.length → ExcC K (He.ga K (R.xcs.getD i "")) ∧ ∀ k, k < R.sd.xk.length → PySem.W.kitOne K (.ref (He.ga K (R.xcs.getD i ""))) (cvX K (R.sd.xk.getD k "")) = some (R.bt i k)) ∧ (R.tf.map fun p => (He.cT K p).2).Nodup := by
  have m := c.more
  unfold Rw.ex at m
  simp only [Bool.and_eq_true, decide_eq_true_eq, List.all_eq_true, List.mem_range] at m
  have m := m.2
  refine ⟨m.1, fun i hi => ?_, m.2.2⟩
  obtain ⟨h1, h2⟩ := m.2.1 i hi
  refine ⟨excB_ok h1, fun k hk => ?_⟩
  unfold btB at h2
  have := List.all_eq_true.mp h2 k (List.mem_range.mpr hk)
  simpa using this
theorem f_calR (hs : R.hs = true) (o : R.Ok) (k : Nat) : CalR Pg W K mg base (k + 1) R.sd.rf.name (R.g K) R.sd.ws := by
  have q := o.sd hs
  unfold Sd.ok at q
  simp only [Bool.and_eq_true, decide_eq_true_eq, List.all_eq_true] at q
  obtain ⟨⟨⟨⟨⟨q1, q2⟩, q3⟩, q4⟩, q5⟩, _⟩ := q
  obtain ⟨fd, F⟩ := f_def c (d := R.sd.rf) (List.mem_append_right _ (by rw [if_pos hs]; simp))
  obtain ⟨x, hx⟩ : ∃ x, R.sd.rf.ps = [x] := by
    cases e : R.sd.rf.ps with
    | nil => rw [e] at q3; cases q3
    | cons x r => cases r with
      | nil => exact ⟨x, rfl⟩
      | cons _ _ => rw [e] at q3; cases q3
  have S : FnScope R.sd.rf.N [x] (defScope R.sd.rf.st) := by
    rw [← hx]
    obtain ⟨a1, a2, a3, a4, a5, a6, a7⟩ := C8.fnScope_by q2
    exact ⟨a1, a2, a3, a4, a5, a6, a7⟩
  have hb := F.bindsN (o.br hs)
  have hb : Binds K fd [x] [] := by
    have hb : Binds K fd R.sd.rf.ps [] := hb
    rw [hx] at hb
    exact hb
  refine ⟨_, fd, x, f_glo X G c (s_mem X G c hs (by simp)), F.kp, hb, fun i wd hwd => ?_⟩
  have hi : i < R.xcs.length := Nat.lt_of_lt_of_le (List.getElem?_eq_some_iff.mp hwd).1 (o.ws hs)
  obtain ⟨hC, hk⟩ := (f_ex c).2.1 i hi
  have gl : ∀ {y : Str}, glX (defScope R.sd.rf.st) y = true → (defScope R.sd.rf.st).names.lookup y = some .globalImplicit ∧ (y == ("__debug__" : Str)) = false := fun {y} z => by
    unfold glX glB at z
    simpa using z
  refine fnr_of (P := R.sd.rpm) (bs := R.bt i) (f_sm c) F S rfl rfl rfl rfl rfl rfl hC (f_bl X G c) (gl q5).1 (fun j y hj => ?_) q1 (o.ev hs i wd hwd)
  have hj : R.sd.xk[j]? = some y := hj
  obtain ⟨hjl, hje⟩ := List.getElem?_eq_some_iff.mp hj
  have hg := gl (q4 y (List.mem_of_getElem? hj))
  have hk := hk j hjl
  have ey : R.sd.xk.getD j "" = y := by rw [List.getD_eq_getElem?_getD, hj]; rfl
  rw [ey] at hk
  refine ⟨cvX K y, ⟨hg.1, hg.2, ?_⟩, hk⟩
  unfold cvX
  by_cases e : y = ("ValueError" : Str)
  · rw [if_pos e]
    refine .inr ⟨?_, "ValueError", ?_, rfl, ?_⟩
    · rw [e]; exact f_free X G c (s_mem X G c hs (by simp))
    · rw [e]; decide +kernel
    · rw [e]; decide
  · rw [if_neg e]
    refine .inl ⟨_, f_glo X G c ?_, rfl⟩
    exact s_at X G c hs (List.mem_append_right _ (List.mem_append_right _ (List.mem_map.mpr ⟨y, List.mem_filter.mpr ⟨List.mem_of_getElem? hj, by simpa using e⟩, rfl⟩)))
omit X G c in
theorem nd_ne {α β : Type} {f : α → β} : ∀ {l : List α}, (l.map f).Nodup → ∀ {p q : α}, p ∈ l → q ∈ l → p ≠ q → f p ≠ f q
  | [], _, p, _, hp, _, _ => by cases hp
  | z :: l, nd, p, q, hp, hq, ne => by
    rw [List.map_cons, List.nodup_cons] at nd
    rcases List.mem_cons.mp hp with e1 | hp
    · rcases List.mem_cons.mp hq with e2 | hq
      · exact absurd (e1.trans e2.symm) ne
      · intro e
        exact nd.1 (List.mem_map.mpr ⟨q, hq, by rw [← e, e1]⟩)
    · rcases List.mem_cons.mp hq with e2 | hq
      · intro e
        exact nd.1 (List.mem_map.mpr ⟨p, hp, by rw [e, e2]⟩)
      · exact nd_ne nd.2 hp hq ne
omit X G in
theorem f_tab {d : Dr} (hl : d.name ∈ R.lam) {cdv : Value} {fd : FuncData} (hcd : PySem.W.codeIn K cdv d.name = true) (hfd : ∃ oc od osl, K.lookup (He.ga K d.name) = some ⟨oc, od, .func fd, osl⟩ ∧ fd.code = cdv)
    (TB : ∀ p ∈ R.tf, TabB base mg (He.cT K p).1 (He.cT K p).2) : ∃ c1 P1, TabB base mg c1 P1 ∧ cdv = .ref c1 ∧ (P1, d.name ++ ".<locals>." ++ "<lambda>") ∈ (R.g K).T ∧ ∀ p ∈ (R.g K).T, p.1 = P1 → p.2 = d.name ++ ".<locals>." ++ "<lambda>" := by
  obtain ⟨oc, od, osl, lk, ec⟩ := hfd
  obtain ⟨cc, ecc⟩ := He.codeIn_ref hcd
  have e1 : (He.cT K (d.name, none)).1 = cc := He.codeOf_eq (p := (d.name, none)) lk (ec.trans ecc)
  have hm : (d.name, none) ∈ R.tf := List.mem_map.mpr ⟨d.name, hl, rfl⟩
  have hmem : ((He.cT K (d.name, none)).2, d.name ++ ".<locals>." ++ "<lambda>") ∈ (R.g K).T := by
    show _ ∈ R.lam.map fun x => ((He.cT K (x, none)).2, x ++ ".<locals>." ++ "<lambda>")
    exact List.mem_map_of_mem (f := fun x => ((He.cT K (x, none)).2, x ++ ".<locals>." ++ "<lambda>")) hl
  refine ⟨_, _, TB _ hm, by rw [e1, ecc], hmem, fun p hp ep => ?_⟩
  have hp : p ∈ R.lam.map fun x => ((He.cT K (x, none)).2, x ++ ".<locals>." ++ "<lambda>") := hp
  obtain ⟨y, hy, rfl⟩ := List.mem_map.mp hp
  have nd := (f_ex c).2.2
  have inj : ∀ {l : List He.Defn}, (l.map fun p => (He.cT K p).2).Nodup → ∀ p ∈ l, ∀ q ∈ l, (He.cT K p).2 = (He.cT K q).2 → p = q := by
    intro l nd p hp q hq e
    by_cases pq : p = q
    · exact pq
    · exact absurd e (nd_ne nd hp hq pq)
  have : (y, (none : Option Str)) = (d.name, none) := inj nd _ (List.mem_map.mpr ⟨y, hy, rfl⟩) _ hm ep
  cases this
  rfl
theorem f_said (hs : R.hs = true) (o : R.Ok) (k : Nat) {d : Dr} (hl : d.name ∈ R.lam) {cdv : Value} {A : Around} {outer : List Env} {s : Shared} {H : Hp} {E : XK} {fd : FuncData} (hcd : PySem.W.codeIn K cdv d.name = true) (hfd : ∃ oc od osl, K.lookup (He.ga K d.name) = some ⟨oc, od, .func fd, osl⟩ ∧ fd.code = cdv)
    (TB : ∀ p ∈ R.tf, TabB base mg (He.cT K p).1 (He.cT K p).2) : SaidF (cxOf (L2.CX Pg W) Pg W K mg base d.N d.name (defScope d.st) (He.ga K d.name) cdv A outer s H E) (R.g K) (k + 1) R.sd.said.name R.sd.ws := by
  have q := o.sd hs
  unfold Sd.ok at q
  rw [Bool.and_eq_true] at q
  have q := q.2
  split at q
  · rename_i a v a' hN hps
    simp only [Bool.and_eq_true, decide_eq_true_eq, Bool.not_eq_true'] at q
    obtain ⟨⟨⟨⟨⟨⟨⟨⟨⟨q1, q2⟩, q3⟩, q4⟩, q5⟩, q6⟩, q7⟩, q8⟩, q9⟩, q10⟩ := q
    subst q1
    obtain ⟨fs, F⟩ := f_def c (d := R.sd.said) (List.mem_append_right _ (by rw [if_pos hs]; simp))
    have S : FnScope R.sd.said.N R.sd.said.ps (defScope R.sd.said.st) := by
      obtain ⟨a1, a2, a3, a4, a5, a6, a7⟩ := C8.fnScope_by q2
      exact ⟨a1, a2, a3, a4, a5, a6, a7⟩
    rw [hN, hps] at S
    have hb : Binds K fs R.sd.said.ps [] := F.bindsN (o.bs hs)
    rw [hps] at hb
    have gl : ∀ {y : Str}, glX (defScope R.sd.said.st) y = true → (defScope R.sd.said.st).names.lookup y = some .globalImplicit ∧ (y == ("__debug__" : Str)) = false := fun {y} z => by
      unfold glX glB at z
      simpa using z
    refine ⟨⟨_, He.ga K R.sd.e, fs, _, _, _, a, R.sd.e, v, R.sd.rf.name, F, f_glo X G c (s_mem X G c hs (by simp)), hb, S, q3, q4, (gl q5).1, (gl q5).2, f_glo X G c (s_mem X G c hs (by simp)), (gl q6).1, (gl q6).2, q7, q8, q9, q10, f_calR X G c hs o k, fun i wd hwd => ?_⟩, ?_⟩
    · have hi : i < R.xcs.length := Nat.lt_of_lt_of_le (List.getElem?_eq_some_iff.mp hwd).1 (o.ws hs)
      have hm : R.xcs.getD i "" ∈ R.xcs := by
        rw [List.getD_eq_getElem?_getD, List.getElem?_eq_getElem hi]
        exact List.getElem_mem hi
      exact He.exm_ok (c.t.d.facts (x_memE X G c hs hm))
    · exact f_tab c hl hcd hfd TB
  · cases q
omit X G c in
theorem fs_at {i : Nat} {x : Str} {n : Nat} (h : R.fs[i]? = some (x, n)) : ∃ d, R.drs[i]? = some d ∧ d.name = x ∧ d.df.ar = n := by
  unfold Rw.fs at h
  rw [List.getElem?_map] at h
  obtain ⟨d, h1, h2⟩ := Option.map_eq_some_iff.mp h
  cases h2
  exact ⟨d, h1, rfl, rfl⟩
theorem fn_at2 (o : R.Ok) (TB : ∀ p ∈ R.tf, TabB base mg (He.cT K p).1 (He.cT K p).2) {n i : Nat} {d : Dr} (hd : R.drs[i]? = some d) {fd : FuncData} (F : FunD K d.name d.name (defArgs d.st) (defBody d.st) (defScope d.st) [] [] (He.ga K d.name) fd)
    (ih : ∀ (j : Nat) (d' : Dr), R.drs[j]? = some d' → CalG Pg W K mg base (3 * n) d'.name (spE K (R.g K) (xiOf R.drs R.cns n j) d'.df.ar)) :
    FnG Pg W K mg base (3 * n + 3) (He.ga K d.name) fd d.ps (spE K (R.g K) (xiOf R.drs R.cns (n + 1) i) d.df.ar) := by
  have hm := List.mem_of_getElem? hd
  have ok := List.all_eq_true.mp o.ok d hm
  unfold Rw.ok1 at ok
  simp only [Bool.and_eq_true, decide_eq_true_eq] at ok
  obtain ⟨⟨⟨k1, k2⟩, k3⟩, k4⟩ := ok
  have S : FnScope d.N d.ps (defScope d.st) := by
    obtain ⟨a1, a2, a3, a4, a5, a6, a7⟩ := C8.fnScope_by k2
    exact ⟨a1, a2, a3, a4, a5, a6, a7⟩
  have gl := f_glo X G c (x := d.name) (List.mem_append_left _ (List.mem_map.mpr ⟨d, hm, rfl⟩))
  rw [xi_succ hd]
  refine fn_run (P := R.pm d) (k := 3 * n) (f_sm c) F gl (F.bindsN (o.b d hm)) S k3 k4 rfl (f_bl X G c) (fun k x hx => ?_) (fun f x m hf => ?_) rfl (fun i x hx => ?_) (fun cdv A outer s H E y ws hcd hfd hs => ?_) (fun cdv hcd hfd hl => f_tab c (by simpa using (show R.lam.contains d.name = true from hl)) hcd hfd TB) k1
  · have hx : (R.cns.map (·.1))[k]? = some x := hx
    rw [List.getElem?_map] at hx
    obtain ⟨q, h1, h2⟩ := Option.map_eq_some_iff.mp hx
    subst h2
    obtain ⟨u, v, e1, e2, e3⟩ := conB_ok X G ((f_ex c).1 q (List.mem_of_getElem? h1))
    refine ⟨u, v, e1, e2, fun d hd F => ?_⟩
    have hd : csOf R.cns k = some d := hd
    unfold csOf at hd
    rw [h1] at hd
    cases hd
    exact e3 F
  · obtain ⟨d', h1, h2, h3⟩ := fs_at hf
    subst h2 h3
    exact ih f d' h1
  · have hx : R.xcs[i]? = some x := hx
    obtain ⟨e1, e2⟩ := f_xcf X G c (List.mem_of_getElem? hx)
    refine ⟨He.ga K x, e1, ?_, e2⟩
    show Value.ref (He.ga K (R.xcs.getD i "")) = _
    rw [List.getD_eq_getElem?_getD, hx]
    rfl
  · have hs : (if R.hs && R.lam.contains d.name then some (R.sd.said.name, R.sd.ws) else none) = some (y, ws) := hs
    split at hs
    · rename_i hl
      cases hs
      rw [Bool.and_eq_true] at hl
      exact ⟨3 * n + 1, f_said X G c hl.1 o (3 * n) (by simpa using hl.2) hcd hfd TB, Nat.le_refl _⟩
    · cases hs
theorem all_cal2 (o : R.Ok) (TB : ∀ p ∈ R.tf, TabB base mg (He.cT K p).1 (He.cT K p).2) : ∀ (n i : Nat) (d : Dr), R.drs[i]? = some d → CalG Pg W K mg base (3 * n) d.name (spE K (R.g K) (xiOf R.drs R.cns n i) d.df.ar)
  | 0, i, d, hd => by
    have hm := List.mem_of_getElem? hd
    obtain ⟨fd, F⟩ := f_def c (List.mem_append_left _ (List.mem_map.mpr ⟨d, hm, rfl⟩))
    have gl := f_glo X G c (x := d.name) (List.mem_append_left _ (List.mem_map.mpr ⟨d, hm, rfl⟩))
    have ok := List.all_eq_true.mp o.ok d hm
    unfold Rw.ok1 at ok
    simp only [Bool.and_eq_true, decide_eq_true_eq] at ok
    refine ⟨_, fd, d.ps, ⟨fun vs H Q E q => q.1.trans ok.1.2.symm, fun A outer s H args us vs Q E _ _ _ _ _ q => ?_⟩, gl, F.kp, F.bindsN (o.b d hm)⟩
    obtain ⟨_, w, vs, G', r, G'', _, _, _, _, _, z, _⟩ := q
    cases (show (none : Option ((Val ⊕ Nat) × List SO)) = some (r, G'') from z)
  | n + 1, i, d, hd => by
    have hm := List.mem_of_getElem? hd
    obtain ⟨fd, F⟩ := f_def c (List.mem_append_left _ (List.mem_map.mpr ⟨d, hm, rfl⟩))
    have gl := f_glo X G c (x := d.name) (List.mem_append_left _ (List.mem_map.mpr ⟨d, hm, rfl⟩))
    exact ⟨_, fd, d.ps, fn_at2 X G c o TB hd F (all_cal2 o TB n), gl, F.kp, F.bindsN (o.b d hm)⟩
/-- what walk_goT asks of the law's def -/
theorem law_fn2 (o : R.Ok) {n i m : Nat} {d : Dr} {x : Str} {fa : Addr} (hd : R.drs[i]? = some d) (hps : d.ps = [x]) (har : d.df.ar = 1) (hfa : mg d.name = some (.ref fa)) (law : ∀ ns : List Int, ns.length ≤ m → ∃ G, phiOf R.drs R.cns (n + 1) i [.s ns] [] = some (.d (.bool true), G)) :
    ∃ (fd : FuncData) (cs : List (Addr × Addr)) (sp : Sp), (∀ p ∈ cs, h.get? p.2 = some noTab) ∧ (∀ p ∈ cs, K.lookup p.2 = none) ∧ (∀ p ∈ cs, PySem.W.CodeHd h p.1 p.2) ∧ (∀ (s : Shared) (u : Value), BindsTo s fd ⟨[u], []⟩ [(x, u)]) ∧
        (∀ (H : Hp) (a : Addr) (ns : List Int), ns.length ≤ m → (∀ p ∈ cs, H p.2 = some (.tbl #[])) → SqL K H a (ns.map V.int) → sp [.ref a] H (fun v _ => v = .bl true) fun _ _ _ => False) ∧
        ∀ base : Heap, K.In base → base.Ns mainGlobals mg → (∀ p ∈ cs, TabB base mg p.1 p.2) → FnG Pg W K mg base (3 * n + 3) fa fd [x] sp := by
  have hm := List.mem_of_getElem? hd
  obtain ⟨fd, F⟩ := f_def c (List.mem_append_left _ (List.mem_map.mpr ⟨d, hm, rfl⟩))
  have gl := f_glo X G c (x := d.name) (List.mem_append_left _ (List.mem_map.mpr ⟨d, hm, rfl⟩))
  have e := hfa.symm.trans gl
  have e : fa = He.ga K d.name := by cases e; rfl
  subst e
  refine ⟨fd, R.tf.map fun p => He.cT K p, spE K (R.g K) (xiOf R.drs R.cns (n + 1) i) 1, fun p hp => ?_, fun p hp => ?_, fun p hp => ?_, fun s u => ?_, fun H a ns hl hH hS => ?_, fun base _ _ TB => ?_⟩
  · obtain ⟨q, hq, rfl⟩ := List.mem_map.mp hp
    exact c.empty q hq
  · obtain ⟨q, hq, rfl⟩ := List.mem_map.mp hp
    exact c.out q hq
  · obtain ⟨q, hq, rfl⟩ := List.mem_map.mp hp
    exact PySem.W.codeHd_of_K X (c.hd q hq)
  · have q := F.bindsA (ps := d.ps) (o.b d hm) s [u] (by rw [hps]; rfl)
    rw [hps] at q
    exact q
  · obtain ⟨G', hr⟩ := law ns hl
    have hr : valO (xiOf R.drs R.cns (n + 1) i [.s ns] []) = some (.d (.bool true), G') := hr
    have hx : xiOf R.drs R.cns (n + 1) i [.s ns] [] = some (.inl (.d (.bool true)), G') := by
      cases q : xiOf R.drs R.cns (n + 1) i [.s ns] [] with
      | none => rw [q] at hr; cases hr
      | some p =>
        obtain ⟨r, g⟩ := p
        rw [q] at hr
        cases r with
        | inl v => cases hr; rfl
        | inr _ => cases hr
    have hTb : Tabs (R.g K).T H := fun p hp => by
      have hp : p ∈ R.lam.map fun x => ((He.cT K (x, none)).2, x ++ ".<locals>." ++ "<lambda>") := hp
      obtain ⟨y, hy, rfl⟩ := List.mem_map.mp hp
      exact TabS.nil (hH (He.cT K (y, none)) (List.mem_map.mpr ⟨(y, none), List.mem_map.mpr ⟨y, hy, rfl⟩, rfl⟩))
    have hF : ∀ b : Addr, (match H b with | some (.tbl _) => none | o => o) = none ∨ (match H b with | some (.tbl _) => none | o => o) = H b := fun b => by
      split
      · exact .inl rfl
      · exact .inr rfl
    refine ⟨rfl, ⟨fun b => match H b with | some (.tbl _) => none | o => o, [], [], (R.g K).T⟩, [.s ns], [], _, G', rfl, rfl, hTb, ⟨.refl, fun b u z => ?_, fun b ps z => ?_, List.nodup_nil, (fun a ha => by cases ha), .nil, .nil, .nil⟩, .cons ⟨a, rfl, ?_⟩ .nil, hx, fun w' H' _ _ _ z rz => ?_⟩
    · rcases hF b with q | q
      · rw [show (match H b with | some (.tbl _) => none | o => o) = some u from z] at q; cases q
      · rw [← q]; exact z
    · have z : (match H b with | some (.tbl _) => none | o => o) = some (.tbl ps) := z
      split at z
      · cases z
      · rename_i q
        exact q ps z
    · rcases hS with (h1 | ⟨ob, h1⟩) | h1
      · refine .inl (.inl ?_)
        show (match H a with | some (.tbl _) => none | o => o) = _
        rw [h1]
      · refine .inl (.inr ⟨ob, ?_⟩)
        show (match H a with | some (.tbl _) => none | o => o) = _
        rw [h1]
      · exact .inr h1
    · exact rz
  · have q := fn_at2 (Pg := Pg) (W := W) (base := base) X G c o (fun p hp => TB (He.cT K p) (List.mem_map.mpr ⟨p, hp, rfl⟩)) hd F (all_cal2 X G c o (fun p hp => TB (He.cT K p) (List.mem_map.mpr ⟨p, hp, rfl⟩)) n)
    rw [hps, har] at q
    exact q
end
end Ev

namespace Nh
open PySem PySem.Spec PyProof.Rows L2 Ev
abbrev pg : PySem.Program := PySem.Challenge.pw_nightsheld_k65_coins_shared
def top (i : Nat) : Stmt := pg.main.body.getD i (.Pass ⟨0, 0, 0, 0⟩)
def i_is_whole : Nat := 0
def i_is_among : Nat := 1
def i_is_row : Nat := 2
def i_are_parts : Nat := 3
def i_need_parts : Nat := 4
def i_is_coins : Nat := 5
def i_shared : Nat := 6
def i__law_cell_at : Nat := 7
def i__law_pen : Nat := 8
def i__law_draw : Nat := 9
def i__law_parts : Nat := 10
def i__law_coins : Nat := 11
def i__law_shares : Nat := 12
def i_law : Nat := 13
def k_MOST_PAYERS : Nat := 0
def k_MOST_PART : Nat := 1
def k_MOST_COINS : Nat := 2
def x_NoParts : Nat := 0
def x_NoCoins : Nat := 1
def xcs : List Str := ["NoParts", "NoCoins"]
def sws : List Str := []
def f_is_whole : Dr := ⟨top 5, "is_whole", ["thing"], ["thing"], ⟨1, 1, (.cons (.ret (.and (.cons (.isi (.var 0) .int) (.cons (.not (.isi (.var 0) .bool)) .nil)))) .nil)⟩⟩
def f_is_among : Dr := ⟨top 6, "is_among", ["thing", "low", "high"], ["thing", "low", "high"], ⟨3, 3, (.cons (.ret (.and (.cons (.call i_is_whole (.cons (.var 0) .nil)) (.cons (.chn .LtE .LtE (.var 1) (.var 0) (.var 2)) .nil)))) .nil)⟩⟩
def f_is_row : Dr := ⟨top 7, "is_row", ["thing", "low", "high"], ["thing", "low", "high"], ⟨3, 3, (.cons (.ret (.and (.cons (.isi (.var 0) .tuple) (.cons (.chn .LtE .LtE (.var 1) (.b1 .len (.var 0)) (.var 2)) .nil)))) .nil)⟩⟩
def f_are_parts_c0 : Ex := .comp .pure (.call i_is_among (.cons (.var 1) (.cons (.lit (.int 0)) (.cons (.glo k_MOST_PART) .nil)))) (.nm 1) (.seq (.var 0)) .none [1]
def f_are_parts : Dr := ⟨top 12, "are_parts", ["thing"], ["thing", "one"], ⟨1, 2, (.cons (.iff (.or (.cons (.not (.v (.call i_is_row (.cons (.var 0) (.cons (.lit (.int 1)) (.cons (.glo k_MOST_PAYERS) .nil)))))) (.cons (.not (.v (.b1 .all f_are_parts_c0))) .nil))) (.cons (.ret (.lit (.bool false))) .nil) .nil) (.cons (.ret (.cmp .Gt (.b1 .sum (.var 0)) (.lit (.int 0)))) .nil))⟩⟩
def f_need_parts : Dr := ⟨top 13, "need_parts", ["thing"], ["thing"], ⟨1, 1, (.cons (.iff (.not (.v (.call i_are_parts (.cons (.var 0) .nil)))) (.cons (.rsx 0) .nil) .nil) .nil)⟩⟩
def f_is_coins : Dr := ⟨top 14, "is_coins", ["thing"], ["thing"], ⟨1, 1, (.cons (.ret (.call i_is_among (.cons (.var 0) (.cons (.lit (.int 0)) (.cons (.glo k_MOST_COINS) .nil))))) .nil)⟩⟩
def f_shared_b0 : Sts := (.cons (.augs (.var 3) (.var 5) .Add (.lit (.int 1))) .nil)
def f_shared_c0 : Ex := .comp .loc (.bin .FloorDiv (.bin .Mult (.var 1) (.var 6)) (.var 2)) (.nm 6) (.seq (.var 0)) .none [6]
def f_shared : Dr := ⟨top 15, "shared", ["parts", "coins"], ["parts", "coins", "whole", "found", "order", "payer", "part"], ⟨2, 7, (.cons (.exx i_need_parts (.cons (.var 0) .nil)) (.cons (.iff (.not (.v (.call i_is_coins (.cons (.var 1) .nil)))) (.cons (.rsx 1) .nil) .nil) (.cons (.set 2 (.b1 .sum (.var 0))) (.cons (.set 3 f_shared_c0) (.cons (.set 4 (.sk true (.b1 .len (.var 0)) 5 (.tup (.cons (.bin .Sub (.lit (.int 0)) (.bin .Mod (.bin .Mult (.var 1) (.idx (.var 0) (.var 5))) (.var 2))) (.cons (.var 5) .nil))))) (.cons (.forr (.nm 5) (.seq (.slc (.var 4) .none (.some (.bin .Sub (.var 1) (.b1 .sum (.var 3)))))) f_shared_b0) (.cons (.ret (.b1 .tuple (.var 3))) .nil)))))))⟩⟩
def f__law_cell_at : Dr := ⟨top 17, "_law_cell_at", ["_law_script", "_law_k"], ["_law_script", "_law_k"], ⟨2, 2, (.cons (.iff (.v (.cmp .Lt (.var 1) (.b1 .len (.var 0)))) (.cons (.ret (.idx (.var 0) (.var 1))) .nil) .nil) (.cons (.ret (.lit (.int 0))) .nil))⟩⟩
def f__law_pen : Dr := ⟨top 18, "_law_pen", ["_law_cell"], ["_law_cell"], ⟨1, 1, (.cons (.ret (.lst .glob (.cons (.b2 .max (.lit (.int 0)) (.bin .Sub (.var 0) (.bin .Pow (.lit (.int 10)) (.lit (.int 18))))) (.cons (.bin .Mod (.var 0) (.lit (.int 1000000007))) (.cons (.lit (.int 0)) .nil))))) .nil)⟩⟩
def f__law_draw : Dr := ⟨top 19, "_law_draw", ["_law_pen_here", "_law_many"], ["_law_pen_here", "_law_many", "_law_stir", "_law_digit"], ⟨2, 4, (.cons (.iff (.v (.cmp .Gt (.idx (.var 0) (.lit (.int 0))) (.lit (.int 0)))) (.cons (.set 3 (.bin .Mod (.idx (.var 0) (.lit (.int 0))) (.var 1))) (.cons (.sub (.var 0) (.lit (.int 0)) (.bin .FloorDiv (.idx (.var 0) (.lit (.int 0))) (.var 1))) (.cons (.ret (.var 3)) .nil))) .nil) (.cons (.sub (.var 0) (.lit (.int 2)) (.bin .Add (.idx (.var 0) (.lit (.int 2))) (.lit (.int 1)))) (.cons (.set 2 (.bin .Mod (.bin .Mult (.bin .Add (.idx (.var 0) (.lit (.int 1))) (.bin .Mult (.lit (.int 17)) (.idx (.var 0) (.lit (.int 2))))) (.bin .Add (.lit (.int 69621)) (.bin .Mult (.lit (.int 2)) (.idx (.var 0) (.lit (.int 2)))))) (.lit (.int 2147483647)))) (.cons (.set 2 (.bin .Mod (.bin .Add (.bin .Add (.bin .Mult (.var 2) (.var 2)) (.bin .Mult (.lit (.int 40503)) (.idx (.var 0) (.lit (.int 2))))) (.lit (.int 5))) (.lit (.int 2147483629)))) (.cons (.ret (.bin .Mod (.bin .FloorDiv (.bin .Mod (.bin .Mult (.var 2) (.lit (.int 48271))) (.lit (.int 2147483647))) (.lit (.int 32))) (.var 1))) .nil)))))⟩⟩
def f__law_parts_c0 : Ex := .comp .loc (.idx (.lst .pure (.cons (.lit (.int 0)) (.cons (.lit (.int 1)) (.cons (.lit (.int 1)) (.cons (.lit (.int 2)) (.cons (.lit (.int 3)) (.cons (.lit (.int 50)) (.cons (.lit (.int 99)) .nil)))))))) (.call i__law_draw (.cons (.var 0) (.cons (.lit (.int 7)) .nil)))) (.nm 2) (.rng1 (.bin .Add (.lit (.int 1)) (.call i__law_draw (.cons (.var 0) (.cons (.lit (.int 4)) .nil))))) .none [2]
def f__law_parts : Dr := ⟨top 20, "_law_parts", ["_law_pen_here"], ["_law_pen_here", "_law_found", "_law_payer"], ⟨1, 3, (.cons (.set 1 f__law_parts_c0) (.cons (.iff (.v (.cmp .Eq (.b1 .sum (.var 1)) (.lit (.int 0)))) (.cons (.sub (.var 1) (.lit (.int 0)) (.bin .Add (.lit (.int 1)) (.call i__law_draw (.cons (.var 0) (.cons (.lit (.int 9)) .nil))))) .nil) .nil) (.cons (.ret (.b1 .tuple (.var 1))) .nil)))⟩⟩
def f__law_coins : Dr := ⟨top 21, "_law_coins", ["_law_pen_here"], ["_law_pen_here"], ⟨1, 1, (.cons (.ret (.idx (.lst .pure (.cons (.call i__law_draw (.cons (.var 0) (.cons (.lit (.int 12)) .nil))) (.cons (.call i__law_draw (.cons (.var 0) (.cons (.lit (.int 1000)) .nil))) (.cons (.bin .Sub (.lit (.int 1000000)) (.call i__law_draw (.cons (.var 0) (.cons (.lit (.int 4)) .nil)))) .nil)))) (.call i__law_draw (.cons (.var 0) (.cons (.lit (.int 3)) .nil))))) .nil)⟩⟩
def f__law_shares_b0 : Sts := (.cons (.set 5 (.lm .index (.var 4) (.b1 .maxs (.var 4)))) (.cons (.sub (.var 3) (.var 5) (.bin .Add (.idx (.var 3) (.var 5)) (.lit (.int 1)))) (.cons (.sub (.var 4) (.var 5) (.neg (.lit (.int 1)))) .nil)))
def f__law_shares_c0 : Ex := .comp .loc (.bin .FloorDiv (.bin .Mult (.var 1) (.var 6)) (.var 2)) (.nm 6) (.seq (.var 0)) .none [6]
def f__law_shares_c1 : Ex := .comp .loc (.bin .Mod (.bin .Mult (.var 1) (.var 6)) (.var 2)) (.nm 6) (.seq (.var 0)) .none [6]
def f__law_shares : Dr := ⟨top 22, "_law_shares", ["_law_parts_here", "_law_coins_here"], ["_law_parts_here", "_law_coins_here", "_law_whole", "_law_found", "_law_rests", "_law_payer", "_law_part"], ⟨2, 7, (.cons (.set 2 (.b1 .sum (.var 0))) (.cons (.par 3 4 f__law_shares_c0 f__law_shares_c1) (.cons (.whl 10 (.v (.cmp .Lt (.b1 .sum (.var 3)) (.var 1))) f__law_shares_b0) (.cons (.ret (.b1 .tuple (.var 3))) .nil))))⟩⟩
def f_law_b0 : Sts := (.cons (.par 6 7 (.b1 .repr (.var 4)) (.call i__law_shares (.cons (.var 4) (.cons (.var 5) .nil)))) (.cons (.iff (.v (.cmp .NotEq (.b1 .repr (.lst .pure (.cons (.call i_shared (.cons (.var 4) (.cons (.var 5) .nil))) (.cons (.call i_shared (.cons (.var 4) (.cons (.var 5) .nil))) .nil)))) (.b1 .repr (.lst .pure (.cons (.var 7) (.cons (.var 7) .nil)))))) (.cons (.ret (.lit (.bool false))) .nil) .nil) (.cons (.iff (.v (.cmp .NotEq (.b1 .repr (.var 4)) (.var 6))) (.cons (.ret (.lit (.bool false))) .nil) .nil) .nil)))
def f_law_b1 : Sts := (.cons (.set 4 (.call i__law_parts (.cons (.var 2) .nil))) (.cons (.forr (.nm 5) (.seq (.lst .pure (.cons (.call i__law_coins (.cons (.var 2) .nil)) (.cons (.lit (.int 0)) (.cons (.lit (.int 1)) (.cons (.call i__law_draw (.cons (.var 2) (.cons (.lit (.int 100)) .nil))) .nil)))))) f_law_b0) .nil))
def f_law_b2 : Sts := (.cons (.set 2 (.call i__law_pen (.cons (.call i__law_cell_at (.cons (.var 0) (.cons (.var 1) .nil))) .nil))) (.cons (.forr (.nm 3) (.rng1 (.lit (.int 6))) f_law_b1) .nil))
def f_law : Dr := ⟨top 23, "law", ["_law_script"], ["_law_script", "_law_k", "_law_pen_here", "_law_turn", "_law_parts_here", "_law_coins_here", "_law_kept", "_law_due"], ⟨1, 8, (.cons (.forr (.nm 1) (.rng1 (.b2 .max (.lit (.int 1)) (.b2 .min (.b1 .len (.var 0)) (.lit (.int 5))))) f_law_b2) (.cons (.iff (.or (.cons (.v (.cmp .NotEq (.call i_shared (.cons (.tup (.cons (.lit (.int 1)) (.cons (.lit (.int 1)) (.cons (.lit (.int 1)) .nil)))) (.cons (.lit (.int 100)) .nil))) (.tup (.cons (.lit (.int 34)) (.cons (.lit (.int 33)) (.cons (.lit (.int 33)) .nil)))))) (.cons (.v (.cmp .NotEq (.call i_shared (.cons (.tup (.cons (.lit (.int 0)) (.cons (.lit (.int 2)) (.cons (.lit (.int 1)) .nil)))) (.cons (.lit (.int 10)) .nil))) (.tup (.cons (.lit (.int 0)) (.cons (.lit (.int 7)) (.cons (.lit (.int 3)) .nil)))))) .nil))) (.cons (.ret (.lit (.bool false))) .nil) .nil) (.cons (.ret (.cmp .Eq (.call i_shared (.cons (.tup (.cons (.lit (.int 1)) (.cons (.lit (.int 2)) (.cons (.lit (.int 2)) (.cons (.lit (.int 1)) .nil))))) (.cons (.lit (.int 4)) .nil))) (.tup (.cons (.lit (.int 1)) (.cons (.lit (.int 1)) (.cons (.lit (.int 1)) (.cons (.lit (.int 1)) .nil))))))) .nil)))⟩⟩
def drs : List Dr := [f_is_whole, f_is_among, f_is_row, f_are_parts, f_need_parts, f_is_coins, f_shared, f__law_cell_at, f__law_pen, f__law_draw, f__law_parts, f__law_coins, f__law_shares, f_law]
def cns : List (Str × PyData) := [("MOST_PAYERS", (.int 4)), ("MOST_PART", (.int 99)), ("MOST_COINS", (.int 1000000))]
@[simp] theorem cs_MOST_PAYERS : csOf cns k_MOST_PAYERS = some (.int 4) := rfl
@[simp] theorem cs_MOST_PART : csOf cns k_MOST_PART = some (.int 99) := rfl
@[simp] theorem cs_MOST_COINS : csOf cns k_MOST_COINS = some (.int 1000000) := rfl
theorem b_is_whole : f_is_whole.Bind := fun _ _ _ _ _ _ us hl => match us, hl with | [_], _ => rfl
theorem b_is_among : f_is_among.Bind := fun _ _ _ _ _ _ us hl => match us, hl with | [_, _, _], _ => rfl
theorem b_is_row : f_is_row.Bind := fun _ _ _ _ _ _ us hl => match us, hl with | [_, _, _], _ => rfl
theorem b_are_parts : f_are_parts.Bind := fun _ _ _ _ _ _ us hl => match us, hl with | [_], _ => rfl
theorem b_need_parts : f_need_parts.Bind := fun _ _ _ _ _ _ us hl => match us, hl with | [_], _ => rfl
theorem b_is_coins : f_is_coins.Bind := fun _ _ _ _ _ _ us hl => match us, hl with | [_], _ => rfl
theorem b_shared : f_shared.Bind := fun _ _ _ _ _ _ us hl => match us, hl with | [_, _], _ => rfl
theorem b__law_cell_at : f__law_cell_at.Bind := fun _ _ _ _ _ _ us hl => match us, hl with | [_, _], _ => rfl
theorem b__law_pen : f__law_pen.Bind := fun _ _ _ _ _ _ us hl => match us, hl with | [_], _ => rfl
theorem b__law_draw : f__law_draw.Bind := fun _ _ _ _ _ _ us hl => match us, hl with | [_, _], _ => rfl
theorem b__law_parts : f__law_parts.Bind := fun _ _ _ _ _ _ us hl => match us, hl with | [_], _ => rfl
theorem b__law_coins : f__law_coins.Bind := fun _ _ _ _ _ _ us hl => match us, hl with | [_], _ => rfl
theorem b__law_shares : f__law_shares.Bind := fun _ _ _ _ _ _ us hl => match us, hl with | [_, _], _ => rfl
theorem b_law : f_law.Bind := fun _ _ _ _ _ _ us hl => match us, hl with | [_], _ => rfl
def bt (c k : Nat) : Bool := (([] : List (List Nat)).getD c []).contains k
def sd : Sd := ⟨f_is_whole, f_is_whole, "", [], []⟩
def row : Rw := ⟨drs, cns, xcs, sd, ["shared"], bt, false⟩
theorem ok : drs.all row.ok1 = true := by decide +kernel
theorem binds : ∀ d ∈ drs, d.Bind := by
  intro d hd
  simp only [drs, List.mem_cons, List.not_mem_nil, or_false] at hd
  rcases hd with rfl | rfl | rfl | rfl | rfl | rfl | rfl | rfl | rfl | rfl | rfl | rfl | rfl | rfl
  · exact b_is_whole
  · exact b_is_among
  · exact b_is_row
  · exact b_are_parts
  · exact b_need_parts
  · exact b_is_coins
  · exact b_shared
  · exact b__law_cell_at
  · exact b__law_pen
  · exact b__law_draw
  · exact b__law_parts
  · exact b__law_coins
  · exact b__law_shares
  · exact b_law
theorem row_ok : row.Ok := ⟨ok, binds, nofun, nofun, nofun, nofun, nofun⟩
end Nh

/-! the evaluator, step by step: refusals -/
namespace Ev
open PySem
section
variable {T : Tx} {e : Lv} {s : Sto}
@[simp] theorem fn_mk (drs : List Dr) (cns : List (Str × PyData)) (n : Nat) : Tx.fn ⟨csOf cns, xiOf drs cns n⟩ = phiOf drs cns n := rfl
@[simp] theorem x_said (ws : List Str) (f : Nat) (es : Exs) : evE T (.said ws f es) e = bd (evEs T es e) fun vs => bd (keepVs vs) fun vs => saidV T ws f vs := rfl
@[simp] theorem saidV_ap (ws : List Str) (f : Nat) (vs : List Val) (s : Sto) : saidV T ws f vs s = if noG s.G then (T.xr f vs s.G).bind fun p => (resV ws p.1).map fun x => (.d x, { s with G := p.2 }) else none := rfl
@[simp] theorem resV_l (ws : List Str) (x : PyData) : resV ws (.inl (.d x)) = some (.tuple [.str "told", x]) := rfl
@[simp] theorem resV_r (ws : List Str) (c : Nat) : resV ws (.inr c) = (ws[c]?).map fun w => .tuple [.str w] := rfl
@[simp] theorem x_lm (f : LM) (o a : Ex) : evE T (.lm f o a) e = bd (evE T o e) fun v => bd (lisV v) fun _ => bd (evE T a e) fun u => bd (peek v) fun x => bd (peek u) fun y => ofO ((lmD f x y).map .d) := rfl
@[simp] theorem lisV_d (xs : List PyData) (s : Sto) : lisV (.d (.list xs)) s = some ((), s) := rfl
@[simp] theorem x_isx (i k : Nat) : evE T (.isx i k) e = isxV T i k e := rfl
@[simp] theorem x_dctp : evE T .dctp e s = some (.d (.dict []), s) := rfl
@[simp] theorem x_rsx (c : Nat) : evS T (.rsx c) e s = some (.xc c, e, s) := rfl
@[simp] theorem x_exx (f : Nat) (es : Exs) : evS T (.exx f es) e s = stp (evEs T es e) (fun vs s => stp (keepVs vs) (fun vs s => callX T f vs (fun _ s => some (.nx, e, s)) e s) s) s := rfl
@[simp] theorem x_retx (f : Nat) (es : Exs) : evS T (.retx f es) e s = stp (evEs T es e) (fun vs s => stp (keepVs vs) (fun vs s => callX T f vs (fun v s => stp (keepV v) (fun w s => some (.rt w, e, s)) s) e s) s) s := rfl
@[simp] theorem x_setx (i f : Nat) (es : Exs) : evS T (.setx i f es) e s = stp (evEs T es e) (fun vs s => stp (keepVs vs) (fun vs s => callX T f vs (fun v s => some (.nx, e.set i (some v), s)) e s) s) s := rfl
@[simp] theorem callX_ap (f : Nat) (vs : List Val) (k : Val → Sto → Out) (e : Lv) (s : Sto) : callX T f vs k e s = if noG s.G then (match T.xr f vs s.G with
  | some (.inl v, g) => k v { s with G := g }
  | some (.inr c, g) => some (.xc c, e, { s with G := g })
  | none => none) else none := rfl
@[simp] theorem sq_xc (c : Nat) (e : Lv) (s : Sto) (f : Lv → Sto → Out) : sq (some (.xc c, e, s)) f = some (.xc c, e, s) := rfl
@[simp] theorem endX_rt (v : Val) (e : Lv) (s : Sto) : endX (some (.rt v, e, s)) = if noG s.G && noV [v] then some (.inl v, s.G) else none := rfl
@[simp] theorem endX_nx (e : Lv) (s : Sto) : endX (some (.nx, e, s)) = if noG s.G then some (.inl (.d .none), s.G) else none := rfl
@[simp] theorem endX_xc (c : Nat) (e : Lv) (s : Sto) : endX (some (.xc c, e, s)) = if noG s.G then some (.inr c, s.G) else none := rfl
theorem phi_of {drs : List Dr} {cns : List (Str × PyData)} {n f : Nat} {vs : List Val} {G G' : List SO} {v : Val} (h : xiOf drs cns n f vs G = some (.inl v, G')) : phiOf drs cns n f vs G = some (v, G') := by
  show valO (xiOf drs cns n f vs G) = _
  rw [h]; rfl
theorem xi_of {drs : List Dr} {cns : List (Str × PyData)} {n f : Nat} {vs : List Val} {G G' : List SO} {v : Val} (h : phiOf drs cns n f vs G = some (v, G')) : xiOf drs cns n f vs G = some (.inl v, G') := by
  have h : valO (xiOf drs cns n f vs G) = some (v, G') := h
  cases q : xiOf drs cns n f vs G with
  | none => rw [q] at h; cases h
  | some p =>
    obtain ⟨r, g⟩ := p
    rw [q] at h
    cases r with
    | inl u => cases h; rfl
    | inr c => cases h
theorem xi_go {R : Rw} {n i : Nat} {d : Dr} (hd : R.drs[i]? = some d) (vs : List Val) (G : List SO) : xiOf R.drs R.cns (n + 1) i vs G = runX ⟨csOf R.cns, xiOf R.drs R.cns n⟩ d.df vs G := by rw [xi_succ hd]
theorem phi_go {R : Rw} {n i : Nat} {d : Dr} (hd : R.drs[i]? = some d) (vs : List Val) (G : List SO) : phiOf R.drs R.cns (n + 1) i vs G = runD ⟨csOf R.cns, xiOf R.drs R.cns n⟩ d.df vs G := by
  show valO (xiOf R.drs R.cns (n + 1) i vs G) = _
  rw [xi_succ hd]
  exact run_val _ _ _ _
end
end Ev

namespace Nh
open PySem Ev
theorem ph_at {n i : Nat} {d : Dr} (hd : drs[i]? = some d) (vs : List Val) (G : List SO) : phiOf drs cns (n + 1) i vs G = runD ⟨csOf cns, xiOf drs cns n⟩ d.df vs G := phi_go (R := row) hd vs G
theorem go {m k i : Nat} {d : Dr} (h : k < m) (hd : drs[i]? = some d) (vs : List Val) (G : List SO) : ∃ n, m = n + 1 ∧ k ≤ n ∧ phiOf drs cns m i vs G = runD ⟨csOf cns, xiOf drs cns n⟩ d.df vs G := by
  obtain ⟨n, rfl⟩ : ∃ n, m = n + 1 := ⟨m - 1, by omega⟩
  exact ⟨n, rfl, by omega, ph_at hd vs G⟩
theorem goX {m k i : Nat} {d : Dr} (h : k < m) (hd : drs[i]? = some d) (vs : List Val) (G : List SO) : ∃ n, m = n + 1 ∧ k ≤ n ∧ xiOf drs cns m i vs G = runX ⟨csOf cns, xiOf drs cns n⟩ d.df vs G := by
  obtain ⟨n, rfl⟩ : ∃ n, m = n + 1 := ⟨m - 1, by omega⟩
  exact ⟨n, rfl, by omega, xi_go (R := row) hd vs G⟩
theorem at_map {α β : Type} {f : α → β} {xs : List α} {i : Int} (d : α) (h0 : 0 ≤ i) (h1 : i < xs.length) : atP (xs.map f) i = some (f (xs.getD i.toNat d)) := by
  rw [atP_nat h0, List.getElem?_map]
  have : i.toNat < xs.length := by omega
  simp [List.getD, this]
def rowD (r : List Int) : PyData := .tuple (r.map .int)
section
variable {m : Nat} {G : List SO}
theorem p_is_whole (h : 0 < m) (hG : noG G = true) (x : Int) : phiOf drs cns m i_is_whole [.d (.int x)] G = some (.d (.bool true), G) := by
  obtain ⟨n, rfl, hn, e⟩ := go h (i := i_is_whole) rfl [.d (.int x)] G
  rw [e]
  simp [f_is_whole, runD, startL, isiD, PyData.isInt, PyData.isBool, hG]
theorem p_is_among (h : 1 < m) (hG : noG G = true) (x a b : Int) : phiOf drs cns m i_is_among [.d (.int x), .d (.int a), .d (.int b)] G = some (.d (.bool (decide (a ≤ x) && decide (x ≤ b))), G) := by
  obtain ⟨n, rfl, hn, e⟩ := go h (i := i_is_among) rfl [.d (.int x), .d (.int a), .d (.int b)] G
  rw [e]
  simp [f_is_among, runD, startL, hG, p_is_whole (m := n) (by omega) hG]
  by_cases h1 : a ≤ x <;> simp [h1, hG]
theorem p_is_row (h : 0 < m) (hG : noG G = true) (xs : List PyData) (a b : Int) : phiOf drs cns m i_is_row [.d (.tuple xs), .d (.int a), .d (.int b)] G = some (.d (.bool (decide (a ≤ xs.length) && decide (xs.length ≤ b))), G) := by
  obtain ⟨n, rfl, hn, e⟩ := go h (i := i_is_row) rfl [.d (.tuple xs), .d (.int a), .d (.int b)] G
  rw [e]
  simp [f_is_row, runD, startL, hG, isiD, PyData.isTuple]
  by_cases h1 : a ≤ xs.length <;> simp [h1, hG]
end
end Nh

/-! data whose repr is told: bounds -/
namespace Ev
open PySem
structure Sh (n k : Nat) (d : PyData) : Prop where
  s : d.showable = true
  l : d.shown.length ≤ n
  dp : d.depth ≤ k
theorem Sh.okR {n k : Nat} {d : PyData} (h : Sh n k d) (hn : n ≤ 16777216) (hk : k ≤ 64) : okR d = true := by
  unfold Ev.okR
  rw [h.s, decide_eq_true (Nat.le_trans h.l hn), decide_eq_true (Nat.le_trans h.dp hk)]
  rfl
theorem Sh.mono {n k n' k' : Nat} {d : PyData} (h : Sh n k d) (hn : n ≤ n') (hk : k ≤ k') : Sh n' k' d := ⟨h.s, Nat.le_trans h.l hn, Nat.le_trans h.dp hk⟩
theorem sh_int {i : Int} (h : i.natAbs < 10 ^ 18) : Sh 20 1 (.int i) := by
  have e := int_text_length_le10 (a := i) (k := 18) (by decide) h
  refine ⟨?_, ?_, by simp [PyData.depth]⟩
  · simp only [PyData.showable, decide_eq_true_eq]
    by_cases z : i.natAbs = 0
    · rw [z]; decide
    · exact Nat.lt_trans ((Nat.log2_lt z).mpr (Nat.lt_trans h (by decide : (10 : Nat) ^ 18 < 2 ^ 60))) (by decide)
  · simp only [PyData.shown]
    rw [ofString_length]
    omega
theorem sh_none : Sh 20 1 .none := ⟨rfl, by simp only [PyData.shown]; decide, by simp [PyData.depth]⟩
theorem sh_bool (b : Bool) : Sh 20 1 (.bool b) := ⟨rfl, by simp only [PyData.shown]; cases b <;> decide, by simp [PyData.depth]⟩
theorem sh_str {n : Nat} {x : Str} (h : (reprText x).length ≤ n) : Sh n 1 (.str x) := ⟨rfl, by simpa only [PyData.shown] using h, by simp [PyData.depth]⟩
theorem sh_all {n k : Nat} : ∀ {ds : List PyData}, (∀ d ∈ ds, Sh n k d) → PyData.showableAll ds = true ∧ ((PyData.shownAll ds).map (·.length)).sum ≤ ds.length * n ∧ PyData.depthAll ds ≤ k ∧ (PyData.shownAll ds).length = ds.length
  | [], _ => by simp [PyData.showableAll, PyData.shownAll, PyData.depthAll]
  | d :: ds, h => by
    obtain ⟨h1, h3, h4, h5⟩ := sh_all fun x hx => h x (List.mem_cons_of_mem _ hx)
    have q := h d List.mem_cons_self
    refine ⟨by simp [PyData.showableAll, q.s, h1], ?_, ?_, by simp [PyData.shownAll, h5]⟩
    · simp only [PyData.shownAll, List.map_cons, List.sum_cons, List.length_cons]
      have := q.l
      rw [Nat.succ_mul]
      omega
    · simp only [PyData.depthAll]
      have := q.dp
      omega
theorem sh_tup {n k : Nat} {ds : List PyData} (h : ∀ d ∈ ds, Sh n k d) : Sh (ds.length * n + 2 * ds.length + 3) (k + 1) (.tuple ds) := by
  obtain ⟨h1, h3, h4, h5⟩ := sh_all h
  refine ⟨by simpa [PyData.showable] using h1, ?_, by simp only [PyData.depth]; omega⟩
  simp only [PyData.shown]
  have := tupleText_len_le (PyData.shownAll ds)
  rw [h5] at this
  omega
theorem sh_lst {n k : Nat} {ds : List PyData} (h : ∀ d ∈ ds, Sh n k d) : Sh (ds.length * n + 2 * ds.length + 3) (k + 1) (.list ds) := by
  obtain ⟨h1, h3, h4, h5⟩ := sh_all h
  refine ⟨by simpa [PyData.showable] using h1, ?_, by simp only [PyData.depth]; omega⟩
  simp only [PyData.shown]
  have := listText_len_le (PyData.shownAll ds)
  rw [h5] at this
  omega
theorem sh_dict0 : Sh 20 1 (.dict []) := ⟨rfl, by simp only [PyData.shown, PyData.shownKv]; decide +kernel, by simp [PyData.depth, PyData.depthKv]⟩
@[simp] theorem repr_d (x : PyData) : b1D .repr x = if okR x then some (.str x.shown) else none := by cases x <;> rfl
end Ev

/-! more steps of the evaluator: dicts, sets, strings, sorts, growing lists -/
namespace Ev
open PySem
section
variable {T : Tx} {e : Lv} {s : Sto}
@[simp] theorem x_ss (a : Ex) : evE T (.ss a) e = bd (evE T a e) fun v => bd (peek v) fun x => ofO ((ssD x).map .d) := rfl
theorem ss_ints {ns : List Int} (h : ns.length < 64) : ssD (.list (ns.map .int)) = some (.list ((usort ns).map .int)) := by
  show (ints? (ns.map .int)).bind _ = _
  rw [ints_map, Option.bind_some, if_pos h]
@[simp] theorem add_l (a b : List PyData) : binD .Add (.list a) (.list b) = if a.length + b.length ≤ 16777216 then some (.list (a ++ b)) else none := rfl
@[simp] theorem eqD_s (a b : Str) : eqD (.str a) (.str b) = some (decide (a = b)) := by
  have h : ((PyData.str a).plain && (PyData.str b).plain && decide (min (PyData.str a).depth (PyData.str b).depth ≤ 64)) = true := by
    simp [PyData.plain, PyData.depth]
  unfold eqD
  rw [if_pos h]
  simp only [PyData.eqv]
  rfl
theorem eqD_dict0 (kvs : List (PyData × PyData)) : eqD (.dict kvs) (.dict []) = some kvs.isEmpty := by
  unfold eqD
  rw [if_neg (by simp [PyData.plain])]
theorem setV_dl {n : Nat} {k y : PyData} {kvs : List (PyData × PyData)} {s : Sto} (h : s.L[n]? = some (.dct kvs)) (hk : isKey k = true) (hl : kvs.length < 16777216) : setV (.l n) (.d k) (.d y) s = some ((), { s with L := s.L.set n (.dct (putD k y kvs)) }) := by
  unfold setV
  simp only [bd_ap, peek_d, Option.bind_some, rt_ap, getO_l, h]
  cases k with
  | int i => simp [hk, hl]; rfl
  | str i => simp [hk, hl]; rfl
  | _ => cases hk
theorem idxV_dl {n : Nat} {k : PyData} {kvs : List (PyData × PyData)} {s : Sto} (h : s.L[n]? = some (.dct kvs)) : idxV (.l n) (.d k) s = (idxD (.dict kvs) k).map fun y => (.d y, s) := by
  unfold idxV
  simp only [bd_ap, peek_d, Option.bind_some, getO_l, h]
@[simp] theorem idx_ds (kvs : List (PyData × PyData)) (k : Str) : idxD (.dict kvs) (.str k) = lookD (.str k) kvs := rfl
@[simp] theorem idx_di (kvs : List (PyData × PyData)) (k : Int) : idxD (.dict kvs) (.int k) = lookD (.int k) kvs := rfl
theorem appV_l {n : Nat} {v : Val} {vs : List Val} {s : Sto} (h : s.L[n]? = some (.lst vs)) (hl : vs.length < 16777216) : appV (.l n) v s = some ((), { s with L := s.L.set n (.lst (vs ++ [v])) }) := by
  unfold appV
  simp only [bd_ap, rt_ap, Option.bind_some, getO_l, h, if_pos hl]
  rfl
theorem lstV_l {n : Nat} {vs : List Val} {s : Sto} (h : s.L[n]? = some (.lst vs)) : lstV (.l n) s = some ((), s) := by
  unfold lstV
  simp only [getO_l, h]
theorem keepL {n : Nat} {ds : List PyData} {s : Sto} (h : s.L[n]? = some (.lst (ds.map .d))) : keep (.l n) s = some (.list ds, { s with L := s.L.set n (.frz (.list ds)) }) := by
  have e : valsD (ds.map .d) = some ds := by
    clear h
    induction ds with
    | nil => rfl
    | cons d ds ih => rw [List.map_cons, valsD_d, ih]; rfl
  simp [h, e]
@[simp] theorem valsD_map (ds : List PyData) : valsD (ds.map .d) = some ds := by
  induction ds with
  | nil => rfl
  | cons d ds ih => rw [List.map_cons, valsD_d, ih]; rfl
theorem compL_cons (f : PyData → M (Option Val)) (x : PyData) (xs : List PyData) (s : Sto) : compL f (x :: xs) s = (f x s).bind fun p => (compL f xs p.2).map fun q => ((match p.1 with | some v => v :: q.1 | none => q.1), q.2) := by
  show bd (f x) (fun o => bd (compL f xs) fun vs => rt (match o with | some v => v :: vs | none => vs)) s = _
  simp only [bd_ap, rt_ap]
  congr 1
  funext p
  cases compL f xs p.2 <;> rfl
@[simp] theorem compF_loc (tg : Tg) (own : List Nat) (mc : Lv → M Bool) (me : Lv → M Val) (e : Lv) (x : PyData) (s : Sto) : compF .loc tg own mc me e x s = (asgT tg (.d x) (wipeL e own)).bind fun e1 => (mc e1 s).bind fun p => if p.1 then (me e1 p.2).map fun q => (some q.1, q.2) else some (none, p.2) := by
  unfold compF
  cases asgT tg (.d x) (wipeL e own) with
  | none => rfl
  | some e1 =>
    simp only [bd_ap, ite_ap, Option.bind_some]
    congr 1
    funext p
    split
    · cases me e1 p.2 <;> rfl
    · rfl
@[simp] theorem dcompF_ap (tg : Tg) (own : List Nat) (mc : Lv → M Bool) (mk mv : Lv → M Val) (e : Lv) (x : PyData) (s : Sto) : dcompF tg own mc mk mv e x s = (asgT tg (.d x) (wipeL e own)).bind fun e1 => (mc e1 s).bind fun p => if p.1 then (mk e1 p.2).bind fun a => (mv e1 a.2).bind fun b => (peek a.1 b.2).bind fun kx => (keep b.1 kx.2).bind fun vx => if isKey kx.1 then some (some (kx.1, vx.1), vx.2) else none else some (none, p.2) := by
  unfold dcompF
  cases asgT tg (.d x) (wipeL e own) with
  | none => rfl
  | some e1 =>
    simp only [bd_ap, ite_ap, Option.bind_some]
    rfl
theorem dcompL_fold {f : PyData → M (Option (PyData × PyData))} {g : PyData → Option (PyData × PyData)} {s : Sto} : ∀ {xs : List PyData} {acc : List (PyData × PyData)}, (∀ x ∈ xs, f x s = some (g x, s)) → dcompL f xs acc s = some (xs.foldl (fun acc x => match g x with | some (k, v) => putD k v acc | none => acc) acc, s)
  | [], acc, _ => rfl
  | x :: xs, acc, h => by
    show bd (f x) (fun o => dcompL f xs (match o with | some (k, v) => putD k v acc | none => acc)) s = _
    rw [bd_ap, h x List.mem_cons_self, Option.bind_some, dcompL_fold fun y hy => h y (List.mem_cons_of_mem _ hy)]
    rfl
theorem dcomp_ap {k v : Ex} {tg : Tg} {it : Ix} {cd : Co} {own : List Nat} (xs : List PyData) (g : PyData → Option (PyData × PyData)) (hi : evI T it e s = some (xs, s)) (h : ∀ x ∈ xs, dcompF tg own (evC T cd) (evE T k) (evE T v) e x s = some (g x, s))
    {kvs : List (PyData × PyData)} (hk : xs.foldl (fun acc x => match g x with | some (k, v) => putD k v acc | none => acc) [] = kvs) (hl : kvs.length < 16777216) : evE T (.dcomp k v tg it cd own) e s = some (.d (.dict kvs), s) := by
  show bd (evI T it e) (fun xs => bd (dcompL (dcompF tg own (evC T cd) (evE T k) (evE T v) e) xs []) fun kvs => if kvs.length < 16777216 then rt (Val.d (.dict kvs)) else no) s = _
  rw [bd_ap, hi, Option.bind_some, bd_ap, dcompL_fold h, Option.bind_some, hk, if_pos hl]
  rfl
end
theorem atP_last {α : Type} {xs : List α} (h : xs ≠ []) : ∃ x, atP xs (-1) = some x ∧ x ∈ xs := by
  have hl : 0 < xs.length := List.length_pos_iff.mpr h
  refine ⟨xs[xs.length - 1], ?_, List.getElem_mem _⟩
  unfold atP L2.atI L2.ixN
  rw [if_neg (by decide), if_pos (by omega)]
  have : ((xs.length : Int) + -1).toNat = xs.length - 1 := by omega
  show xs[((xs.length : Int) + -1).toNat]? = _
  rw [this, List.getElem?_eq_getElem]
theorem sort_asc {ns : List Int} (h : ns.Pairwise (· ≤ ·)) (hl : ns.length ≤ 16777216) : b1D .sorted (.list (ns.map .int)) = some (.list (ns.map .int)) := by
  have hc : canSort (ns.map .int) = true := by
    unfold canSort
    simp only [Bool.and_eq_true, Bool.or_eq_true, List.all_eq_true, decide_eq_true_eq, List.length_map]
    refine ⟨⟨⟨fun a ha b hb => ?_, .inr fun a ha => ?_⟩, fun a ha => ?_⟩, hl⟩
    · obtain ⟨i, _, rfl⟩ := List.mem_map.mp ha
      obtain ⟨j, _, rfl⟩ := List.mem_map.mp hb
      simp [PySem.W.alike]
    · obtain ⟨i, _, rfl⟩ := List.mem_map.mp ha
      rfl
    · obtain ⟨i, _, rfl⟩ := List.mem_map.mp ha
      simp [PyData.depth]
  have hs : sortD (ns.map .int) = ns.map .int := by
    unfold sortD
    apply List.mergeSort_of_pairwise
    rw [List.pairwise_map]
    refine h.imp fun {a b} hab => ?_
    show (!PySem.W.dataLt (.int b) (.int a)) = true
    rw [PySem.W.dataLt_int]
    simpa using hab
  show (if canSort (ns.map .int) then some (PyData.list (sortD (ns.map .int))) else none) = _
  rw [if_pos hc, hs]
end Ev

/-! coins that are left, one by one: plain -/
namespace Nh
open PySem Ev
def leR (r : Nat → Int) (i j : Nat) : Bool := decide (r j < r i ∨ (r i = r j ∧ i ≤ j))
def ordR (r : Nat → Int) (n : Nat) : List Nat := (List.range n).mergeSort (leR r)
section
variable {r : Nat → Int} {n : Nat}
theorem ordR_perm : (ordR r n).Perm (List.range n) := List.mergeSort_perm _ _
theorem ordR_mem {i : Nat} : i ∈ ordR r n ↔ i < n := by rw [ordR_perm.mem_iff]; simp
theorem ordR_len : (ordR r n).length = n := by rw [ordR_perm.length_eq]; simp
theorem ordR_nodup : (ordR r n).Nodup := ordR_perm.nodup_iff.mpr List.nodup_range
theorem ordR_sorted : (ordR r n).Pairwise fun i j => leR r i j = true :=
  List.pairwise_mergeSort (fun a b c h1 h2 => by simp only [leR, decide_eq_true_eq] at *; omega) (fun a b => by simp only [leR, Bool.or_eq_true, decide_eq_true_eq]; omega) _
end
def upR (f : Nat → Int) (T : List Nat) (n : Nat) : List Int := (List.range n).map fun i => if i ∈ T then f i + 1 else f i
def dnR (r : Nat → Int) (T : List Nat) (n : Nat) : List Int := (List.range n).map fun i => if i ∈ T then -1 else r i
theorem upR_len (f : Nat → Int) (T : List Nat) (n : Nat) : (upR f T n).length = n := by simp [upR]
theorem dnR_len (f : Nat → Int) (T : List Nat) (n : Nat) : (dnR f T n).length = n := by simp [dnR]
theorem upR_at {f : Nat → Int} {T : List Nat} {n i : Nat} (h : i < n) : (upR f T n)[i]? = some (if i ∈ T then f i + 1 else f i) := by simp [upR, h]
theorem dnR_at {f : Nat → Int} {T : List Nat} {n i : Nat} (h : i < n) : (dnR f T n)[i]? = some (if i ∈ T then -1 else f i) := by simp [dnR, h]
theorem upR_set {f : Nat → Int} {T : List Nat} {n j : Nat} (h : j < n) (hj : j ∉ T) : (upR f T n).set j (f j + 1) = upR f (T ++ [j]) n := by
  apply List.ext_getElem?
  intro i
  by_cases hi : i < n
  · rw [upR_at hi]
    by_cases e : i = j
    · subst e
      rw [List.getElem?_set_self (by rw [upR_len]; exact h)]
      simp
    · rw [List.getElem?_set_ne (fun z => e z.symm), upR_at hi]
      simp [e]
  · rw [List.getElem?_eq_none (by rw [List.length_set, upR_len]; omega), List.getElem?_eq_none (by rw [upR_len]; omega)]
theorem dnR_set {f : Nat → Int} {T : List Nat} {n j : Nat} (h : j < n) : (dnR f T n).set j (-1) = dnR f (T ++ [j]) n := by
  apply List.ext_getElem?
  intro i
  by_cases hi : i < n
  · rw [dnR_at hi]
    by_cases e : i = j
    · subst e
      rw [List.getElem?_set_self (by rw [dnR_len]; exact h)]
      simp
    · rw [List.getElem?_set_ne (fun z => e z.symm), dnR_at hi]
      simp [e]
  · rw [List.getElem?_eq_none (by rw [List.length_set, dnR_len]; omega), List.getElem?_eq_none (by rw [dnR_len]; omega)]
theorem sum_up (f : Nat → Int) (T : List Nat) : ∀ l : List Nat, (l.map fun i => if i ∈ T then f i + 1 else f i).sum = (l.map f).sum + (l.filter fun i => decide (i ∈ T)).length
  | [] => by simp
  | a :: l => by
    have ih := sum_up f T l
    by_cases h : a ∈ T <;> simp [h, ih] <;> omega
theorem upR_sum {f : Nat → Int} {T : List Nat} {n : Nat} (hT : T.Nodup) (hm : ∀ i ∈ T, i < n) : (upR f T n).sum = ((List.range n).map f).sum + T.length := by
  unfold upR
  rw [sum_up]
  have : ((List.range n).filter fun i => decide (i ∈ T)).Perm T := by
    rw [List.perm_ext_iff_of_nodup (List.nodup_range.filter _) hT]
    intro a
    simp only [List.mem_filter, List.mem_range, decide_eq_true_eq]
    exact ⟨fun h => h.2, fun h => ⟨hm a h, h⟩⟩
  rw [this.length_eq]
theorem fmax : ∀ (l : List Int) (x : Int), (l.foldl max x ∈ x :: l) ∧ ∀ y ∈ x :: l, y ≤ l.foldl max x
  | [], x => by simp
  | a :: l, x => by
    obtain ⟨h1, h2⟩ := fmax l (max x a)
    rw [List.foldl_cons]
    refine ⟨?_, fun y hy => ?_⟩
    · rcases List.mem_cons.mp h1 with h | h
      · rw [h]
        by_cases q : x ≤ a
        · rw [Int.max_eq_right q]; simp
        · rw [Int.max_eq_left (by omega)]; simp
      · simp [h]
    · have hm := h2 (max x a) List.mem_cons_self
      rcases List.mem_cons.mp hy with h | h
      · rw [h]; omega
      · rcases List.mem_cons.mp h with h | h
        · rw [h]; omega
        · exact h2 y (List.mem_cons_of_mem _ h)
def maxI : List Int → Int
  | [] => 0
  | x :: xs => xs.foldl max x
theorem maxI_eq {l : List Int} {m : Int} (h : m ∈ l) (hm : ∀ y ∈ l, y ≤ m) : maxI l = m := by
  cases l with
  | nil => cases h
  | cons x xs =>
    obtain ⟨h1, h2⟩ := fmax xs x
    have a := h2 m h
    have b := hm _ h1
    show xs.foldl max x = m
    omega
/-- the greatest rest that had none is the next in the order -/
theorem next_rest {r : Nat → Int} {n t o : Nat} (hr : ∀ i < n, 0 ≤ r i) (ho : (ordR r n)[t]? = some o) : o < n ∧ o ∉ (ordR r n).take t ∧ maxI (dnR r ((ordR r n).take t) n) = r o ∧ (dnR r ((ordR r n).take t) n)[o]? = some (r o) ∧ ∀ j < o, (dnR r ((ordR r n).take t) n)[j]? ≠ some (r o) := by
  have hO := ordR_sorted (r := r) (n := n)
  have hnd := ordR_nodup (r := r) (n := n)
  have hon : o < n := ordR_mem.mp (List.mem_of_getElem? ho)
  have hlt : t < (ordR r n).length := (List.getElem?_eq_some_iff.mp ho).1
  have hsplit : ordR r n = (ordR r n).take t ++ o :: (ordR r n).drop (t + 1) := by
    conv => lhs; rw [← List.take_append_drop t (ordR r n)]
    rw [List.drop_eq_getElem_cons hlt]
    rw [(List.getElem?_eq_some_iff.mp ho).2]
  generalize hT : (ordR r n).take t = T at *
  generalize hS : (ordR r n).drop (t + 1) = S at *
  rw [hsplit] at hO hnd
  have hoT : o ∉ T := fun h => by
    rw [List.nodup_append] at hnd
    exact hnd.2.2 o h o List.mem_cons_self rfl
  have rest : ∀ j < n, j ∉ T → j = o ∨ leR r o j = true := fun j hj hjT => by
    have : j ∈ ordR r n := ordR_mem.mpr hj
    rw [hsplit] at this
    rcases List.mem_append.mp this with h | h
    · exact absurd h hjT
    · rcases List.mem_cons.mp h with h | h
      · exact .inl h
      · right
        rw [List.pairwise_append] at hO
        exact (List.pairwise_cons.mp hO.2.1).1 j h
  have hro := hr o hon
  have at_ : (dnR r T n)[o]? = some (r o) := by rw [dnR_at hon, if_neg hoT]
  refine ⟨hon, hoT, maxI_eq (List.mem_of_getElem? at_) fun y hy => ?_, at_, fun j hj e => ?_⟩
  · unfold dnR at hy
    obtain ⟨j, hj, rfl⟩ := List.mem_map.mp hy
    have hj := List.mem_range.mp hj
    split
    · omega
    · rename_i hjT
      rcases rest j hj hjT with h | h
      · rw [h]; exact Int.le_refl _
      · simp only [leR, decide_eq_true_eq] at h
        omega
  · have hjn : j < n := by omega
    rw [dnR_at hjn] at e
    split at e
    · injection e with e; omega
    · rename_i hjT
      injection e with e
      rcases rest j hjn hjT with h | h
      · omega
      · simp only [leR, decide_eq_true_eq] at h
        omega
/-! bounds of what is left -/
theorem sum_div (c W : Int) : ∀ p : List Int, (p.map fun x => c * x / W).sum * W + (p.map fun x => c * x % W).sum = c * p.sum
  | [] => by simp
  | a :: p => by
    have ih := sum_div c W p
    simp only [List.map_cons, List.sum_cons]
    have e := Int.emod_add_mul_ediv (c * a) W
    rw [Int.add_mul, Int.mul_add]
    have : c * a / W * W = W * (c * a / W) := Int.mul_comm _ _
    omega
theorem sum_mod {c W : Int} (hW : 0 < W) : ∀ p : List Int, 0 ≤ (p.map fun x => c * x % W).sum ∧ (p.map fun x => c * x % W).sum ≤ (W - 1) * p.length
  | [] => by simp
  | a :: p => by
    obtain ⟨h1, h2⟩ := sum_mod hW p (c := c)
    have a1 := Int.emod_nonneg (c * a) (show W ≠ 0 by omega)
    have a2 := Int.emod_lt_of_pos (c * a) hW
    simp only [List.map_cons, List.sum_cons, List.length_cons]
    refine ⟨by omega, ?_⟩
    rw [show (((p.length + 1 : Nat)) : Int) = (p.length : Int) + 1 by simp, Int.mul_add]
    omega
theorem left_bd {p : List Int} {c : Int} (hW : 0 < p.sum) : 0 ≤ c - (p.map fun x => c * x / p.sum).sum ∧ c - (p.map fun x => c * x / p.sum).sum < p.length ∧ (c - (p.map fun x => c * x / p.sum).sum) * p.sum = (p.map fun x => c * x % p.sum).sum := by
  have h1 := sum_div c p.sum p
  obtain ⟨h2, h3⟩ := sum_mod hW p (c := c)
  have hlen : 0 < p.length := by
    cases p with
    | nil => simp at hW
    | cons _ _ => simp
  generalize (p.map fun x => c * x / p.sum).sum = A at *
  generalize (p.map fun x => c * x % p.sum).sum = B at *
  generalize p.sum = W at *
  generalize (p.length : Nat) = n at *
  have e : (c - A) * W = B := by rw [Int.sub_mul]; omega
  refine ⟨?_, ?_, e⟩
  · refine Int.not_lt.mp fun h => ?_
    have := Int.mul_neg_of_neg_of_pos h hW
    omega
  · refine Int.not_le.mp fun h => ?_
    have q : (n : Int) * W ≤ (c - A) * W := Int.mul_le_mul_of_nonneg_right h (by omega)
    have q2 : (W - 1) * (n : Int) = (n : Int) * W - n := by rw [Int.sub_mul, Int.mul_comm]; omega
    omega
/-- what each payer pays -/
def fR (p : List Int) (c : Int) (i : Nat) : Int := c * p.getD i 0 / p.sum
def rR (p : List Int) (c : Int) (i : Nat) : Int := c * p.getD i 0 % p.sum
def leftN (p : List Int) (c : Int) : Nat := (c - (p.map fun x => c * x / p.sum).sum).toNat
def ordS (p : List Int) (c : Int) : List Nat := ordR (rR p c) p.length
def shareL (p : List Int) (c : Int) : List Int := upR (fR p c) ((ordS p c).take (leftN p c)) p.length
theorem map_at {α β : Type} (d : α) (g : α → β) (p : List α) : p.map g = (List.range p.length).map fun i => g (p.getD i d) := by
  apply List.ext_getElem?
  intro i
  by_cases h : i < p.length
  · simp [h, List.getD]
  · simp [h]
theorem start_up (p : List Int) (c : Int) : (p.map fun x => c * x / p.sum) = upR (fR p c) [] p.length := by
  rw [map_at 0]; simp [upR, fR]
theorem start_dn (p : List Int) (c : Int) : (p.map fun x => c * x % p.sum) = dnR (rR p c) [] p.length := by
  rw [map_at 0]; simp [dnR, rR]
end Nh

/-! parts, coins, shares -/
namespace Nh
open PySem Ev
structure OkQ (p : List Int) : Prop where
  l1 : 1 ≤ p.length
  l4 : p.length ≤ 4
  b : ∀ x ∈ p, 0 ≤ x ∧ x ≤ 99
  pos : 0 < p.sum
def intsO (l : List Int) : SO := .lst ((l.map PyData.int).map .d)
theorem sum_le {p : List Int} (h : ∀ x ∈ p, 0 ≤ x ∧ x ≤ 99) : p.sum ≤ 99 * p.length := by
  induction p with
  | nil => simp
  | cons a p ih =>
    have := ih fun x hx => h x (List.mem_cons_of_mem _ hx)
    have := h a List.mem_cons_self
    simp only [List.sum_cons, List.length_cons]
    omega
theorem OkQ.le {p : List Int} (o : OkQ p) : p.sum ≤ 396 := by
  have := sum_le o.b
  have := o.l4
  omega
theorem readO_ints (l : List Int) : readO (intsO l) = some (.list (l.map .int)) := by
  unfold intsO
  rw [readO_lst, valsD_map]
  rfl
theorem b1V_ll (f : B1) (n : Nat) (s : Sto) : b1V f (.l n) s = ((s.L[n]?).bind readO).bind fun x => (b1D f x).map fun y => (.d y, s) := by
  show bd (peek (.l n)) (fun x => ofO ((b1D f x).map Val.d)) s = _
  rw [bd_ap, peek_l]
  cases (s.L[n]?).bind readO with
  | none => rfl
  | some x => simp; rfl
theorem small_i {c : Int} (h0 : 0 ≤ c) (h1 : c ≤ 100000000) : small c = true := by
  unfold small
  simp only [Bool.and_eq_true, decide_eq_true_eq]
  omega
section
variable {T : Tx} {e : Lv} {s : Sto}
@[simp] theorem x_sk (rng : Bool) (a : Ex) (i : Nat) (b : Ex) : evE T (.sk rng a i b) e = bd (evE T a e) fun v => bd (peek v) fun x => bd (ofO (skI rng x)) fun ds => ofO ((skD b i (dLv e) ds).map .d) := rfl
@[simp] theorem x_augs (c i : Ex) (o : Operator) (a : Ex) : evS T (.augs c i o a) e s = stp (evE T c e) (fun cv s => stp (evE T i e) (fun iv s => stp (augG cv iv) (fun v s => stp (evE T a e) (fun u s => stp (bd (peek v) fun x => bd (peek u) fun y => ofO (augI o x y)) (fun w s =>
      stp (setV cv iv w) (fun _ s => some (.nx, e, s)) s) s) s) s) s) s := rfl
theorem skI_t {n : Int} (h : 0 ≤ n ∧ n ≤ 16777216) : skI true (.int n) = some ((List.range n.toNat).map fun (i : Nat) => .int (i : Int)) := by
  show (if 0 ≤ n ∧ n ≤ 16777216 then _ else _) = _
  rw [if_pos h]
theorem ix_of {n : Nat} {j : Nat} (h : j < n) : ixP n (j : Int) = some j := by
  unfold ixP L2.ixN
  rw [if_pos (by omega), if_pos (by omega)]
  simp
theorem setV_li {l : List Int} {j : Nat} {x : Int} {n : Nat} (h : s.L[n]? = some (intsO l)) (hj : j < l.length) : setV (.l n) (.d (.int (j : Int))) (.d (.int x)) s = some ((), { s with L := s.L.set n (intsO (l.set j x)) }) := by
  have hi : ixP ((l.map PyData.int).map Val.d).length (j : Int) = some j := ix_of (by simpa using hj)
  unfold setV
  simp only [bd_ap, peek_d, Option.bind_some, rt_ap, getO_l, h, intsO, hi, putO, Option.map_some, List.map_set]
theorem augG_li {l : List Int} {j : Nat} {x : Int} {n : Nat} (h : s.L[n]? = some (intsO l)) (hj : l[j]? = some x) : augG (.l n) (.d (.int (j : Int))) s = some (.d (.int x), s) := by
  unfold augG
  simp only [bd_ap, peek_d, Option.bind_some, getO_l, h, intsO]
  rw [if_pos (by omega)]
  simp [hj]
end
/-- a key's place, sorted -/
theorem keys_ok {b : Ex} {i n : Nat} {lv : List (Option PyData)} {r : Nat → Int} (hn : n ≤ 1000) (hk : ∀ j < n, kyE b (lv.set i (some (.int (j : Int)))) = some (.tuple [.int (0 - r j), .int (j : Int)])) :
    skD b i lv ((List.range n).map fun k : Nat => .int (k : Int)) = some (.list ((ordR r n).map fun k : Nat => .int (k : Int))) := by
  have hkd : ∀ j < n, keyD b i lv (.int (j : Int)) = .tuple [.int (0 - r j), .int (j : Int)] := fun j hj => by
    unfold keyD; rw [hk j hj]; rfl
  have hmap : ((List.range n).map fun k : Nat => PyData.int (k : Int)).map (keyD b i lv) = (List.range n).map fun j : Nat => PyData.tuple [.int (0 - r j), .int (j : Int)] := by
    rw [List.map_map]
    exact List.map_congr_left fun j hj => hkd j (List.mem_range.mp hj)
  have hc : canSort (((List.range n).map fun k : Nat => PyData.int (k : Int)).map (keyD b i lv)) = true := by
    rw [hmap]
    unfold canSort
    simp only [Bool.and_eq_true, Bool.or_eq_true, List.all_eq_true, decide_eq_true_eq, List.length_map, List.length_range]
    refine ⟨⟨⟨fun a ha b hb => ?_, .inl fun a ha => ?_⟩, fun a ha => ?_⟩, by omega⟩
    · obtain ⟨i, _, rfl⟩ := List.mem_map.mp ha
      obtain ⟨j, _, rfl⟩ := List.mem_map.mp hb
      simp [PySem.W.alike, PySem.W.alikeAll]
    · obtain ⟨i, _, rfl⟩ := List.mem_map.mp ha
      rfl
    · obtain ⟨i, _, rfl⟩ := List.mem_map.mp ha
      simp [PyData.depth, PyData.depthAll]
  unfold skD
  rw [if_pos]
  · congr 2
    unfold ordR
    rw [List.map_mergeSort (f := fun k : Nat => PyData.int (k : Int)) (r := leR r) (s := PySem.W.dataLe false (keyD b i lv))]
    intro x hx y hy
    have hx := hkd x (List.mem_range.mp hx)
    have hy := hkd y (List.mem_range.mp hy)
    have q := congrFun (congrFun (PySem.W.dataLe_ii (β := Nat) (fun j => 0 - r j) (fun j => (j : Int))) x) y
    have e1 : PySem.W.dataLe false (keyD b i lv) (.int (x : Int)) (.int (y : Int)) = PySem.W.dataLe false (fun j : Nat => PyData.tuple [.int (0 - r j), .int (j : Int)]) x y := by
      show (!PySem.W.dataLt (keyD b i lv (.int (y : Int))) (keyD b i lv (.int (x : Int)))) = (!PySem.W.dataLt _ _)
      rw [hx, hy]
    rw [e1, q]
    unfold leR
    rw [decide_eq_decide]
    omega
  · rw [hc]
    simp only [Bool.and_eq_true, List.all_eq_true, decide_eq_true_eq, List.length_map, List.length_range]
    refine ⟨⟨fun d hd => ?_, trivial⟩, by omega⟩
    obtain ⟨j, hj, rfl⟩ := List.mem_map.mp hd
    have hj := List.mem_range.mp hj
    rw [hk j hj, hkd j hj]
    exact ⟨rfl, rfl⟩
section
variable {m : Nat} {G : List SO}
theorem p_are_parts (h : 2 < m) (hG : noG G = true) {p : List Int} (o : OkQ p) : phiOf drs cns m i_are_parts [.d (rowD p)] G = some (.d (.bool true), G) := by
  obtain ⟨n, rfl, hn, e⟩ := go h (i := i_are_parts) rfl [.d (rowD p)] G
  rw [e]
  have h1 := o.l1
  have h4 := o.l4
  have c0 : evE ⟨csOf cns, xiOf drs cns n⟩ f_are_parts_c0 [some (.d (rowD p)), none] ⟨[], G⟩ = some (.d (.list (p.map fun _ => .bool true)), ⟨[], G⟩) := by
    unfold f_are_parts_c0
    rw [comp_map (p.map .int) (fun _ => .bool true)]
    · rw [List.map_map]; rfl
    · simp [rowD]
    · simp; omega
    · intro x hx
      obtain ⟨y, hy, rfl⟩ := List.mem_map.mp hx
      have := o.b y hy
      simp [hG, p_is_among (m := n) (by omega) hG, this]
  have hb := bools_mapf (fun _ => true) p
  have ha : (p.map fun _ => true).all id = true := by simp
  have rw1 := p_is_row (m := n) (by omega) hG (p.map .int) 1 4
  have hw : (decide ((1 : Int) ≤ (p.map PyData.int).length) && decide (((p.map PyData.int).length : Int) ≤ 4)) = true := by simp; omega
  rw [hw] at rw1
  have hp := o.pos
  have hr : rowD p = .tuple (p.map .int) := rfl
  rw [hr] at c0 ⊢
  generalize hq : p.map PyData.int = q at *
  have hs : ints? q = some p := by rw [← hq]; exact ints_map p
  simp [f_are_parts, runD, startL, hG, rw1, c0, hb, hs, hp]
theorem x_need_parts (h : 3 < m) (hG : noG G = true) {p : List Int} (o : OkQ p) : xiOf drs cns m i_need_parts [.d (rowD p)] G = some (.inl (.d .none), G) := by
  obtain ⟨n, rfl, hn, e⟩ := goX h (i := i_need_parts) rfl [.d (rowD p)] G
  rw [e]
  simp [f_need_parts, runX, startL, hG, p_are_parts (m := n) (by omega) hG o]
theorem p_is_coins (h : 2 < m) (hG : noG G = true) (c : Int) : phiOf drs cns m i_is_coins [.d (.int c)] G = some (.d (.bool (decide (0 ≤ c) && decide (c ≤ 1000000))), G) := by
  obtain ⟨n, rfl, hn, e⟩ := go h (i := i_is_coins) rfl [.d (.int c)] G
  rw [e]
  simp [f_is_coins, runD, startL, hG, p_is_among (m := n) (by omega) hG]
theorem share_loop {T : Tx} {f : Nat → Int} {n : Nat} (v0 v1 v2 v4 v6 : Option Val) : ∀ (S U : List Nat) (x5 : Option Val), (U ++ S).Nodup → (∀ i ∈ S, i < n) →
    ∃ y5, forL (forF (.nm 5) (evSs T f_shared_b0)) (S.map fun k : Nat => .int (k : Int)) [v0, v1, v2, some (.l 0), v4, x5, v6] ⟨[intsO (upR f U n)], G⟩ = some (.nx, [v0, v1, v2, some (.l 0), v4, y5, v6], ⟨[intsO (upR f (U ++ S) n)], G⟩)
  | [], U, x5, _, _ => ⟨x5, by simp⟩
  | j :: S, U, x5, hnd, hm => by
    have hj : j ∉ U := fun h => by
      rw [List.nodup_append] at hnd
      exact hnd.2.2 j h j List.mem_cons_self rfl
    have hjn := hm j List.mem_cons_self
    obtain ⟨y5, e⟩ := share_loop (T := T) (f := f) (n := n) v0 v1 v2 v4 v6 S (U ++ [j]) (some (.d (.int (j : Int)))) (by simpa using hnd) fun i hi => hm i (List.mem_cons_of_mem _ hi)
    refine ⟨y5, ?_⟩
    have a1 : (upR f U n)[j]? = some (f j) := by rw [upR_at hjn, if_neg hj]
    have g1 := augG_li (s := ⟨[intsO (upR f U n)], G⟩) (n := 0) rfl a1
    have g2 := setV_li (s := ⟨[intsO (upR f U n)], G⟩) (n := 0) (x := f j + 1) rfl (show j < (upR f U n).length by rw [upR_len]; exact hjn)
    rw [upR_set hjn hj] at g2
    have t : forF (.nm 5) (evSs T f_shared_b0) (.int (j : Int)) [v0, v1, v2, some (.l 0), v4, x5, v6] ⟨[intsO (upR f U n)], G⟩ = some (.nx, [v0, v1, v2, some (.l 0), v4, some (.d (.int (j : Int))), v6], ⟨[intsO (upR f (U ++ [j]) n)], G⟩) := by
      simp [f_shared_b0, g1, augI, g2]
    rw [List.map_cons, forL_cons, t, loopN_nx, e]
    simp
theorem x_shared (h : 4 < m) (hG : noG G = true) {p : List Int} (o : OkQ p) {c : Int} (c0 : 0 ≤ c) (c1 : c ≤ 1000000) : xiOf drs cns m i_shared [.d (rowD p), .d (.int c)] G = some (.inl (.d (rowD (shareL p c))), G) := by
  obtain ⟨n, rfl, hn, e⟩ := goX h (i := i_shared) rfl [.d (rowD p), .d (.int c)] G
  rw [e]
  have hl := o.l4
  have hW := o.pos
  have hW2 := o.le
  obtain ⟨b1, b2, _⟩ := left_bd (c := c) hW
  have cf : ∀ s : Sto, s = ⟨[], G⟩ → evE ⟨csOf cns, xiOf drs cns n⟩ f_shared_c0 [some (.d (rowD p)), some (.d (.int c)), some (.d (.int p.sum)), none, none, none, none] s = some (.l 0, ⟨[intsO (upR (fR p c) [] p.length)], G⟩) := by
    rintro s rfl
    unfold f_shared_c0
    rw [comp_ap (xs := p.map .int) (s1 := ⟨[], G⟩) (vs := (p.map fun x => c * x / p.sum).map fun x => .d (.int x)) (s2 := ⟨[], G⟩) (by simp [rowD]) ?_ (by simp; omega)]
    · rw [start_up]
      simp [intsO]
    · have := compL_map (f := compF .loc (.nm 6) [6] (evC ⟨csOf cns, xiOf drs cns n⟩ .none) (evE ⟨csOf cns, xiOf drs cns n⟩ (.bin .FloorDiv (.bin .Mult (.var 1) (.var 6)) (.var 2))) [some (.d (rowD p)), some (.d (.int c)), some (.d (.int p.sum)), none, none, none, none]) (g := fun d => match d with | .int x => .d (.int (c * x / p.sum)) | _ => .d .none) (s := ⟨[], G⟩) (xs := p.map .int) (fun x hx => by
        obtain ⟨y, hy, rfl⟩ := List.mem_map.mp hx
        simp [mul_i (.inl (small_i c0 (by omega))), fdiv_i hW (show p.sum < 1073741824 by omega)])
      rw [this]
      simp
  have cf := cf _ rfl
  have sk : skD (.tup (.cons (.bin .Sub (.lit (.int 0)) (.bin .Mod (.bin .Mult (.var 1) (.idx (.var 0) (.var 5))) (.var 2))) (.cons (.var 5) .nil))) 5 [some (rowD p), some (.int c), some (.int p.sum), none, none, none, none] ((List.range p.length).map fun k : Nat => .int (k : Int)) = some (.list ((ordS p c).map fun k : Nat => .int (k : Int))) := by
    refine keys_ok (by omega) fun j hj => ?_
    have ha : atP (p.map PyData.int) (j : Int) = some (.int (p.getD j 0)) := by
      rw [at_map 0 (by omega) (by omega)]; simp
    have hm := mul_i (a := c) (b := p.getD j 0) (.inl (small_i c0 (by omega)))
    have hle : (p.map PyData.int).length ≤ 16777216 := by simp; omega
    simp [-List.getD_eq_getElem?_getD, -List.length_map, kyE, kyEs, rowD, ha, hm, hle, hW, rR]
  have hd : dLv [some (.d (rowD p)), some (.d (.int c)), some (.d (.int p.sum)), some (.l 0), none, none, none] = [some (rowD p), some (.int c), some (.int p.sum), none, none, none, none] := rfl
  have hcut : ∀ k : Nat, cutP ((ordS p c).map fun k : Nat => PyData.int (k : Int)) none (some (k : Int)) = ((ordS p c).take k).map fun k : Nat => PyData.int (k : Int) := fun k => by rw [cut_to, List.map_take]
  have hsum : (upR (fR p c) [] p.length).sum = (p.map fun x => c * x / p.sum).sum := by rw [start_up]
  have hleft : c - (upR (fR p c) [] p.length).sum = ((leftN p c : Nat) : Int) := by
    rw [hsum]; unfold leftN; omega
  have ho : (ordS p c).Nodup := ordR_nodup
  obtain ⟨y5, lp⟩ := share_loop (G := G) (T := ⟨csOf cns, xiOf drs cns n⟩) (f := fR p c) (n := p.length) (some (.d (rowD p))) (some (.d (.int c))) (some (.d (.int p.sum))) (some (.d (.list ((ordS p c).map fun k : Nat => .int (k : Int))))) none ((ordS p c).take (leftN p c)) [] none (by simpa using ho.sublist (List.take_sublist _ _)) fun i hi => ordR_mem.mp (List.mem_of_mem_take hi)
  have hri := readO_ints (upR (fR p c) [] p.length)
  have hrj := readO_ints (shareL p c)
  have hr1 : b1D .sum (rowD p) = some (.int p.sum) := by simp [rowD]
  have hr2 : b1D .len (rowD p) = some (.int (p.length : Int)) := by simp [rowD]
  have hsk : skI true (.int (p.length : Int)) = some ((List.range p.length).map fun k : Nat => .int (k : Int)) := by rw [skI_t (by omega)]; simp
  have hsh : upR (fR p c) ([] ++ (ordS p c).take (leftN p c)) p.length = shareL p c := rfl
  rw [hsh] at lp
  have hrow : rowD (shareL p c) = .tuple ((shareL p c).map .int) := rfl
  have hpar := x_need_parts (m := n) (by omega) hG o
  have hcs := p_is_coins (m := n) (by omega) hG c
  generalize shareL p c = SH at *
  generalize intsO SH = IO at *
  generalize hU : upR (fR p c) [] p.length = U at *
  generalize intsO U = IU at *
  generalize rowD p = rp at *
  simp [-x_tup, f_shared, runX, startL, hG, hpar, hcs, c0, c1, hr1, cf, hr2, hsk, hd, sk, b1V_ll, hri, x_for, hleft, hcut]
  rw [← List.map_take, lp]
  simp [b1V_ll, hrj, hG, hrow]
end
end Nh

namespace Nh
open PySem Ev
theorem mm_ints {l : List Int} (hne : l ≠ []) (hl : l.length ≤ 1000) : b1D .maxs (.list (l.map .int)) = some (.int (maxI l)) := by
  cases l with
  | nil => exact absurd rfl hne
  | cons x xs =>
    have hc : canMm ((x :: xs).map PyData.int) = true := by
      unfold canMm
      simp only [Bool.and_eq_true, List.all_eq_true, decide_eq_true_eq, List.length_map]
      refine ⟨⟨fun a ha b hb => ?_, fun a ha => ?_⟩, by omega⟩
      · obtain ⟨i, _, rfl⟩ := List.mem_map.mp ha
        obtain ⟨j, _, rfl⟩ := List.mem_map.mp hb
        simp [PySem.W.alike]
      · obtain ⟨i, _, rfl⟩ := List.mem_map.mp ha
        simp [PyData.depth]
    show (if canMm (.int x :: xs.map PyData.int) then some (PySem.W.maxD (.int x) (xs.map .int)) else none) = _
    rw [List.map_cons] at hc
    rw [if_pos hc, PySem.W.maxD_ints]
    rfl
theorem lm_idx {l : List Int} {o : Nat} {m : Int} (hl : l.length ≤ 1000) (h1 : l[o]? = some m) (h2 : ∀ j < o, l[j]? ≠ some m) : lmD .index (.list (l.map .int)) (.int m) = some (.int (o : Int)) := by
  have ha : ((l.map PyData.int).all flF && flF (.int m) && decide ((l.map PyData.int).length ≤ 16777216)) = true := by
    simp only [Bool.and_eq_true, List.all_eq_true, decide_eq_true_eq, List.length_map]
    refine ⟨⟨fun d hd => ?_, rfl⟩, by omega⟩
    obtain ⟨x, _, rfl⟩ := List.mem_map.mp hd
    rfl
  show (if ((l.map PyData.int).all flF && flF (.int m) && decide ((l.map PyData.int).length ≤ 16777216)) = true then (((l.map PyData.int).findIdx? fun d => eqF d (.int m)).map fun i => PyData.int ((i : Nat) : Int)) else none) = _
  rw [if_pos ha]
  have : ((l.map PyData.int).findIdx? fun d => eqF d (.int m)) = some o := by
    rw [List.findIdx?_eq_some_iff_getElem]
    obtain ⟨ho, hv⟩ := List.getElem?_eq_some_iff.mp h1
    refine ⟨by simpa using ho, by simp [eqF, hv], fun j hj => ?_⟩
    have := h2 j hj
    have hjl : j < l.length := by omega
    rw [List.getElem?_eq_getElem hjl] at this
    have : ¬ l[j] = m := fun z => this (by rw [z])
    simp [eqF, this]
  rw [this]
  rfl
theorem idxV_li {l : List Int} {j : Nat} {x : Int} {n : Nat} {s : Sto} (h : s.L[n]? = some (intsO l)) (hj : l[j]? = some x) : idxV (.l n) (.d (.int (j : Int))) s = some (.d (.int x), s) := by
  rw [idxV_l h, atP_nat (by omega)]
  simp [hj]
section
variable {m j k : Nat} {G : List SO}
theorem rest_turn {T : Tx} {p : List Int} {c : Int} {t : Nat} (o : OkQ p) (ht : t < p.length) (v0 v1 v2 x5 v6 : Option Val) :
    ∃ y5, evSs T f__law_shares_b0 [v0, v1, v2, some (.l 0), some (.l 1), x5, v6] ⟨[intsO (upR (fR p c) ((ordS p c).take t) p.length), intsO (dnR (rR p c) ((ordS p c).take t) p.length)], G⟩ =
      some (.nx, [v0, v1, v2, some (.l 0), some (.l 1), y5, v6], ⟨[intsO (upR (fR p c) ((ordS p c).take (t + 1)) p.length), intsO (dnR (rR p c) ((ordS p c).take (t + 1)) p.length)], G⟩) := by
  have hl := o.l4
  have hlt : t < (ordS p c).length := by unfold ordS; rw [ordR_len]; exact ht
  obtain ⟨q, hq⟩ : ∃ q, (ordS p c)[t]? = some q := ⟨_, List.getElem?_eq_getElem hlt⟩
  obtain ⟨h1, h2, h3, h4, h5⟩ := next_rest (r := rR p c) (n := p.length) (t := t) (o := q) (fun i _ => Int.emod_nonneg _ (by have := o.pos; omega)) hq
  have htk : (ordS p c).take (t + 1) = (ordS p c).take t ++ [q] := by rw [List.take_succ, hq]; rfl
  have h2 : q ∉ (ordS p c).take t := h2
  have h3 : maxI (dnR (rR p c) ((ordS p c).take t) p.length) = rR p c q := h3
  have h4 : (dnR (rR p c) ((ordS p c).take t) p.length)[q]? = some (rR p c q) := h4
  have h5 : ∀ j < q, (dnR (rR p c) ((ordS p c).take t) p.length)[j]? ≠ some (rR p c q) := h5
  rw [htk]
  generalize hU : (ordS p c).take t = U at *
  have hdl : (dnR (rR p c) U p.length).length = p.length := dnR_len _ _ _
  have hul : (upR (fR p c) U p.length).length = p.length := upR_len _ _ _
  have mx := mm_ints (l := dnR (rR p c) U p.length) (fun z => by rw [z] at hdl; simp at hdl; omega) (by omega)
  rw [h3] at mx
  have ix := lm_idx (l := dnR (rR p c) U p.length) (by omega) h4 h5
  have ua : (upR (fR p c) U p.length)[q]? = some (fR p c q) := by rw [upR_at h1, if_neg h2]
  have g0 := idxV_li (n := 0) (s := ⟨[intsO (upR (fR p c) U p.length), intsO (dnR (rR p c) U p.length)], G⟩) rfl ua
  have g1 := setV_li (n := 0) (x := fR p c q + 1) (s := ⟨[intsO (upR (fR p c) U p.length), intsO (dnR (rR p c) U p.length)], G⟩) rfl (show q < (upR (fR p c) U p.length).length by omega)
  rw [upR_set h1 h2] at g1
  have g2 := setV_li (n := 1) (x := -1) (s := ⟨[intsO (upR (fR p c) (U ++ [q]) p.length), intsO (dnR (rR p c) U p.length)], G⟩) rfl (show q < (dnR (rR p c) U p.length).length by omega)
  rw [dnR_set h1] at g2
  have r1 := readO_ints (dnR (rR p c) U p.length)
  refine ⟨some (.d (.int (q : Int))), ?_⟩
  generalize intsO (dnR (rR p c) U p.length) = D0 at *
  generalize intsO (upR (fR p c) U p.length) = U0 at *
  generalize intsO (dnR (rR p c) (U ++ [q]) p.length) = D1 at *
  generalize intsO (upR (fR p c) (U ++ [q]) p.length) = U1 at *
  generalize (dnR (rR p c) U p.length).map PyData.int = dd at *
  simp at g1 g2
  have hlv : lisV (.l 1) (⟨[U0, D0], G⟩ : Sto) = some ((), ⟨[U0, D0], G⟩) := by
    unfold lisV
    simp [r1]
  simp [f__law_shares_b0, hlv, b1V_ll, r1, mx, ix, g0, g1, g2]
theorem rest_loop {T : Tx} {p : List Int} {c : Int} (o : OkQ p) (c0 : 0 ≤ c) (v0 v2 v6 : Option Val) : ∀ (fuel t : Nat) (x5 : Option Val), t ≤ leftN p c → leftN p c + 1 ≤ fuel + t →
    ∃ y5 R, whlL (evT T (.v (.cmp .Lt (.b1 .sum (.var 3)) (.var 1)))) (evSs T f__law_shares_b0) fuel [v0, some (.d (.int c)), v2, some (.l 0), some (.l 1), x5, v6] ⟨[intsO (upR (fR p c) ((ordS p c).take t) p.length), intsO (dnR (rR p c) ((ordS p c).take t) p.length)], G⟩ =
      some (.nx, [v0, some (.d (.int c)), v2, some (.l 0), some (.l 1), y5, v6], ⟨[intsO (shareL p c), R], G⟩)
  | 0, t, x5, h1, h2 => absurd h2 (by omega)
  | fuel + 1, t, x5, h1, h2 => by
    obtain ⟨b1, b2, _⟩ := left_bd (c := c) o.pos
    have hleft : ((leftN p c : Nat) : Int) = c - (p.map fun x => c * x / p.sum).sum := by unfold leftN; omega
    have hsum : (upR (fR p c) ((ordS p c).take t) p.length).sum = (p.map fun x => c * x / p.sum).sum + t := by
      have hlen : ((ordS p c).take t).length = t := by
        rw [List.length_take]; unfold ordS; rw [ordR_len]; omega
      have hnd : ((ordS p c).take t).Nodup := (ordR_nodup (r := rR p c) (n := p.length)).sublist (List.take_sublist _ _)
      have hmm : ∀ i ∈ (ordS p c).take t, i < p.length := fun i hi => (ordR_mem (r := rR p c)).mp (List.mem_of_mem_take hi)
      rw [upR_sum (f := fR p c) hnd hmm, hlen]
      congr 2
      rw [map_at 0 (fun x => c * x / p.sum) p]
      rfl
    have r1 := readO_ints (upR (fR p c) ((ordS p c).take t) p.length)
    have cond : evT T (.v (.cmp .Lt (.b1 .sum (.var 3)) (.var 1))) [v0, some (.d (.int c)), v2, some (.l 0), some (.l 1), x5, v6] ⟨[intsO (upR (fR p c) ((ordS p c).take t) p.length), intsO (dnR (rR p c) ((ordS p c).take t) p.length)], G⟩ = some (decide (t < leftN p c), ⟨[intsO (upR (fR p c) ((ordS p c).take t) p.length), intsO (dnR (rR p c) ((ordS p c).take t) p.length)], G⟩) := by
      have e1 : decide ((p.map fun x => c * x / p.sum).sum + (t : Int) < c) = decide (t < leftN p c) := by rw [decide_eq_decide]; omega
      have e2 := ints_map (upR (fR p c) ((ordS p c).take t) p.length)
      generalize intsO (upR (fR p c) ((ordS p c).take t) p.length) = U0 at *
      generalize upR (fR p c) ((ordS p c).take t) p.length = u0 at *
      generalize u0.map PyData.int = w0 at *
      simp [b1V_ll, r1, e2, hsum, e1]
    rw [whl_step, cond, Option.bind_some]
    by_cases ht : t < leftN p c
    · obtain ⟨y5, e1⟩ := rest_turn (G := G) (T := T) (c := c) o (t := t) (by omega) v0 (some (.d (.int c))) v2 x5 v6
      obtain ⟨z5, R, e2⟩ := rest_loop (T := T) o c0 v0 v2 v6 fuel (t + 1) y5 (by omega) (by omega)
      refine ⟨z5, R, ?_⟩
      simp only [decide_eq_true ht, if_true]
      rw [e1, loopN_nx, e2]
    · have : t = leftN p c := by omega
      subst this
      refine ⟨x5, intsO (dnR (rR p c) ((ordS p c).take (leftN p c)) p.length), ?_⟩
      simp only [decide_eq_false ht]
      rfl
theorem p__law_shares (h : 0 < m) (hG : noG G = true) {p : List Int} (o : OkQ p) {c : Int} (c0 : 0 ≤ c) (c1 : c ≤ 1000000) : phiOf drs cns m i__law_shares [.d (rowD p), .d (.int c)] G = some (.d (rowD (shareL p c)), G) := by
  obtain ⟨n, rfl, hn, e⟩ := go h (i := i__law_shares) rfl [.d (rowD p), .d (.int c)] G
  rw [e]
  have hl := o.l4
  have hW := o.pos
  have hW2 := o.le
  obtain ⟨b1, b2, _⟩ := left_bd (c := c) hW
  have cf : evE ⟨csOf cns, xiOf drs cns n⟩ f__law_shares_c0 [some (.d (rowD p)), some (.d (.int c)), some (.d (.int p.sum)), none, none, none, none] ⟨[], G⟩ = some (.l 0, ⟨[intsO (upR (fR p c) [] p.length)], G⟩) := by
    unfold f__law_shares_c0
    rw [comp_ap (xs := p.map .int) (s1 := ⟨[], G⟩) (vs := (p.map fun x => c * x / p.sum).map fun x => .d (.int x)) (s2 := ⟨[], G⟩) (by simp [rowD]) ?_ (by simp; omega)]
    · rw [start_up]
      simp [intsO]
    · have := compL_map (f := compF .loc (.nm 6) [6] (evC ⟨csOf cns, xiOf drs cns n⟩ .none) (evE ⟨csOf cns, xiOf drs cns n⟩ (.bin .FloorDiv (.bin .Mult (.var 1) (.var 6)) (.var 2))) [some (.d (rowD p)), some (.d (.int c)), some (.d (.int p.sum)), none, none, none, none]) (g := fun d => match d with | .int x => .d (.int (c * x / p.sum)) | _ => .d .none) (s := ⟨[], G⟩) (xs := p.map .int) (fun x hx => by
        obtain ⟨y, hy, rfl⟩ := List.mem_map.mp hx
        simp [mul_i (.inl (small_i c0 (by omega))), fdiv_i hW (show p.sum < 1073741824 by omega)])
      rw [this]
      simp
  have cr : ∀ O : SO, evE ⟨csOf cns, xiOf drs cns n⟩ f__law_shares_c1 [some (.d (rowD p)), some (.d (.int c)), some (.d (.int p.sum)), none, none, none, none] ⟨[O], G⟩ = some (.l 1, ⟨[O, intsO (dnR (rR p c) [] p.length)], G⟩) := by
    intro O
    unfold f__law_shares_c1
    rw [comp_ap (xs := p.map .int) (s1 := ⟨[O], G⟩) (vs := (p.map fun x => c * x % p.sum).map fun x => .d (.int x)) (s2 := ⟨[O], G⟩) (by simp [rowD]) ?_ (by simp; omega)]
    · rw [start_dn]
      simp [intsO]
    · have := compL_map (f := compF .loc (.nm 6) [6] (evC ⟨csOf cns, xiOf drs cns n⟩ .none) (evE ⟨csOf cns, xiOf drs cns n⟩ (.bin .Mod (.bin .Mult (.var 1) (.var 6)) (.var 2))) [some (.d (rowD p)), some (.d (.int c)), some (.d (.int p.sum)), none, none, none, none]) (g := fun d => match d with | .int x => .d (.int (c * x % p.sum)) | _ => .d .none) (s := ⟨[O], G⟩) (xs := p.map .int) (fun x hx => by
        obtain ⟨y, hy, rfl⟩ := List.mem_map.mp hx
        simp [mul_i (.inl (small_i c0 (by omega))), mod_i hW])
      rw [this]
      simp
  obtain ⟨y5, R, lp⟩ := rest_loop (G := G) (T := ⟨csOf cns, xiOf drs cns n⟩) o c0 (some (.d (rowD p))) (some (.d (.int p.sum))) none 10 0 none (Nat.zero_le _) (by unfold leftN; omega)
  rw [List.take_zero] at lp
  have hrj := readO_ints (shareL p c)
  have hr1 : b1D .sum (rowD p) = some (.int p.sum) := by simp [rowD]
  have hrow : rowD (shareL p c) = .tuple ((shareL p c).map .int) := rfl
  generalize shareL p c = SH at *
  generalize intsO SH = IO at *
  generalize intsO (upR (fR p c) [] p.length) = IU at *
  generalize intsO (dnR (rR p c) [] p.length) = ID at *
  generalize rowD p = rp at *
  simp [-whl_step, f__law_shares, runD, startL, hG, hr1, cf, cr, lp]
  simp [b1V_ll, hrj, hG, hrow]
end
end Nh

namespace Nh
open PySem Ev
theorem ordR_is {r : Nat → Int} {n : Nat} {L : List Nat} (hp : L.Perm (List.range n)) (hs : L.Pairwise fun i j => leR r i j = true) : ordR r n = L :=
  List.Perm.eq_of_pairwise (fun a b _ _ h1 h2 => by simp only [leR, decide_eq_true_eq] at h1 h2; omega) ordR_sorted hs (ordR_perm.trans hp.symm)
theorem c111 : shareL [1, 1, 1] 100 = [34, 33, 33] := by
  have e : ordS [1, 1, 1] 100 = [0, 1, 2] := ordR_is (by decide) (by decide)
  unfold shareL; rw [e]; decide
theorem c021 : shareL [0, 2, 1] 10 = [0, 7, 3] := by
  have e : ordS [0, 2, 1] 10 = [1, 2, 0] := ordR_is (by decide) (by decide)
  unfold shareL; rw [e]; decide
theorem c1221 : shareL [1, 2, 2, 1] 4 = [1, 1, 1, 1] := by
  have e : ordS [1, 2, 2, 1] 4 = [0, 3, 1, 2] := ordR_is (by decide) (by decide)
  unfold shareL; rw [e]; decide
theorem share_bd {p : List Int} {c : Int} (o : OkQ p) (c0 : 0 ≤ c) (c1 : c ≤ 1000000) : ∀ x ∈ shareL p c, 0 ≤ x ∧ x ≤ 100000000 := by
  intro x hx
  unfold shareL upR at hx
  obtain ⟨i, hi, rfl⟩ := List.mem_map.mp hx
  have hi := List.mem_range.mp hi
  have hp := o.pos
  have hb : 0 ≤ p.getD i 0 ∧ p.getD i 0 ≤ 99 := by
    rw [List.getD_eq_getElem?_getD, List.getElem?_eq_getElem hi]
    exact o.b _ (List.getElem_mem hi)
  have q1 : 0 ≤ c * p.getD i 0 := Int.mul_nonneg c0 hb.1
  have q2 : c * p.getD i 0 ≤ 1000000 * 99 := Int.mul_le_mul c1 hb.2 hb.1 (by omega)
  have q3 : 0 ≤ fR p c i := Int.ediv_nonneg q1 (by omega)
  have q4 : fR p c i ≤ c * p.getD i 0 := Int.ediv_le_self _ q1
  split <;> omega
theorem sh_rowD {l : List Int} (hl : l.length ≤ 10) (h : ∀ x ∈ l, 0 ≤ x ∧ x ≤ 100000000) : Sh 300 2 (rowD l) := by
  refine (sh_tup (n := 20) (k := 1) fun d hd => ?_).mono (by rw [List.length_map]; omega) (by decide)
  obtain ⟨x, hx, rfl⟩ := List.mem_map.mp hd
  have := h x hx
  exact sh_int (by omega)
section
variable {m j k : Nat} {G : List SO}
theorem p__law_cell_at (h : 0 < m) (hG : noG G = true) (ns : List Int) (k : Nat) : ∃ c : Int, phiOf drs cns m i__law_cell_at [.s ns, .d (.int k)] G = some (.d (.int c), G) := by
  obtain ⟨n, rfl, hn, e⟩ := go h (i := i__law_cell_at) rfl [.s ns, .d (.int k)] G
  rw [e]
  exact cell_spec hG
theorem p__law_pen (h : 0 < m) (hG : noG G = true) (c : Int) : ∃ G', phiOf drs cns m i__law_pen [.d (.int c)] G = some (.g G.length, G') ∧ Pn G.length 1000000 G' ∧ G'.length = G.length + 1 := by
  obtain ⟨n, rfl, hn, e⟩ := go h (i := i__law_pen) rfl [.d (.int c)] G
  rw [e]
  exact pen_spec hG
theorem p__law_draw (h : 0 < m) {M : Int} (P : Pn j (k + 1) G) (h1 : 0 < M) (h2 : M < 1073741824) : ∃ r G', phiOf drs cns m i__law_draw [.g j, .d (.int M)] G = some (.d (.int r), G') ∧ 0 ≤ r ∧ r < M ∧ Pn j k G' := by
  obtain ⟨n, rfl, hn, e⟩ := go h (i := i__law_draw) rfl [.g j, .d (.int M)] G
  rw [e]
  exact draw_spec P h1 h2
theorem p__law_coins (h : 1 < m) (P : Pn j (k + 4) G) : ∃ c G', phiOf drs cns m i__law_coins [.g j] G = some (.d (.int c), G') ∧ 0 ≤ c ∧ c ≤ 1000000 ∧ Pn j k G' := by
  obtain ⟨n, rfl, hn, e⟩ := go h (i := i__law_coins) rfl [.g j] G
  rw [e]
  obtain ⟨r1, G1, e1, a1, b1, P1⟩ := p__law_draw (m := n) (M := 12) (by omega) P (by decide) (by decide)
  obtain ⟨r2, G2, e2, a2, b2, P2⟩ := p__law_draw (m := n) (M := 1000) (by omega) P1 (by decide) (by decide)
  obtain ⟨r3, G3, e3, a3, b3, P3⟩ := p__law_draw (m := n) (M := 4) (by omega) P2 (by decide) (by decide)
  obtain ⟨r4, G4, e4, a4, b4, P4⟩ := p__law_draw (m := n) (M := 3) (by omega) P3 (by decide) (by decide)
  obtain ⟨c, hc, c0, c1⟩ : ∃ c : Int, atP [PyData.int r1, .int r2, .int (1000000 - r3)] r4 = some (.int c) ∧ 0 ≤ c ∧ c ≤ 1000000 := by
    have : r4 = 0 ∨ r4 = 1 ∨ r4 = 2 := by omega
    rcases this with rfl | rfl | rfl
    · exact ⟨r1, rfl, by omega, by omega⟩
    · exact ⟨r2, rfl, by omega, by omega⟩
    · exact ⟨1000000 - r3, rfl, by omega, by omega⟩
  refine ⟨c, G4, ?_, c0, c1, P4⟩
  simp [f__law_coins, runD, startL, P.no, P1.no, P2.no, P3.no, P4.no, e1, e2, e3, e4, hc]
theorem part_at {r : Int} (h0 : 0 ≤ r) (h1 : r < 7) : ∃ q : Int, atP [PyData.int 0, .int 1, .int 1, .int 2, .int 3, .int 50, .int 99] r = some (.int q) ∧ 0 ≤ q ∧ q ≤ 99 := by
  have : r = 0 ∨ r = 1 ∨ r = 2 ∨ r = 3 ∨ r = 4 ∨ r = 5 ∨ r = 6 := by omega
  rcases this with rfl | rfl | rfl | rfl | rfl | rfl | rfl
  · exact ⟨0, rfl, by decide, by decide⟩
  · exact ⟨1, rfl, by decide, by decide⟩
  · exact ⟨1, rfl, by decide, by decide⟩
  · exact ⟨2, rfl, by decide, by decide⟩
  · exact ⟨3, rfl, by decide, by decide⟩
  · exact ⟨50, rfl, by decide, by decide⟩
  · exact ⟨99, rfl, by decide, by decide⟩
theorem sum_nn {l : List Int} (h : ∀ x ∈ l, 0 ≤ x ∧ x ≤ 99) : 0 ≤ l.sum := by
  induction l with
  | nil => simp
  | cons a l ih =>
    have := ih fun x hx => h x (List.mem_cons_of_mem _ hx)
    have := h a List.mem_cons_self
    simp only [List.sum_cons]; omega
theorem p__law_parts (h : 1 < m) (P : Pn j (k + 6) G) : ∃ p G', phiOf drs cns m i__law_parts [.g j] G = some (.d (rowD p), G') ∧ OkQ p ∧ Pn j k G' := by
  obtain ⟨n, rfl, hn, e⟩ := go h (i := i__law_parts) rfl [.g j] G
  rw [e]
  obtain ⟨r1, G1, e1, a1, b1, P1⟩ := p__law_draw (m := n) (M := 4) (k := k + 5) (by omega) P (by decide) (by decide)
  obtain ⟨vs, s', h1, h2, h3, h4, h5⟩ := compL_inv (f := compF .loc (.nm 2) [2] (evC ⟨csOf cns, xiOf drs cns n⟩ .none) (evE ⟨csOf cns, xiOf drs cns n⟩ (.idx (.lst .pure (.cons (.lit (.int 0)) (.cons (.lit (.int 1)) (.cons (.lit (.int 1)) (.cons (.lit (.int 2)) (.cons (.lit (.int 3)) (.cons (.lit (.int 50)) (.cons (.lit (.int 99)) .nil)))))))) (.call i__law_draw (.cons (.var 0) (.cons (.lit (.int 7)) .nil))))) [some (.g j), none, none]) (I := fun t s => s.L = [] ∧ Pn j (k + 1 + t) s.G) (R := fun v => ∃ x : Int, v = .d (.int x) ∧ 0 ≤ x ∧ x ≤ 99)
    (xs := (List.range (1 + r1).toNat).map fun i : Nat => .int (i : Int)) (s := ⟨[], G1⟩) ⟨rfl, P1.le (by simp; omega)⟩ (fun x t s hx hI => by
      obtain ⟨r, G', er, ar, br, Pr⟩ := p__law_draw (m := n) (M := 7) (k := k + 1 + t) (by omega) hI.2 (by decide) (by decide)
      obtain ⟨q, hq, q0, q1⟩ := part_at ar br
      exact ⟨.d (.int q), { s with G := G' }, by simp [hI.2.no, er, hq], ⟨q, rfl, q0, q1⟩, hI.1, Pr⟩)
  obtain ⟨l, rfl, hl⟩ : ∃ l : List Int, vs = (l.map PyData.int).map .d ∧ ∀ x ∈ l, 0 ≤ x ∧ x ≤ 99 := by
    clear h1 h2
    induction vs with
    | nil => exact ⟨[], rfl, by simp⟩
    | cons v vs ih =>
      obtain ⟨x, rfl, q⟩ := h3 v List.mem_cons_self
      obtain ⟨l, rfl, hl⟩ := ih fun u hu => h3 u (List.mem_cons_of_mem _ hu)
      exact ⟨x :: l, rfl, by simpa using ⟨q, hl⟩⟩
  have hlen : l.length = (1 + r1).toNat := by simpa using h2
  obtain ⟨L', G2⟩ := s'
  cases (show L' = [] from h4)
  have h5 : Pn j (k + 1) G2 := h5
  have c0 : evE ⟨csOf cns, xiOf drs cns n⟩ f__law_parts_c0 [some (.g j), none, none] ⟨[], G⟩ = some (.l 0, ⟨[intsO l], G2⟩) := by
    unfold f__law_parts_c0
    rw [comp_ap (xs := (List.range (1 + r1).toNat).map fun i : Nat => .int (i : Int)) (s1 := ⟨[], G1⟩) (by
      have hr := rng0 (n := 1 + r1) (by omega) (by omega)
      simp [P.no, e1, hr]) h1 (by simp; omega)]
    rfl
  have r0 := readO_ints l
  have hs := ints_map l
  by_cases hz : l.sum = 0
  · obtain ⟨r2, G3, e3, a3, b3, P3⟩ := p__law_draw (m := n) (M := 9) (k := k) (by omega) h5 (by decide) (by decide)
    have g1 := setV_li (n := 0) (j := 0) (x := 1 + r2) (s := ⟨[intsO l], G3⟩) rfl (by omega)
    have rr := readO_ints (l.set 0 (1 + r2))
    refine ⟨l.set 0 (1 + r2), G3, ?_, ⟨by rw [List.length_set]; omega, by rw [List.length_set]; omega, fun x hx => ?_, ?_⟩, P3⟩
    · generalize hI : intsO l = I0 at *
      generalize hJ : intsO (l.set 0 (1 + r2)) = I1 at *
      simp at g1
      simp [f__law_parts, runD, startL, P.no, c0, b1V_ll, r0, hs, hz, h5.no, e3, g1, rr, P3.no, rowD]
    · rcases List.mem_or_eq_of_mem_set hx with h | h
      · exact hl x h
      · omega
    · cases l with
      | nil => simp at hlen; omega
      | cons a l =>
        have := sum_nn (l := l) fun x hx => hl x (List.mem_cons_of_mem _ hx)
        simp only [List.set_cons_zero, List.sum_cons]
        omega
  · have := sum_nn hl
    refine ⟨l, G2, ?_, ⟨by omega, by omega, hl, by omega⟩, h5.le (by omega)⟩
    generalize hI : intsO l = I0 at *
    simp [f__law_parts, runD, startL, P.no, c0, b1V_ll, r0, hs, hz, h5.no, rowD]
end
end Nh

namespace Nh
open PySem Ev
theorem for_st {T : Tx} {tg : Tg} {it : Ix} {b : Sts} {e : Lv} {s s1 : Sto} {xs : List PyData} {O : Out} (hi : evI T it e s = some (xs, s1)) (h : forL (forF tg (evSs T b)) xs e s1 = O) : evS T (.forr tg it b) e s = O := by
  rw [x_for, stp_ap, hi, Option.bind_some]; exact h
theorem shown_eq (x : PyData) : eqD (.str x.shown) (.str x.shown) = some true := by rw [eqD_s]; simp
section
variable {n : Nat}
theorem coin_turn (hn : 5 ≤ n) {G : List SO} (hG : noG G = true) {p : List Int} (o : OkQ p) {c : Int} (c0 : 0 ≤ c) (c1 : c ≤ 1000000) (x0 x1 x2 x3 x5 x6 x7 : Option Val) :
    ∃ y6 y7, forF (.nm 5) (evSs ⟨csOf cns, xiOf drs cns n⟩ f_law_b0) (.int c) [x0, x1, x2, x3, some (.d (rowD p)), x5, x6, x7] ⟨[], G⟩ = some (.nx, [x0, x1, x2, x3, some (.d (rowD p)), some (.d (.int c)), y6, y7], ⟨[], G⟩) := by
  have hl := o.l4
  have s1 := p__law_shares (m := n) (by omega) hG o c0 c1
  have s2 := phi_of (x_shared (m := n) (by omega) hG o c0 c1)
  have sh1 := (sh_rowD (l := p) (by omega) fun x hx => by have := o.b x hx; omega).okR (by decide) (by decide)
  have ssh := sh_rowD (l := shareL p c) (by unfold shareL; rw [upR_len]; omega) (share_bd o c0 c1)
  have sh2 : okR (.list [rowD (shareL p c), rowD (shareL p c)]) = true := (sh_lst (n := 300) (k := 2) fun d hd => by
    simp only [List.mem_cons, List.not_mem_nil, or_false] at hd
    rcases hd with rfl | rfl <;> exact ssh).okR (by simp) (by decide)
  refine ⟨some (.d (.str (rowD p).shown)), some (.d (rowD (shareL p c))), ?_⟩
  generalize rowD (shareL p c) = SH at *
  generalize rowD p = rp at *
  simp [f_law_b0, hG, s1, s2, sh1, sh2]
theorem coin_loop (hn : 5 ≤ n) {G : List SO} (hG : noG G = true) {p : List Int} (o : OkQ p) (x0 x1 x2 x3 : Option Val) : ∀ (cs : List Int) (x5 x6 x7 : Option Val), (∀ c ∈ cs, 0 ≤ c ∧ c ≤ 1000000) →
    ∃ y5 y6 y7, forL (forF (.nm 5) (evSs ⟨csOf cns, xiOf drs cns n⟩ f_law_b0)) (cs.map .int) [x0, x1, x2, x3, some (.d (rowD p)), x5, x6, x7] ⟨[], G⟩ = some (.nx, [x0, x1, x2, x3, some (.d (rowD p)), y5, y6, y7], ⟨[], G⟩)
  | [], x5, x6, x7, _ => ⟨x5, x6, x7, rfl⟩
  | c :: cs, x5, x6, x7, h => by
    obtain ⟨c0, c1⟩ := h c List.mem_cons_self
    obtain ⟨y6, y7, e⟩ := coin_turn hn hG o c0 c1 x0 x1 x2 x3 x5 x6 x7
    obtain ⟨z5, z6, z7, e2⟩ := coin_loop hn hG o x0 x1 x2 x3 cs (some (.d (.int c))) y6 y7 fun c hc => h c (List.mem_cons_of_mem _ hc)
    exact ⟨z5, z6, z7, by rw [List.map_cons, forL_cons, e, loopN_nx, e2]⟩
theorem parts_turn (hn : 5 ≤ n) {j k : Nat} {G : List SO} (P : Pn j (k + 11) G) (x0 x1 x3 x4 x5 x6 x7 : Option Val) :
    ∃ y4 y5 y6 y7 G', evSs ⟨csOf cns, xiOf drs cns n⟩ f_law_b1 [x0, x1, some (.g j), x3, x4, x5, x6, x7] ⟨[], G⟩ = some (.nx, [x0, x1, some (.g j), x3, y4, y5, y6, y7], ⟨[], G'⟩) ∧ Pn j k G' := by
  obtain ⟨p, G1, e1, o, P1⟩ := p__law_parts (m := n) (k := k + 5) (by omega) P
  obtain ⟨c, G2, e2, c0, c1, P2⟩ := p__law_coins (m := n) (k := k + 1) (by omega) P1
  obtain ⟨r, G3, e3, a3, b3, P3⟩ := p__law_draw (m := n) (M := 100) (k := k) (by omega) P2 (by decide) (by decide)
  obtain ⟨y5, y6, y7, lp⟩ := coin_loop hn P3.no o x0 x1 (some (.g j)) x3 [c, 0, 1, r] x5 x6 x7 (fun q hq => by
    simp only [List.mem_cons, List.not_mem_nil, or_false] at hq
    rcases hq with rfl | rfl | rfl | rfl <;> omega)
  refine ⟨some (.d (rowD p)), y5, y6, y7, G3, ?_, P3⟩
  have s0 : evS ⟨csOf cns, xiOf drs cns n⟩ (.set 4 (.call i__law_parts (.cons (.var 2) .nil))) [x0, x1, some (.g j), x3, x4, x5, x6, x7] ⟨[], G⟩ = some (.nx, [x0, x1, some (.g j), x3, some (.d (rowD p)), x5, x6, x7], ⟨[], G1⟩) := by
    simp [P.no, e1]
  unfold f_law_b1
  rw [x_Ss, s0, sq_nx, x_Ss]
  rw [for_st (s1 := ⟨[], G3⟩) (xs := [c, 0, 1, r].map .int) (by simp [P1.no, P2.no, e2, e3]) lp, sq_nx, x_Ss0]
theorem cell_turn (hn : 5 ≤ n) (ns : List Int) (i : Nat) (x1 x2 x3 x4 x5 x6 x7 : Option Val) {G : List SO} (hG : noG G = true) :
    ∃ y2 y3 y4 y5 y6 y7 G', forF (.nm 1) (evSs ⟨csOf cns, xiOf drs cns n⟩ f_law_b2) (.int (i : Int)) [some (.s ns), x1, x2, x3, x4, x5, x6, x7] ⟨[], G⟩ = some (.nx, [some (.s ns), some (.d (.int i)), y2, y3, y4, y5, y6, y7], ⟨[], G'⟩) ∧ noG G' = true := by
  obtain ⟨c, e1⟩ := p__law_cell_at (m := n) (by omega) hG ns i
  obtain ⟨G1, e2, P1, _⟩ := p__law_pen (m := n) (by omega) hG c
  obtain ⟨e', s', h1, y3, y4, y5, y6, y7, G2, h2, h3, h4⟩ := forL_inv (f := forF (.nm 3) (evSs ⟨csOf cns, xiOf drs cns n⟩ f_law_b1)) (xs := (List.range 6).map fun i : Nat => .int (i : Int)) (e := [some (.s ns), some (.d (.int i)), some (.g G.length), x3, x4, x5, x6, x7]) (s := ⟨[], G1⟩)
    (fun t e s => ∃ y3 y4 y5 y6 y7 G2, e = [some (.s ns), some (.d (.int i)), some (.g G.length), y3, y4, y5, y6, y7] ∧ s = ⟨[], G2⟩ ∧ Pn G.length (11 * t) G2) ⟨_, _, _, _, _, _, rfl, rfl, P1.le (by simp)⟩ (fun x t e s hx hI => by
      obtain ⟨y3, y4, y5, y6, y7, G2, rfl, rfl, PP⟩ := hI
      obtain ⟨z4, z5, z6, z7, G3, q1, q2⟩ := parts_turn hn (k := 11 * t) (PP.le (by omega)) (some (.s ns)) (some (.d (.int i))) (some (.d x)) y4 y5 y6 y7
      refine ⟨_, _, ?_, some (.d x), z4, z5, z6, z7, G3, rfl, rfl, q2⟩
      rw [forF_ap, x_nm, Option.bind_some]
      exact q1)
  subst h2 h3
  refine ⟨some (.g G.length), y3, y4, y5, y6, y7, G2, ?_, h4.no⟩
  simp [f_law_b2, hG, e1, e2, P1.no, x_for, rng0 (n := 6) (by decide) (by decide)]
  rw [h1]
  rfl
theorem okq3 : OkQ [1, 1, 1] := ⟨by decide, by decide, by decide, by decide⟩
theorem okq021 : OkQ [0, 2, 1] := ⟨by decide, by decide, by decide, by decide⟩
theorem okq1221 : OkQ [1, 2, 2, 1] := ⟨by decide, by decide, by decide, by decide⟩
theorem law_true (ns : List Int) (_ : ns.length ≤ 63) : ∃ G, phiOf row.drs row.cns (19 + 1) i_law [.s ns] [] = some (.d (.bool true), G) := by
  show ∃ G, phiOf drs cns (19 + 1) i_law [.s ns] [] = some (.d (.bool true), G)
  obtain ⟨n, hm, hn, e⟩ := go (m := 19 + 1) (k := 19) (by decide) (i := i_law) rfl [.s ns] []
  rw [e]
  obtain ⟨K, hK, hK2⟩ : ∃ K : Int, (if 1 < (if (5 : Int) < (ns.length : Int) then 5 else (ns.length : Int)) then (if (5 : Int) < (ns.length : Int) then 5 else (ns.length : Int)) else 1) = K ∧ 0 ≤ K ∧ K < 1000000 := ⟨_, rfl, by split <;> split <;> omega, by split <;> split <;> omega⟩
  obtain ⟨e', s', h1, y1, y2, y3, y4, y5, y6, y7, G2, h2, h3, h4⟩ := forL_inv (f := forF (.nm 1) (evSs ⟨csOf cns, xiOf drs cns n⟩ f_law_b2)) (xs := (List.range K.toNat).map fun i : Nat => .int (i : Int)) (e := [some (.s ns), none, none, none, none, none, none, none]) (s := ⟨[], []⟩)
    (fun _ e s => ∃ (y1 y2 y3 y4 y5 y6 y7 : Option Val) (G2 : List SO), e = [some (.s ns), y1, y2, y3, y4, y5, y6, y7] ∧ s = ⟨[], G2⟩ ∧ noG G2 = true) ⟨_, _, _, _, _, _, _, _, rfl, rfl, rfl⟩ (fun x t e s hx hI => by
      obtain ⟨y1, y2, y3, y4, y5, y6, y7, G2, rfl, rfl, hg⟩ := hI
      obtain ⟨i, hi, rfl⟩ := List.mem_map.mp hx
      obtain ⟨z2, z3, z4, z5, z6, z7, G3, h5, h6⟩ := cell_turn (n := n) (by omega) ns i y1 y2 y3 y4 y5 y6 y7 hg
      exact ⟨_, _, h5, _, _, _, _, _, _, _, _, rfl, rfl, h6⟩)
  subst h2 h3
  have q1 : phiOf drs cns n i_shared [.d (.tuple [.int 1, .int 1, .int 1]), .d (.int 100)] G2 = some (.d (.tuple [.int 34, .int 33, .int 33]), G2) := by
    have := phi_of (x_shared (m := n) (by omega) h4 okq3 (c := 100) (by decide) (by decide))
    rw [c111] at this
    exact this
  have q2 : phiOf drs cns n i_shared [.d (.tuple [.int 0, .int 2, .int 1]), .d (.int 10)] G2 = some (.d (.tuple [.int 0, .int 7, .int 3]), G2) := by
    have := phi_of (x_shared (m := n) (by omega) h4 okq021 (c := 10) (by decide) (by decide))
    rw [c021] at this
    exact this
  have q3 : phiOf drs cns n i_shared [.d (.tuple [.int 1, .int 2, .int 2, .int 1]), .d (.int 4)] G2 = some (.d (.tuple [.int 1, .int 1, .int 1, .int 1]), G2) := by
    have := phi_of (x_shared (m := n) (by omega) h4 okq1221 (c := 4) (by decide) (by decide))
    rw [c1221] at this
    exact this
  have t1 : eqD (.tuple [.int 34, .int 33, .int 33]) (.tuple [.int 34, .int 33, .int 33]) = some true := by decide
  have t2 : eqD (.tuple [.int 0, .int 7, .int 3]) (.tuple [.int 0, .int 7, .int 3]) = some true := by decide
  have t3 : eqD (.tuple [.int 1, .int 1, .int 1, .int 1]) (.tuple [.int 1, .int 1, .int 1, .int 1]) = some true := by decide
  refine ⟨G2, ?_⟩
  simp [f_law, runD, startL, x_for]
  rw [hK, rng0 hK2.1 hK2.2]
  simp only [Option.map_some, Option.bind_some]
  rw [h1]
  simp [h4, q1, q2, q3, t1, t2, t3]
end
end Nh

/-! the head's look, with the place of the modules in view -/
namespace Ev
open PySem PySem.Spec PyProof.Rows L2
section
variable (fa : List He.Fa) (fn : List He.DefD) (tf : List He.Defn) (ex : PySem.W.Frag → Bool)
/-- what is in view: the module's things to a depth, and where the modules stand -/
abbrev seen (rd : Addr → Option Obj) (n : Nat) : PySem.W.Frag := He.frT rd (sysModules :: He.asD rd n)
def looks (n : Nat) (rd : Addr → Option Obj) : He.AlX := Prod.mk (He.obsT fa fn [] (seen rd n)) (ex (seen rd n) && He.tabsB rd tf (seen rd n))
end
section
variable {fa : List He.Fa} {fn : List He.DefD} {tf : List He.Defn} {ex : PySem.W.Frag → Bool}
theorem looks_of {n : Nat} {W : World} {hp : Heap} (q : looks fa fn tf ex n hp.get? = He.valX fn [] W) : He.SaysX fa fn [] tf ex W hp (seen hp.get? n) := by
  unfold looks He.valX at q
  injection q with q1 q2
  rw [Bool.and_eq_true] at q2
  obtain ⟨q3, q4⟩ := q2
  have one : ∀ t ∈ tf, PySem.W.codeHdIn (seen hp.get? n) (He.cT (seen hp.get? n) t).1 (He.cT (seen hp.get? n) t).2 = true ∧ ∃ u, hp.get? (He.cT (seen hp.get? n) t).2 = some u ∧ He.emptyTab u = true := by
    intro t ht
    unfold He.tabsB at q4
    have z := List.all_eq_true.mp q4 t ht
    rw [Bool.and_eq_true] at z
    refine ⟨z.1, ?_⟩
    have z2 := z.2
    cases e : hp.get? (He.cT (seen hp.get? n) t).2 with
    | none => rw [e] at z2; cases z2
    | some u => rw [e] at z2; exact ⟨u, rfl, z2⟩
  constructor
  · exact q1
  · exact q3
  · exact fun t ht => (one t ht).1
  · intro t ht
    obtain ⟨_, u, e1, e2⟩ := one t ht
    exact He.frT_none e1 e2
  · intro t ht
    obtain ⟨_, u, e1, e2⟩ := one t ht
    rw [e1, He.emptyTab_eq e2]
end
def headH (n : Nat) (fa : List He.Fa) (fn : List He.DefD) (tf : List He.Defn) (ex : PySem.W.Frag → Bool) : PySem.W.Hook :=
  { α := He.AlX, obs := fun sh => looks fa fn tf ex n sh.heap.get?, val := fun W => He.valX fn [] W, says := fun W hp => ∃ K : PySem.W.Frag, K.In hp ∧ He.SaysX fa fn [] tf ex W hp K,
    of := fun _ _ q => ⟨_, He.frT_in, looks_of q⟩,
    keeps := fun _ _ _ w k => by
      obtain ⟨K, h1, c⟩ := w
      exact ⟨K, PySem.W.Frag.In.keeps h1 k, { t := c.t, more := c.more, hd := c.hd, out := c.out, empty := fun p hp => k _ _ (c.empty p hp) }⟩ }
theorem looks_eq {n : Nat} {fa : List He.Fa} {fn : List He.DefD} {tf : List He.Defn} {ex : PySem.W.Frag → Bool} {rd : Addr → Option Obj} {sh : Shared} (h : ∀ a, rd a = sh.heap.get? a) : looks fa fn tf ex n rd = (headH n fa fn tf ex).obs sh := by
  rw [show rd = sh.heap.get? from funext h]
  rfl
end Ev

namespace Nh
open PySem PySem.Spec PyProof.Rows L2 Ev
def lo0 : List PySem.Str := ["InnError", "NoCoins", "NoParts", "is_whole", "is_among", "is_row", "MOST_PAYERS", "MOST_PART", "MOST_COINS", "are_parts", "need_parts", "is_coins", "shared", "_law_cell_at", "_law_pen", "_law_draw", "_law_parts", "_law_coins", "_law_shares"]
def lo : List PySem.Str := lo0
abbrev R : PySem.W.OpenRow := PySem.W.OpenLaw.row PySem.Challenge.rw_nightsheld_k65_coins_shared
abbrev hk : PySem.W.Hook := Ev.headH 4 row.fa row.fn row.tf row.ex
def ob (s : PySem.W.SharedT) : He.AlX := Ev.looks row.fa row.fn row.tf row.ex 4 (HandSHeadRun.getT s)
theorem ob_eq (s : PySem.W.SharedT) : ob s = hk.obs s.abs := Ev.looks_eq (HandSHeadRun.getT_eq s)
theorem run (w : World) : HandSHeadRun.RunEq R (PySem.W.view R.prog [23]) hk ob 20000 lo w := by
  intro os
  kernel_rfl
end Nh
open PySem PySem.W PySem.Calls PyProof.Rows
theorem PySem.Challenge.cw_nightsheld_k65_coins_shared_holds : PySem.Challenge.rw_nightsheld_k65_coins_shared.Holds := by
  w_on; o_law
  refine HandSHeadRun.head_any (r := OpenLaw.row PySem.Challenge.rw_nightsheld_k65_coins_shared) (q := view (OpenLaw.row PySem.Challenge.rw_nightsheld_k65_coins_shared).prog [23]) (H := Nh.hk) (ob := Nh.ob) (M := 20000) (loose := Nh.lo) (d := HandSHeadRun.topDef (OpenLaw.row PySem.Challenge.rw_nightsheld_k65_coins_shared).prog 23) (kwd := []) Nh.ob_eq
    (by kernel_rfl) (fun s => by kernel_rfl) Nh.run (by kernel_rfl) (by kernel_rfl) (by kernel_rfl) (by rfl) (by first | assumption | decide +kernel) (by decide +kernel) ⟨rfl, rfl, rfl, rfl, rfl, by decide +kernel⟩ ?hw ?hc
  case hw => w_witness2
  case hc =>
    refine Ev.walk_goT (l := PySem.Challenge.rw_nightsheld_k65_coins_shared) (n := 63) (k := 60) (x := "_law_script") rfl (by decide) (by kernel_rfl) ⟨rfl, by decide, by decide⟩ ?F
    intro w mg fa h Y G hmg0
    obtain ⟨K, KX, c⟩ := Y
    have hmg : mg ("law" : PySem.Str) = some (.ref fa) := by
      have e : (HandSHeadRun.topDef (OpenLaw.row PySem.Challenge.rw_nightsheld_k65_coins_shared).prog 23).name = ("law" : PySem.Str) := by kernel_rfl
      rw [← e]
      exact hmg0
    obtain ⟨fd, cs, sp, h1, h2, h3, h4, h5, h6⟩ := Ev.law_fn2 (R := Nh.row) (Pg := (PySem.Challenge.rw_nightsheld_k65_coins_shared).prog) (W := w) (w := w) (m := 63) (n := 19) (i := Nh.i_law) (d := Nh.f_law) (x := "_law_script") KX G c Nh.row_ok rfl rfl rfl hmg Nh.law_true
    exact ⟨K, fd, cs, sp, KX, h1, h2, h3, h4, h5, h6⟩

