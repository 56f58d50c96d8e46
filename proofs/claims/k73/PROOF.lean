import PyProof.Rows.All
import Wide.All
import OpenK.AllK
import Wide.FinOn
import KE.SortData
import KE.DataMinMax
import KE.DataEq
import KE.DataFind
import KE.DataIsa
import HandS.ForMost
import HandS.TupAny
import HandS.TupMul
import HandS.Style
import HandS.IsInst
import KE.KEqDict
import KE.KTupSum
import HandS.Walk
import HandS.Codes
import HandS.Iter
import HandS.Zip
import KE.GoesEnum
import KE.GoesMore
import KE.GoesZip
import HandS.Defaults
import HandS.Head0
import HandS.Head1
import HandS.Head2
import HandS.HeadEnd
import HandS.HeadHook1
import HandS.HeadHook2
import Lean
import PySem.Challenge.RW_nightsheld_k73_whole_bills_put_together
set_option Elab.async false
set_option linter.all false
set_option maxRecDepth 100000
set_option maxHeartbeats 0
/-! a small evaluator over pure data: values, stores, expressions, statements -/
namespace Ev
open PySem

/-- a value: pure data, an object of the global store, one of the call's own store, the script -/
inductive Val where
  | d (x : PyData)
  | g (n : Nat)
  | l (n : Nat)
  | s (ns : List Int)

/-- what a store holds -/
inductive SO where
  | lst (xs : List Val)
  | dct (kvs : List (PyData × PyData))
  | frz (x : PyData)
  | ins (c : Nat) (fs : List (Str × Val))

structure Sto where
  L : List SO
  G : List SO

abbrev Lv := List (Option Val)
abbrev M (α : Type) := Sto → Option (α × Sto)
def rt {α : Type} (a : α) : M α := fun s => some (a, s)
def no {α : Type} : M α := fun _ => none
def bd {α β : Type} (m : M α) (f : α → M β) : M β := fun s => match m s with
  | none => none
  | some (a, s') => f a s'
def ofO {α : Type} : Option α → M α
  | some a => rt a
  | none => no
theorem bd_rt {α β : Type} (a : α) (f : α → M β) : bd (rt a) f = f a := rfl
theorem bd_some {α β : Type} {m : M α} {f : α → M β} {s s' : Sto} {a : α} (h : m s = some (a, s')) : bd m f s = f a s' := by
  unfold bd; rw [h]
theorem bd_inv {α β : Type} {m : M α} {f : α → M β} {s s2 : Sto} {b : β} (h : bd m f s = some (b, s2)) : ∃ a s1, m s = some (a, s1) ∧ f a s1 = some (b, s2) := by
  unfold bd at h
  split at h
  · cases h
  · rename_i a s1 e
    exact ⟨a, s1, e, h⟩

/-! ### pure data -/
def valD : Val → Option PyData
  | .d x => some x
  | _ => none
def valsD : List Val → Option (List PyData)
  | [] => some []
  | v :: vs => match valD v, valsD vs with
    | some x, some xs => some (x :: xs)
    | _, _ => none
def readO : SO → Option PyData
  | .lst xs => (valsD xs).map .list
  | .dct kvs => some (.dict kvs)
  | .frz x => some x
  | .ins _ _ => none
def ints? : List PyData → Option (List Int)
  | [] => some []
  | .int i :: r => (ints? r).map (i :: ·)
  | _ => none
def bools? : List PyData → Option (List Bool)
  | [] => some []
  | .bool b :: r => (bools? r).map (b :: ·)
  | _ => none
/-- the place that an index names -/
def ixP (n : Nat) (i : Int) : Option Nat := L2.ixN n i
def atP {α : Type} (xs : List α) (i : Int) : Option α := L2.atI xs i
def small (i : Int) : Bool := decide (-(2 ^ 64) < i) && decide (i < 2 ^ 64)
def binD : Operator → PyData → PyData → Option PyData
  | .Add, .int a, .int b => some (.int (a + b))
  | .Add, .str a, .str b => if a.length + b.length ≤ 16777216 then some (.str (a ++ b)) else none
  | .Add, .tuple a, .tuple b => if a.length + b.length ≤ 16777216 then some (.tuple (a ++ b)) else none
  | .Add, .list a, .list b => if a.length + b.length ≤ 16777216 then some (.list (a ++ b)) else none
  | .Sub, .int a, .int b => some (.int (a - b))
  | .Mult, .int a, .int b => if small a || small b then some (.int (a * b)) else none
  | .Mult, .tuple a, .int k => if 2 ≤ k ∧ k ≤ 1000 ∧ 1 ≤ a.length ∧ a.length ≤ 1000 then some (.tuple (List.replicate k.toNat a).flatten) else none
  | .Mult, .list a, .int k => if 0 ≤ k ∧ k < 1000 ∧ a.length * k.toNat ≤ 16777216 then some (.list (List.replicate k.toNat a).flatten) else none
  | .FloorDiv, .int a, .int b => if 0 < b ∧ b < 1073741824 then some (.int (a / b)) else none
  | .Mod, .int a, .int b => if 0 < b then some (.int (a % b)) else none
  | .Pow, .int a, .int b => if 0 ≤ b ∧ b ≤ 1000000 ∧ small a = true then some (.int (a ^ b.toNat)) else none
  | _, _, _ => none
def negD : PyData → Option PyData
  | .int a => some (.int (-a))
  | _ => none
def isEmp : PyData → Option Bool
  | .dict kvs => some kvs.isEmpty
  | _ => none
def eqD (a b : PyData) : Option Bool :=
  if a.plain && b.plain && decide (min a.depth b.depth ≤ 64) then some (PyData.eqv a b) else
    match a, b with
    | .dict kvs, .dict [] => some kvs.isEmpty
    | _, _ => none
def inD (a : PyData) : PyData → Option Bool
  | .list xs => if a.plain && PyData.plainAll xs && decide (min (PyData.depthAll xs) a.depth ≤ 64) then some (xs.any fun y => PyData.eqv y a) else none
  | .tuple xs => if a.plain && PyData.plainAll xs && decide (min (PyData.depthAll xs) a.depth ≤ 64) then some (xs.any fun y => PyData.eqv y a) else none
  | _ => none
def ltD (a b : PyData) : Option Bool := if PySem.W.alike a b && !(match a with | .none => true | _ => false) then some (PySem.W.dataLt a b) else none
def isNone : PyData → Bool
  | .none => true
  | _ => false
def cmpD : CmpOp → PyData → PyData → Option Bool
  | .Eq, a, b => eqD a b
  | .NotEq, a, b => (eqD a b).map (!·)
  | .Lt, .int a, .int b => some (decide (a < b))
  | .LtE, .int a, .int b => some (decide (a ≤ b))
  | .Gt, .int a, .int b => some (decide (b < a))
  | .GtE, .int a, .int b => some (decide (b ≤ a))
  | .In, a, b => inD a b
  | .NotIn, a, b => (inD a b).map (!·)
  | .Is, a, .none => some (isNone a)
  | .IsNot, a, .none => some (!isNone a)
  | .Is, .bool a, .bool b => some (decide (a = b))
  | .IsNot, .bool a, .bool b => some (!decide (a = b))
  | _, _, _ => none
def truthD : PyData → Option Bool
  | .none => some false
  | .bool b => some b
  | .int i => some (i != 0)
  | .str x => if x.length ≤ 16777216 then some (x.length != 0) else none
  | .list xs => some !xs.isEmpty
  | .tuple xs => some !xs.isEmpty
  | .dict kvs => some !kvs.isEmpty
def lookD (k : PyData) : List (PyData × PyData) → Option PyData
  | [] => none
  | (a, v) :: r => if PyData.eqv a k then some v else lookD k r
def putD (k v : PyData) : List (PyData × PyData) → List (PyData × PyData)
  | [] => [(k, v)]
  | (a, u) :: r => if PyData.eqv a k then (a, v) :: r else (a, u) :: putD k v r
def isKey : PyData → Bool
  | .int _ => true
  | .str _ => true
  | _ => false
def idxD : PyData → PyData → Option PyData
  | .list xs, .int i => atP xs i
  | .tuple xs, .int i => atP xs i
  | .str z, .int i => if z.length ≤ 16777216 then (atP z.cps.toList i).map fun c => .str ⟨#[c]⟩ else none
  | .dict kvs, k => if isKey k then lookD k kvs else none
  | _, _ => none
/-- xs[lo:hi] -/
def cutP {α : Type} (xs : List α) (lo hi : Option Int) : List α := (xs.drop (HT.sIx xs.length 0 lo)).take (HT.sIx xs.length xs.length hi - HT.sIx xs.length 0 lo)
def sliceD (lo hi : Option Int) : PyData → Option PyData
  | .list xs => some (.list (cutP xs lo hi))
  | .tuple xs => some (.tuple (cutP xs lo hi))
  | _ => none
def revD : PyData → Option PyData
  | .list xs => some (.list xs.reverse)
  | _ => none
inductive B1 where
  | len | sum | all | any | tuple | list | abs | maxs | mins | sorted | intb | strs | repr | setlen | uniq | bool
  deriving DecidableEq
inductive B2 where
  | max | min
  deriving DecidableEq
def isTup1 : PyData → Bool
  | .tuple (_ :: _) => true
  | _ => false
def noTup : PyData → Bool
  | .none => false
  | .tuple _ => false
  | _ => true
/-- items that can be sorted -/
def canSort (xs : List PyData) : Bool := (xs.all fun a => xs.all fun b => PySem.W.alike a b) && (xs.all isTup1 || xs.all noTup) && xs.all (fun a => decide (a.depth ≤ 64)) && decide (xs.length ≤ 16777216)
def sortD (xs : List PyData) : List PyData := xs.mergeSort (PySem.W.dataLe false fun x => x)
def b1D : B1 → PyData → Option PyData
  | .len, .list xs => some (.int xs.length)
  | .len, .tuple xs => some (.int xs.length)
  | .len, .str x => if x.length ≤ 16777216 then some (.int x.length) else none
  | .sum, .list xs => (ints? xs).map fun ns => .int ns.sum
  | .sum, .tuple xs => (ints? xs).map fun ns => .int ns.sum
  | .all, .list xs => (bools? xs).map fun bs => .bool (bs.all id)
  | .any, .list xs => (bools? xs).map fun bs => .bool (bs.any id)
  | .tuple, .list xs => some (.tuple xs)
  | .tuple, .tuple xs => some (.tuple xs)
  | .list, .list xs => some (.list xs)
  | .list, .tuple xs => some (.list xs)
  | .abs, .int i => some (.int (if i < 0 then -i else i))
  | .sorted, .list xs => if canSort xs then some (.list (sortD xs)) else none
  | .intb, .bool b => some (.int (if b then 1 else 0))
  | .intb, .int i => some (.int i)
  | _, _ => none
def b2D : B2 → PyData → PyData → Option PyData
  | .max, .int a, .int b => some (.int (if b > a then b else a))
  | .min, .int a, .int b => some (.int (if b < a then b else a))
  | _, _, _ => none
inductive Ty where
  | int | bool | str | tuple | list | dict
  deriving DecidableEq
def isiD : Ty → PyData → Bool
  | .int, x => x.isInt
  | .bool, x => x.isBool
  | .str, x => x.isStr
  | .tuple, x => x.isTuple
  | .list, x => x.isList
  | .dict, x => x.isDict

/-! ### stores -/
def getO (v : Val) (s : Sto) : Option SO := match v with
  | .d _ => none
  | .s _ => none
  | .l n => s.L[n]?
  | .g n => s.G[n]?
/-- what a value reads as, now -/
def peek (v : Val) : M PyData := fun s => match v with
  | .d x => some (x, s)
  | v => ((getO v s).bind readO).map fun x => (x, s)
/-- what a value reads as, for good: an object of the call's own store is written no more -/
def keep (v : Val) : M PyData := fun s => match v with
  | .d x => some (x, s)
  | .l n => (s.L[n]?.bind readO).map fun x => (x, { s with L := s.L.set n (.frz x) })
  | .g _ => none
  | .s _ => none
/-- a value that may leave the call -/
def keepV (v : Val) : M Val := match v with
  | .g n => rt (.g n)
  | .s ns => rt (.s ns)
  | v => bd (keep v) fun x => rt (.d x)
def keeps : List Val → M (List PyData)
  | [] => rt []
  | v :: vs => bd (keep v) fun x => bd (keeps vs) fun xs => rt (x :: xs)
def keepVs : List Val → M (List Val)
  | [] => rt []
  | v :: vs => bd (keepV v) fun x => bd (keepVs vs) fun xs => rt (x :: xs)
/-- where a new list goes -/
inductive Wh where
  | pure | loc | glob
  deriving DecidableEq
def place (w : Wh) (vs : List Val) : M Val := match w with
  | .pure => bd (keeps vs) fun xs => rt (.d (.list xs))
  | .loc => fun s => some (.l s.L.length, { s with L := s.L ++ [.lst vs] })
  | .glob => bd (keepVs vs) fun vs => fun s => some (.g s.G.length, { s with G := s.G ++ [.lst vs] })
def idxV (c i : Val) : M Val := bd (peek i) fun k => match c with
  | .d x => ofO ((idxD x k).map .d)
  | .s ns => match k with
    | .int j => ofO ((atP ns j).map fun n => .d (.int n))
    | _ => no
  | c => fun s => match getO c s, k with
    | some (.lst vs), .int j => (atP vs j).map fun v => (v, s)
    | some (.frz x), k => (idxD x k).map fun y => (.d y, s)
    | some (.dct kvs), k => (idxD (.dict kvs) k).map fun y => (.d y, s)
    | _, _ => none
def putO (v : Val) (o : SO) (s : Sto) : Option Sto := match v with
  | .d _ => none
  | .s _ => none
  | .l n => some { s with L := s.L.set n o }
  | .g n => some { s with G := s.G.set n o }
/-- c[i] = x -/
def setV (c i x : Val) : M Unit := bd (peek i) fun k => bd (match c with | .l _ => rt x | _ => keepV x) fun x => fun s => match getO c s, k with
  | some (.lst vs), .int j => match ixP vs.length j with
    | some m => (putO c (.lst (vs.set m x)) s).map fun s' => ((), s')
    | none => none
  | some (.dct kvs), k => match x with
    | .d y => if isKey k && decide (kvs.length < 16777216) then (putO c (.dct (putD k y kvs)) s).map fun s' => ((), s') else none
    | _ => none
  | _, _ => none
/-- c.append(x) -/
def appV (c x : Val) : M Unit := bd (match c with | .l _ => rt x | _ => keepV x) fun x => fun s => match getO c s with
  | some (.lst vs) => if vs.length < 16777216 then (putO c (.lst (vs ++ [x])) s).map fun s' => ((), s') else none
  | _ => none
/-- f(v) -/
def b1V (f : B1) (v : Val) : M Val := match v with
  | .s ns => match f with
    | .len => rt (.d (.int ns.length))
    | _ => no
  | v => bd (peek v) fun x => ofO ((b1D f x).map .d)
/-- it is a list of a store now | data that is a dict now -/
def lstV (v : Val) : M Unit := fun s => match getO v s with
  | some (.lst _) => some ((), s)
  | _ => none
def dctV (v : Val) : M Unit := bd (peek v) fun x => match x with
  | .dict _ => rt ()
  | _ => no
/-- d.get(k, x) -/
def getV (d k x : Val) : M Val := bd (peek k) fun k => bd (keep x) fun x => bd (peek d) fun d => match d with
  | .dict kvs => if isKey k then rt (.d ((lookD k kvs).getD x)) else no
  | _ => no

/-! ### the text -/
mutual
inductive Tg where
  | nm (i : Nat)
  | tp (ts : Tgs)
inductive Tgs where
  | nil
  | cons (t : Tg) (ts : Tgs)
end
mutual
inductive Ex where
  | var (i : Nat)
  | lit (x : PyData)
  | glo (k : Nat)
  | bin (o : Operator) (a b : Ex)
  | neg (a : Ex)
  | cmp (o : CmpOp) (a b : Ex)
  | chn (o1 o2 : CmpOp) (a b c : Ex)
  | and (es : Exs)
  | or (es : Exs)
  | not (a : Ex)
  | ife (c : Ct) (a b : Ex)
  | tup (es : Exs)
  | lst (w : Wh) (es : Exs)
  | dct0
  | idx (a b : Ex)
  | slc (a : Ex) (lo hi : Xo)
  | rev (a : Ex)
  | call (f : Nat) (es : Exs)
  | b1 (f : B1) (a : Ex)
  | b2 (f : B2) (a b : Ex)
  | isi (a : Ex) (t : Ty)
  | get (d k x : Ex)
  | app (o a : Ex)
  | comp (w : Wh) (elt : Ex) (tg : Tg) (it : Ix) (cd : Co) (own : List Nat)
  | dcomp (k v : Ex) (tg : Tg) (it : Ix) (cd : Co) (own : List Nat)
inductive Exs where
  | nil
  | cons (e : Ex) (es : Exs)
inductive Xo where
  | none
  | some (e : Ex)
/-- a condition -/
inductive Ct where
  | v (a : Ex)
  | not (a : Ct)
  | and (cs : Cts)
  | or (cs : Cts)
  | ife (c a b : Ct)
inductive Cts where
  | nil
  | cons (c : Ct) (cs : Cts)
inductive Co where
  | none
  | some (c : Ct)
inductive Ix where
  | seq (e : Ex)
  | rng1 (a : Ex)
  | rng2 (a b : Ex)
  | enum (a : Ex)
  | zip (strict : Bool) (a b : Ex)
end
inductive Flow where
  | nx | bk | ct
  | rt (v : Val)
mutual
inductive St where
  | ex (e : Ex)
  | set (i : Nat) (e : Ex)
  | par (i j : Nat) (a b : Ex)
  | par3 (i j k : Nat) (a b c : Ex)
  | asg (tg : Tg) (e : Ex)
  | sub (o i v : Ex)
  | augs (c i : Ex) (o : Operator) (e : Ex)
  | iff (c : Ct) (a b : Sts)
  | forr (tg : Tg) (it : Ix) (body : Sts)
  | whl (fuel : Nat) (c : Ct) (body : Sts)
  | ret (e : Ex)
  | ret0
  | rse
  | pass
inductive Sts where
  | nil
  | cons (s : St) (ss : Sts)
end

/-! ### evaluation -/
abbrev FT := Nat → List Val → List SO → Option (Val × List SO)
def noV : List Val → Bool
  | [] => true
  | .l _ :: _ => false
  | _ :: r => noV r
def noF : List (Str × Val) → Bool
  | [] => true
  | (_, .l _) :: _ => false
  | _ :: r => noF r
/-- no object of the global store holds one of a call's own -/
def noG : List SO → Bool
  | [] => true
  | .lst vs :: r => noV vs && noG r
  | .ins _ fs :: r => noF fs && noG r
  | _ :: r => noG r
structure Tx where
  cs : Nat → Option PyData
  fn : FT
def callV (T : Tx) (f : Nat) (vs : List Val) : M Val := fun s => if noG s.G then (T.fn f vs s.G).map fun p => (p.1, { s with G := p.2 }) else none
mutual
def asgT : Tg → Val → Lv → Option Lv
  | .nm i, v, e => some (e.set i (some v))
  | .tp ts, .d (.tuple xs), e => asgTs ts xs e
  | .tp _, _, _ => none
def asgTs : Tgs → List PyData → Lv → Option Lv
  | .nil, [], e => some e
  | .cons t ts, x :: xs, e => (asgT t (.d x) e).bind fun e1 => asgTs ts xs e1
  | _, _, _ => none
end
def wipeL (e : Lv) : List Nat → Lv
  | [] => e
  | v :: vs => (wipeL e vs).set v none
def itemsD : PyData → Option (List PyData)
  | .list xs => some xs
  | .tuple xs => some xs
  | _ => none
def rngD (lo hi : Int) : Option (List PyData) := if -(2 ^ 62) ≤ lo ∧ lo < 2 ^ 62 ∧ -(2 ^ 62) ≤ hi ∧ hi < 2 ^ 62 then some ((List.range (hi - lo).toNat).map fun (i : Nat) => .int (lo + (i : Int))) else none
def enumD (k : Nat) : List PyData → List PyData
  | [] => []
  | x :: xs => .tuple [.int k, x] :: enumD (k + 1) xs
def zipD : List PyData → List PyData → List PyData
  | x :: xs, y :: ys => .tuple [x, y] :: zipD xs ys
  | _, _ => []
def compL (f : PyData → M (Option Val)) : List PyData → M (List Val)
  | [] => rt []
  | x :: xs => bd (f x) fun o => bd (compL f xs) fun vs => rt (match o with | some v => v :: vs | none => vs)
def dcompL (f : PyData → M (Option (PyData × PyData))) : List PyData → List (PyData × PyData) → M (List (PyData × PyData))
  | [], acc => rt acc
  | x :: xs, acc => bd (f x) fun o => dcompL f xs (match o with | some (k, v) => putD k v acc | none => acc)
def compF (wh : Wh) (tgt : Tg) (own : List Nat) (mc : Lv → M Bool) (me : Lv → M Val) (e : Lv) (x : PyData) : M (Option Val) := match asgT tgt (.d x) (wipeL e own) with
  | some e1 => bd (mc e1) fun k => if k then bd (me e1) fun v => (match wh with | .pure => bd (keep v) fun x => rt (some (.d x)) | _ => rt (some v)) else rt none
  | none => no
def dcompF (tgt : Tg) (own : List Nat) (mc : Lv → M Bool) (mk mv : Lv → M Val) (e : Lv) (x : PyData) : M (Option (PyData × PyData)) := match asgT tgt (.d x) (wipeL e own) with
  | some e1 => bd (mc e1) fun c => if c then bd (mk e1) fun kv => bd (mv e1) fun vv => bd (peek kv) fun kx => bd (keep vv) fun vx => if isKey kx then rt (some (kx, vx)) else no else rt none
  | none => no
def varE (i : Nat) (e : Lv) : M Val := match e[i]? with
  | some (some v) => rt v
  | _ => no
mutual
def evE (T : Tx) : Ex → Lv → M Val
  | .var i, e => varE i e
  | .lit x, _ => rt (.d x)
  | .glo k, _ => ofO ((T.cs k).map .d)
  | .bin o a b, e => bd (evE T a e) fun v => bd (evE T b e) fun u => bd (peek v) fun x => bd (peek u) fun y => ofO ((binD o x y).map .d)
  | .neg a, e => bd (evE T a e) fun v => bd (peek v) fun x => ofO ((negD x).map .d)
  | .cmp o a b, e => bd (evE T a e) fun v => bd (evE T b e) fun u => bd (peek v) fun x => bd (peek u) fun y => ofO ((cmpD o x y).map fun c => .d (.bool c))
  | .chn o1 o2 a b c, e => bd (evE T a e) fun v => bd (evE T b e) fun u => bd (peek v) fun x => bd (peek u) fun y => bd (ofO (cmpD o1 x y)) fun k =>
      if k then bd (evE T c e) fun w => bd (peek u) fun y => bd (peek w) fun z => ofO ((cmpD o2 y z).map fun c => .d (.bool c)) else rt (.d (.bool false))
  | .and es, e => evA T es e
  | .or es, e => evO T es e
  | .not a, e => bd (evE T a e) fun v => bd (peek v) fun x => bd (ofO (truthD x)) fun k => rt (.d (.bool !k))
  | .ife c a b, e => bd (evT T c e) fun k => if k then evE T a e else evE T b e
  | .tup es, e => bd (evEs T es e) fun vs => bd (keeps vs) fun xs => if xs.length ≤ 16777216 then rt (.d (.tuple xs)) else no
  | .lst w es, e => bd (evEs T es e) fun vs => if vs.length ≤ 16777216 then place w vs else no
  | .dct0, _ => fun s => some (.l s.L.length, { s with L := s.L ++ [.dct []] })
  | .idx a b, e => bd (evE T a e) fun v => bd (evE T b e) fun u => idxV v u
  | .slc a lo hi, e => bd (evE T a e) fun v => bd (evP T lo e) fun i => bd (evP T hi e) fun j => bd (peek v) fun x => ofO ((sliceD i j x).map .d)
  | .rev a, e => bd (evE T a e) fun v => bd (peek v) fun x => ofO ((revD x).map .d)
  | .call f es, e => bd (evEs T es e) fun vs => bd (keepVs vs) fun vs => callV T f vs
  | .b1 f a, e => bd (evE T a e) fun v => b1V f v
  | .b2 f a b, e => bd (evE T a e) fun v => bd (evE T b e) fun u => bd (peek v) fun x => bd (peek u) fun y => ofO ((b2D f x y).map .d)
  | .isi a t, e => bd (evE T a e) fun v => bd (peek v) fun x => rt (.d (.bool (isiD t x)))
  | .get d k x, e => bd (evE T d e) fun d => bd (dctV d) fun _ => bd (evE T k e) fun k => bd (evE T x e) fun x => getV d k x
  | .app o a, e => bd (evE T o e) fun o => bd (lstV o) fun _ => bd (evE T a e) fun a => bd (appV o a) fun _ => rt (.d .none)
  | .comp w elt tg it cd own, e => bd (evI T it e) fun xs => bd (compL (compF w tg own (evC T cd) (evE T elt) e) xs) fun vs => if vs.length ≤ 16777216 then place w vs else no
  | .dcomp k v tg it cd own, e => bd (evI T it e) fun xs => bd (dcompL (dcompF tg own (evC T cd) (evE T k) (evE T v) e) xs []) fun kvs => if kvs.length ≤ 16777216 then rt (.d (.dict kvs)) else no
  termination_by structural a => a
def evEs (T : Tx) : Exs → Lv → M (List Val)
  | .nil, _ => rt []
  | .cons a es, e => bd (evE T a e) fun v => bd (evEs T es e) fun vs => rt (v :: vs)
  termination_by structural a => a
def evA (T : Tx) : Exs → Lv → M Val
  | .nil, _ => no
  | .cons a .nil, e => evE T a e
  | .cons a es, e => bd (evE T a e) fun v => bd (peek v) fun x => bd (ofO (truthD x)) fun k => if k then evA T es e else rt v
  termination_by structural a => a
def evO (T : Tx) : Exs → Lv → M Val
  | .nil, _ => no
  | .cons a .nil, e => evE T a e
  | .cons a es, e => bd (evE T a e) fun v => bd (peek v) fun x => bd (ofO (truthD x)) fun k => if k then rt v else evO T es e
  termination_by structural a => a
def evP (T : Tx) : Xo → Lv → M (Option Int)
  | .none, _ => rt none
  | .some a, e => bd (evE T a e) fun v => bd (peek v) fun x => match x with
    | .int i => rt (some i)
    | _ => no
  termination_by structural a => a
def evC (T : Tx) : Co → Lv → M Bool
  | .none, _ => rt true
  | .some a, e => evT T a e
  termination_by structural a => a
def evI (T : Tx) : Ix → Lv → M (List PyData)
  | .seq a, e => bd (evE T a e) fun v => bd (keep v) fun x => ofO (itemsD x)
  | .rng1 a, e => bd (evE T a e) fun v => bd (peek v) fun x => match x with
    | .int j => ofO (rngD 0 j)
    | _ => no
  | .rng2 a b, e => bd (evE T a e) fun v => bd (evE T b e) fun u => bd (peek v) fun x => bd (peek u) fun y => match x, y with
    | .int i, .int j => ofO (rngD i j)
    | _, _ => no
  | .enum a, e => bd (evE T a e) fun v => bd (keep v) fun x => bd (ofO (itemsD x)) fun xs => rt (enumD 0 xs)
  | .zip st a b, e => bd (evE T a e) fun v => bd (evE T b e) fun u => bd (keep v) fun x => bd (keep u) fun y => bd (ofO (itemsD x)) fun xs => bd (ofO (itemsD y)) fun ys =>
      if st && xs.length != ys.length then no else rt (zipD xs ys)
  termination_by structural a => a
def evT (T : Tx) : Ct → Lv → M Bool
  | .v a, e => bd (evE T a e) fun v => bd (peek v) fun x => ofO (truthD x)
  | .not a, e => bd (evT T a e) fun k => rt !k
  | .and cs, e => evTA T cs e
  | .or cs, e => evTO T cs e
  | .ife c a b, e => bd (evT T c e) fun k => if k then evT T a e else evT T b e
  termination_by structural a => a
def evTA (T : Tx) : Cts → Lv → M Bool
  | .nil, _ => rt true
  | .cons a cs, e => bd (evT T a e) fun k => if k then evTA T cs e else rt false
  termination_by structural a => a
def evTO (T : Tx) : Cts → Lv → M Bool
  | .nil, _ => rt false
  | .cons a cs, e => bd (evT T a e) fun k => if k then rt true else evTO T cs e
  termination_by structural a => a
end
abbrev Out := Option (Flow × Lv × Sto)
def stp {α : Type} (m : M α) (f : α → Sto → Out) (s : Sto) : Out := match m s with
  | none => none
  | some (a, s') => f a s'
def sq (o : Out) (f : Lv → Sto → Out) : Out := match o with
  | some (.nx, e, s) => f e s
  | o => o
/-- a loop's body ended so: on, or out -/
def loopN (k : Lv → Sto → Out) : Out → Out
  | some (.nx, e, s) => k e s
  | some (.ct, e, s) => k e s
  | some (.bk, e, s) => some (.nx, e, s)
  | o => o
def forL (f : PyData → Lv → Sto → Out) : List PyData → Lv → Sto → Out
  | [], e, s => some (.nx, e, s)
  | x :: xs, e, s => loopN (forL f xs) (f x e s)
def whlL (c : Lv → M Bool) (f : Lv → Sto → Out) : Nat → Lv → Sto → Out
  | 0, _, _ => none
  | n + 1, e, s => stp (c e) (fun k s => if k then loopN (whlL c f n) (f e s) else some (.nx, e, s)) s
def forF (tg : Tg) (f : Lv → Sto → Out) (x : PyData) (e : Lv) (s : Sto) : Out := match asgT tg (.d x) e with
  | some e1 => f e1 s
  | none => none
/-- the item of a list of a store that is to be written anew -/
def augG (c i : Val) : M Val := bd (peek i) fun k => fun s => match getO c s with
  | some (.lst vs) => (match k with
    | .int j => if 0 ≤ j then (vs[j.toNat]?).map fun v => (v, s) else none
    | _ => none)
  | _ => none
def augI (o : Operator) (x y : PyData) : Option Val := match x, y with
  | .int _, .int _ => (binD o x y).map .d
  | _, _ => none
mutual
def evS (T : Tx) : St → Lv → Sto → Out
  | .ex a, e, s => stp (evE T a e) (fun _ s => some (.nx, e, s)) s
  | .set i a, e, s => stp (evE T a e) (fun v s => some (.nx, e.set i (some v), s)) s
  | .par i j a b, e, s => stp (evE T a e) (fun v s => stp (evE T b e) (fun u s => some (.nx, (e.set i (some v)).set j (some u), s)) s) s
  | .par3 i j k a b c, e, s => stp (evE T a e) (fun v s => stp (evE T b e) (fun u s => stp (evE T c e) (fun w s => some (.nx, ((e.set i (some v)).set j (some u)).set k (some w), s)) s) s) s
  | .asg tg a, e, s => stp (evE T a e) (fun v s => (asgT tg v e).map fun e1 => (.nx, e1, s)) s
  | .sub o i v, e, s => stp (evE T v e) (fun x s => stp (evE T o e) (fun c s => stp (evE T i e) (fun k s => stp (setV c k x) (fun _ s => some (.nx, e, s)) s) s) s) s
  | .augs c i o a, e, s => stp (evE T c e) (fun cv s => stp (evE T i e) (fun iv s => stp (augG cv iv) (fun v s => stp (evE T a e) (fun u s => stp (bd (peek v) fun x => bd (peek u) fun y => ofO (augI o x y)) (fun w s =>
      stp (setV cv iv w) (fun _ s => some (.nx, e, s)) s) s) s) s) s) s
  | .iff c a b, e, s => stp (evT T c e) (fun k s => if k then evSs T a e s else evSs T b e s) s
  | .forr tg it body, e, s => stp (evI T it e) (fun xs s => forL (forF tg (evSs T body)) xs e s) s
  | .whl n c body, e, s => whlL (evT T c) (evSs T body) n e s
  | .ret a, e, s => stp (evE T a e) (fun v s => stp (keepV v) (fun w s => some (.rt w, e, s)) s) s
  | .ret0, e, s => some (.rt (.d .none), e, s)
  | .rse, _, _ => none
  | .pass, e, s => some (.nx, e, s)
  termination_by structural a => a
def evSs (T : Tx) : Sts → Lv → Sto → Out
  | .nil, e, s => some (.nx, e, s)
  | .cons a as, e, s => sq (evS T a e s) (evSs T as)
  termination_by structural a => a
end
/-- a def: its parameters, its slots, its body -/
structure Df where
  ar : Nat
  sl : Nat
  body : Sts
def startL (ar sl : Nat) (vs : List Val) : Lv := vs.map some ++ List.replicate (sl - ar) none
def endD : Out → Option (Val × List SO)
  | some (.rt v, _, s) => if noG s.G && noV [v] then some (v, s.G) else none
  | some (.nx, _, s) => if noG s.G then some (.d .none, s.G) else none
  | _ => none
def runD (T : Tx) (d : Df) (vs : List Val) (g : List SO) : Option (Val × List SO) := if vs.length = d.ar then endD (evSs T d.body (startL d.ar d.sl vs) ⟨[], g⟩) else none
/-- the defs of a program, called to a depth -/
def phi (cs : Nat → Option PyData) (ds : List Df) : Nat → FT
  | 0 => fun _ _ _ => none
  | n + 1 => fun f vs g => match ds[f]? with
    | some d => runD ⟨cs, phi cs ds n⟩ d vs g
    | none => none
end Ev

/-! how the evaluator's values lie in the hand layer's heap -/
namespace Ev
open PySem PySem.Spec PyProof.Rows L2

/-! ### two lists, item by item -/
inductive All2 {α β : Type} (R : α → β → Prop) : List α → List β → Prop where
  | nil : All2 R [] []
  | cons {a b as bs} : R a b → All2 R as bs → All2 R (a :: as) (b :: bs)
namespace All2
variable {α β γ : Type} {R S : α → β → Prop}
theorem len {as : List α} {bs : List β} (h : All2 R as bs) : as.length = bs.length := by
  induction h with
  | nil => rfl
  | cons _ _ ih => simp [ih]
theorem imp {as : List α} {bs : List β} (h : All2 R as bs) (f : ∀ a b, R a b → S a b) : All2 S as bs := by
  induction h with
  | nil => exact .nil
  | cons x _ ih => exact .cons (f _ _ x) ih
theorem at_ {as : List α} {bs : List β} (h : All2 R as bs) : ∀ {i : Nat} {a : α}, as[i]? = some a → ∃ b, bs[i]? = some b ∧ R a b := by
  induction h with
  | nil => intro i a e; simp at e
  | cons x _ ih =>
    intro i a e
    cases i with
    | zero => simp at e; subst e; exact ⟨_, rfl, x⟩
    | succ i => simp at e; obtain ⟨b, h1, h2⟩ := ih e; exact ⟨b, by simpa using h1, h2⟩
theorem atR {as : List α} {bs : List β} (h : All2 R as bs) : ∀ {i : Nat} {b : β}, bs[i]? = some b → ∃ a, as[i]? = some a ∧ R a b := by
  induction h with
  | nil => intro i a e; simp at e
  | cons x _ ih =>
    intro i a e
    cases i with
    | zero => simp at e; subst e; exact ⟨_, rfl, x⟩
    | succ i => simp at e; obtain ⟨b, h1, h2⟩ := ih e; exact ⟨b, by simpa using h1, h2⟩
theorem app {as as' : List α} {bs bs' : List β} (h : All2 R as bs) (h' : All2 R as' bs') : All2 R (as ++ as') (bs ++ bs') := by
  induction h with
  | nil => exact h'
  | cons x _ ih => exact .cons x ih
theorem take {as : List α} {bs : List β} (h : All2 R as bs) : ∀ n, All2 R (as.take n) (bs.take n) := by
  induction h with
  | nil => intro n; cases n <;> exact .nil
  | cons x _ ih => intro n; cases n with
    | zero => exact .nil
    | succ n => exact .cons x (ih n)
theorem drop {as : List α} {bs : List β} (h : All2 R as bs) : ∀ n, All2 R (as.drop n) (bs.drop n) := by
  induction h with
  | nil => intro n; cases n <;> exact .nil
  | cons x y ih => intro n; cases n with
    | zero => exact .cons x y
    | succ n => exact ih n
theorem set {as : List α} {bs : List β} {a : α} {b : β} (h : All2 R as bs) (r : R a b) : ∀ n, All2 R (as.set n a) (bs.set n b) := by
  induction h with
  | nil => intro n; exact .nil
  | cons x y ih => intro n; cases n with
    | zero => exact .cons r y
    | succ n => exact .cons x (ih n)
theorem rev {as : List α} {bs : List β} (h : All2 R as bs) : All2 R as.reverse bs.reverse := by
  induction h with
  | nil => exact .nil
  | cons x _ ih => rw [List.reverse_cons, List.reverse_cons]; exact ih.app (.cons x .nil)
theorem rep {as : List α} {bs : List β} (h : All2 R as bs) : ∀ k : Nat, All2 R (List.replicate k as).flatten (List.replicate k bs).flatten
  | 0 => .nil
  | k + 1 => by
    rw [List.replicate_succ, List.replicate_succ, List.flatten_cons, List.flatten_cons]
    exact h.app (rep h k)
theorem emp {as : List α} {bs : List β} (h : All2 R as bs) : as.isEmpty = bs.isEmpty := by
  cases h <;> rfl
end All2

/-! ### pure data -/
def kP : Key → PyData
  | .inl i => .int i
  | .inr x => .str x
/-- all that F tells H tells, too -/
def Sub (F H : Hp) : Prop := ∀ a o, F a = some o → H a = some o
theorem Sub.refl (F : Hp) : Sub F F := fun _ _ h => h
theorem Sub.trans {F G H : Hp} (a : Sub F G) (b : Sub G H) : Sub F H := fun c o h => b c o (a c o h)
section
variable (K : PySem.W.Frag) (F : Hp)
mutual
def Rp : PyData → V → Prop
  | .none, v => v = .non
  | .bool b, v => v = .bl b
  | .int i, v => v = .int i
  | .str x, v => v = .str x
  | .list ds, v => ∃ a xs, v = .ref a ∧ F a = some (.lst xs) ∧ RpA ds xs
  | .tuple ds, v => ∃ a xs, v = .ref a ∧ SqT K F a xs ∧ RpA ds xs
  | .dict kds, v => ∃ a ks, v = .ref a ∧ F a = some (.dK ks) ∧ RpK kds ks
def RpA : List PyData → List V → Prop
  | [], vs => vs = []
  | d :: ds, vs => ∃ x xs, vs = x :: xs ∧ Rp d x ∧ RpA ds xs
def RpK : List (PyData × PyData) → List (Key × V) → Prop
  | [], ks => ks = []
  | (k, d) :: kds, ks => ∃ q x xs, ks = (q, x) :: xs ∧ k = kP q ∧ Rp d x ∧ RpK kds xs
end
end
section
variable {K : PySem.W.Frag} {F G H : Hp}
theorem sqL_mono (s : Sub F G) {a : Addr} {xs : List V} (h : SqL K F a xs) : SqL K G a xs := by
  rcases h with (h | ⟨o, h⟩) | h
  · exact .inl (.inl (s _ _ h))
  · exact .inl (.inr ⟨o, s _ _ h⟩)
  · exact .inr h
theorem sqT_mono (s : Sub F G) {a : Addr} {xs : List V} (h : SqT K F a xs) : SqT K G a xs := by
  rcases h with (h | ⟨o, h⟩) | h
  · exact .inl (.inl (s _ _ h))
  · exact .inl (.inr ⟨o, s _ _ h⟩)
  · exact .inr h
mutual
theorem Rp.mono (s : Sub F G) : ∀ (d : PyData) {v : V}, Rp K F d v → Rp K G d v
  | .none, _, h => h
  | .bool _, _, h => h
  | .int _, _, h => h
  | .str _, _, h => h
  | .list ds, _, h => by
    unfold Rp at h ⊢
    obtain ⟨a, xs, e, h1, h2⟩ := h
    exact ⟨a, xs, e, s _ _ h1, RpA.mono s ds h2⟩
  | .tuple ds, _, h => by
    unfold Rp at h ⊢
    obtain ⟨a, xs, e, h1, h2⟩ := h
    exact ⟨a, xs, e, sqT_mono s h1, RpA.mono s ds h2⟩
  | .dict kds, _, h => by
    unfold Rp at h ⊢
    obtain ⟨a, xs, e, h1, h2⟩ := h
    exact ⟨a, xs, e, s _ _ h1, RpK.mono s kds h2⟩
theorem RpA.mono (s : Sub F G) : ∀ (ds : List PyData) {vs : List V}, RpA K F ds vs → RpA K G ds vs
  | [], _, h => h
  | d :: ds, _, h => by
    unfold RpA at h ⊢
    obtain ⟨x, xs, e, h1, h2⟩ := h
    exact ⟨x, xs, e, Rp.mono s d h1, RpA.mono s ds h2⟩
theorem RpK.mono (s : Sub F G) : ∀ (ds : List (PyData × PyData)) {vs : List (Key × V)}, RpK K F ds vs → RpK K G ds vs
  | [], _, h => h
  | (k, d) :: ds, _, h => by
    unfold RpK at h ⊢
    obtain ⟨q, x, xs, e, e2, h1, h2⟩ := h
    exact ⟨q, x, xs, e, e2, Rp.mono s d h1, RpK.mono s ds h2⟩
end
theorem rpA_iff : ∀ {ds : List PyData} {vs : List V}, RpA K F ds vs ↔ All2 (Rp K F) ds vs
  | [], vs => by
    unfold RpA
    constructor
    · rintro rfl; exact .nil
    · intro h; cases h; rfl
  | d :: ds, vs => by
    unfold RpA
    constructor
    · rintro ⟨x, xs, rfl, h1, h2⟩; exact .cons h1 (rpA_iff.mp h2)
    · intro h; cases h with
      | cons a b => exact ⟨_, _, rfl, a, rpA_iff.mpr b⟩
/-- a datum whose own object stands in H, what it holds in F -/
def Rt (K : PySem.W.Frag) (H F : Hp) : PyData → V → Prop
  | .none, v => v = .non
  | .bool b, v => v = .bl b
  | .int i, v => v = .int i
  | .str x, v => v = .str x
  | .list ds, v => ∃ a xs, v = .ref a ∧ H a = some (.lst xs) ∧ RpA K F ds xs
  | .tuple ds, v => ∃ a xs, v = .ref a ∧ SqT K F a xs ∧ RpA K F ds xs
  | .dict kds, v => ∃ a ks, v = .ref a ∧ H a = some (.dK ks) ∧ RpK K F kds ks
theorem Rp.top (s : Sub F H) {d : PyData} {v : V} (h : Rp K F d v) : Rt K H F d v := by
  cases d <;> unfold Rp at h <;> unfold Rt
  · exact h
  · exact h
  · exact h
  · exact h
  · obtain ⟨a, xs, e, h1, h2⟩ := h; exact ⟨a, xs, e, s _ _ h1, h2⟩
  · exact h
  · obtain ⟨a, xs, e, h1, h2⟩ := h; exact ⟨a, xs, e, s _ _ h1, h2⟩
theorem Rt.full (s : Sub F H) {d : PyData} {v : V} (h : Rt K H F d v) : Rp K H d v := by
  cases d <;> unfold Rt at h <;> unfold Rp
  · exact h
  · exact h
  · exact h
  · exact h
  · obtain ⟨a, xs, e, h1, h2⟩ := h; exact ⟨a, xs, e, h1, RpA.mono s _ h2⟩
  · obtain ⟨a, xs, e, h1, h2⟩ := h; exact ⟨a, xs, e, sqT_mono s h1, RpA.mono s _ h2⟩
  · obtain ⟨a, xs, e, h1, h2⟩ := h; exact ⟨a, xs, e, h1, RpK.mono s _ h2⟩
end

/-! ### what the library's rules over data want -/
theorem readsAll_paired {h : Heap} {ds : List PyData} {us : List Value} (a : All2 (fun d u => ∃ as, Reads h u d as) ds us) : ∃ as, ReadsAll h us ds as := by
  induction a with
  | nil => exact ⟨_, .nil⟩
  | cons x _ ih =>
    obtain ⟨as, q⟩ := x
    obtain ⟨bs, q2⟩ := ih
    exact ⟨_, .cons q q2⟩
section
variable {X : Cx} {pins : List (Addr × Obj)} {σ : L2.St} {H : Hp} {s : Shared}
theorem keyReads {q : Key} {u : Value} {h : Heap} (r : keyIs q u = true) : ∃ as, Reads h u (kP q) as := by
  rcases keyIs_shape r with ⟨i, t, rfl, rfl⟩ | ⟨x, t, rfl, rfl⟩
  · exact ⟨_, .int i t⟩
  · exact ⟨_, .str x t⟩
mutual
theorem Rp.reads (I : Inv X pins σ H s) : ∀ (d : PyData) {v : V} {u : Value}, Rp X.K H d v → RelV v u → ∃ as, Reads s.heap u d as
  | .none, v, u, h, r => by
    unfold Rp at h; subst h; cases r; exact ⟨_, .none⟩
  | .bool b, v, u, h, r => by
    unfold Rp at h; subst h; cases r; exact ⟨_, .bool b⟩
  | .int i, v, u, h, r => by
    unfold Rp at h; subst h; obtain ⟨t, rfl⟩ := r; exact ⟨_, .int i t⟩
  | .str x, v, u, h, r => by
    unfold Rp at h; subst h; obtain ⟨t, rfl⟩ := r; exact ⟨_, .str x t⟩
  | .list ds, v, u, h, r => by
    unfold Rp at h
    obtain ⟨a, xs, rfl, h1, h2⟩ := h
    cases r
    obtain ⟨its, rv, ⟨o, n, ho, hc, _, hd⟩, _⟩ := I.list (SqL.of h1)
    obtain ⟨as, q⟩ := RpA.reads I ds h2 rv
    exact ⟨_, .list ho hc hd (by simpa using q)⟩
  | .tuple ds, v, u, h, r => by
    unfold Rp at h
    obtain ⟨a, xs, rfl, h1, h2⟩ := h
    cases r
    obtain ⟨its, rv, ⟨o, ho, hc, n, hd⟩, _⟩ := I.tuple h1
    obtain ⟨as, q⟩ := RpA.reads I ds h2 rv
    exact ⟨_, .tuple ho hc hd (by simpa using q)⟩
  | .dict kds, v, u, h, r => by
    unfold Rp at h
    obtain ⟨a, ks, rfl, h1, h2⟩ := h
    cases r
    obtain ⟨_, _, vs, kv, o, es, ep, ho, hx, hd, hk, he, _⟩ := (show ObjOk X.prog X.w H s.heap a (.dK ks) from I.hok a _ h1)
    obtain ⟨as, bs, q1, q2⟩ := RpK.reads I kds h2 kv he
    exact ⟨_, .dict ho hx.1 hd q1 q2⟩
theorem RpA.reads (I : Inv X pins σ H s) : ∀ (ds : List PyData) {vs : List V} {us : List Value}, RpA X.K H ds vs → Vals vs us → ∃ as, ReadsAll s.heap us ds as
  | [], vs, us, h, r => by
    unfold RpA at h; subst h; cases r; exact ⟨_, .nil⟩
  | d :: ds, vs, us, h, r => by
    unfold RpA at h
    obtain ⟨x, xs, rfl, h1, h2⟩ := h
    cases r with
    | cons r1 r2 =>
      obtain ⟨as, q1⟩ := Rp.reads I d h1 r1
      obtain ⟨bs, q2⟩ := RpA.reads I ds h2 r2
      exact ⟨_, .cons q1 q2⟩
theorem RpK.reads (I : Inv X pins σ H s) : ∀ (ds : List (PyData × PyData)) {ks : List (Key × V)} {vs : List (Key × Value)} {es : List DictEntry}, RpK X.K H ds ks → KV ks vs → Pairs (mixKind X.prog X.w) es vs →
    ∃ as bs, ReadsAll s.heap (es.map (·.key)) (ds.map (·.1)) as ∧ ReadsAll s.heap (es.map (·.val)) (ds.map (·.2)) bs
  | [], ks, vs, es, h, r, p => by
    unfold RpK at h; subst h; cases r; cases p; exact ⟨_, _, .nil, .nil⟩
  | (k, d) :: ds, ks, vs, es, h, r, p => by
    unfold RpK at h
    obtain ⟨q, x, xs, rfl, rfl, h1, h2⟩ := h
    cases r with
    | cons r1 r2 =>
      cases p with
      | cons p1 p2 p3 =>
        obtain ⟨as, q1⟩ := Rp.reads I d h1 r1.2
        obtain ⟨bs, cs, q2, q3⟩ := RpK.reads I ds h2 r2 p3
        have e : q = _ := r1.1
        obtain ⟨as', q0⟩ := keyReads (h := s.heap) p1
        rw [← e] at q0
        rw [← p2] at q1
        exact ⟨_, _, .cons q0 q2, .cons q1 q3⟩
end
end

/-! ### worlds -/
/-- F: what is never written any more; mu: where the global store's objects stand; nu: the call's own -/
structure Wd where
  F : Hp
  mu : List Addr
  nu : List Addr
section
variable (K : PySem.W.Frag)
def Rv (w : Wd) : Val → V → Prop
  | .d x, v => Rp K w.F x v
  | .g n, v => ∃ a, w.mu[n]? = some a ∧ v = .ref a
  | .l n, v => ∃ a, w.nu[n]? = some a ∧ v = .ref a
  | .s ns, v => ∃ a, v = .ref a ∧ SqL K w.F a (ns.map V.int)
def Ro (w : Wd) (H : Hp) (a : Addr) : SO → Prop
  | .lst vs => w.F a = none ∧ ∃ xs, H a = some (.lst xs) ∧ All2 (Rv K w) vs xs
  | .dct kvs => w.F a = none ∧ ∃ ks, H a = some (.dK ks) ∧ RpK K w.F kvs ks
  | .frz x => Rp K w.F x (.ref a)
  | .ins _ _ => False
abbrev Rs (w : Wd) (H : Hp) : List SO → List Addr → Prop := All2 fun o a => Ro K w H a o
/-- from one state of a call to a later one -/
structure Le (w : Wd) (H : Hp) (w' : Wd) (H' : Hp) : Prop where
  f : Sub w.F w'.F
  fn : ∀ a o, w'.F a = some o → w.F a = some o ∨ H a = none ∨ a ∈ w.nu
  mu : ∃ r, w'.mu = w.mu ++ r ∧ ∀ a ∈ r, H a = none
  nu : ∃ r, w'.nu = w.nu ++ r ∧ ∀ a ∈ r, H a = none
  same : ∀ a o, H a = some o → a ∉ w.mu → a ∉ w.nu → H' a = some o
  trk : ∀ a, H a ≠ none → H' a ≠ none
/-- the state of a call, that began at w0, H0 -/
structure Rl (w0 : Wd) (H0 : Hp) (w : Wd) (e : Lv) (s : Sto) (σ : L2.St) (H : Hp) : Prop where
  le : Le w0 H0 w H
  fh : Sub w.F H
  nd : (w.mu ++ w.nu).Nodup
  tr : ∀ a ∈ w.mu ++ w.nu, H a ≠ none
  G : Rs K w H s.G w.mu
  L : Rs K w H s.L w.nu
  env : All2 (fun o p => ∀ v, o = some v → ∃ x, p = some x ∧ Rv K w v x) e σ
end
section
variable {K : PySem.W.Frag} {w w1 w2 w0 : Wd} {H H1 H2 H0 : Hp}
theorem Le.refl : Le w H w H := ⟨Sub.refl _, fun _ _ h => .inl h, ⟨[], by simp, by simp⟩, ⟨[], by simp, by simp⟩, fun _ _ h _ _ => h, fun _ h => h⟩
theorem Le.back (l : Le w H w1 H1) {a : Addr} (h : H1 a = none) : H a = none := by
  cases e : H a with
  | none => rfl
  | some o => exact absurd h (l.trk a (by rw [e]; simp))
theorem Le.trans (l : Le w H w1 H1) (m : Le w1 H1 w2 H2) : Le w H w2 H2 := by
  obtain ⟨r, e1, e2⟩ := l.mu
  obtain ⟨r', e3, e4⟩ := m.mu
  obtain ⟨q, f1, f2⟩ := l.nu
  obtain ⟨q', f3, f4⟩ := m.nu
  refine ⟨l.f.trans m.f, fun a o h => ?_, ⟨r ++ r', by rw [e3, e1, List.append_assoc], fun a ha => ?_⟩, ⟨q ++ q', by rw [f3, f1, List.append_assoc], fun a ha => ?_⟩, fun a o h h1 h2 => ?_, fun a h => m.trk a (l.trk a h)⟩
  · rcases m.fn a o h with z | z | z
    · exact l.fn a o z
    · exact .inr (.inl (l.back z))
    · rw [f1] at z
      rcases List.mem_append.mp z with z | z
      · exact .inr (.inr z)
      · exact .inr (.inl (f2 a z))
  · rcases List.mem_append.mp ha with z | z
    · exact e2 a z
    · exact l.back (e4 a z)
  · rcases List.mem_append.mp ha with z | z
    · exact f2 a z
    · exact l.back (f4 a z)
  · refine m.same a o (l.same a o h h1 h2) ?_ ?_
    · rw [e1]
      intro z
      rcases List.mem_append.mp z with z | z
      · exact h1 z
      · rw [e2 a z] at h; cases h
    · rw [f1]
      intro z
      rcases List.mem_append.mp z with z | z
      · exact h2 z
      · rw [f2 a z] at h; cases h
theorem Rv.mono (l : Le w H w1 H1) : ∀ {v : Val} {x : V}, Rv K w v x → Rv K w1 v x
  | .d d, x, h => Rp.mono l.f d h
  | .g n, x, ⟨a, h, e⟩ => by
    obtain ⟨r, e1, _⟩ := l.mu
    refine ⟨a, ?_, e⟩
    rw [e1]
    obtain ⟨hl, _⟩ := List.getElem?_eq_some_iff.mp h
    rw [List.getElem?_append_left hl]; exact h
  | .l n, x, ⟨a, h, e⟩ => by
    obtain ⟨r, e1, _⟩ := l.nu
    refine ⟨a, ?_, e⟩
    rw [e1]
    obtain ⟨hl, _⟩ := List.getElem?_eq_some_iff.mp h
    rw [List.getElem?_append_left hl]; exact h
  | .s ns, x, ⟨a, e, h⟩ => ⟨a, e, sqL_mono l.f h⟩
theorem Rvs.mono (l : Le w H w1 H1) {vs : List Val} {xs : List V} (h : All2 (Rv K w) vs xs) : All2 (Rv K w1) vs xs := h.imp fun _ _ => Rv.mono l
/-- an object that stands as it stood, in a later world in which it isn't frozen -/
theorem Ro.keep (l : Le w H w1 H1) {a : Addr} (eq : ∀ u, H a = some u → H1 a = some u) (hf : w.F a = none → w1.F a = none) : ∀ {o : SO}, Ro K w H a o → Ro K w1 H1 a o
  | .lst vs, ⟨h, xs, e, r⟩ => ⟨hf h, xs, eq _ e, Rvs.mono l r⟩
  | .dct kvs, ⟨h, ks, e, r⟩ => ⟨hf h, ks, eq _ e, RpK.mono l.f _ r⟩
  | .frz x, h => Rp.mono l.f x h
  | .ins _ _, h => h
/-- the same world, a later heap: something new is laid -/
theorem All2.mem {α β : Type} {R : α → β → Prop} {as : List α} {bs : List β} (h : All2 R as bs) {b : β} (hb : b ∈ bs) : ∃ a ∈ as, R a b := by
  induction h with
  | nil => cases hb
  | cons x _ ih =>
    rcases List.mem_cons.mp hb with rfl | hb
    · exact ⟨_, List.mem_cons_self, x⟩
    · obtain ⟨a, h1, h2⟩ := ih hb
      exact ⟨a, List.mem_cons_of_mem _ h1, h2⟩
theorem All2.impM {α β : Type} {R S : α → β → Prop} {as : List α} {bs : List β} (h : All2 R as bs) (f : ∀ a b, b ∈ bs → R a b → S a b) : All2 S as bs := by
  induction h with
  | nil => exact .nil
  | cons x _ ih => exact .cons (f _ _ List.mem_cons_self x) (ih fun a b hb => f a b (List.mem_cons_of_mem _ hb))
end

/-! ### steps of a call's state -/
section
variable {K : PySem.W.Frag} {w0 w : Wd} {H0 H : Hp} {e : Lv} {s : Sto} {σ : L2.St}
theorem sub_upd {F H : Hp} {p : Addr} {o : HO} (s : Sub F H) (h : H p = none) : Sub F (upd H p o) := fun a u q => by
  have z := s a u q
  rw [upd_ne (ne_of_none z h)]
  exact z
theorem sub_upd2 {F H : Hp} {p : Addr} {o : HO} (s : Sub F H) : Sub (upd F p o) (upd H p o) := fun a u q => by
  by_cases h : a = p
  · subst h; rw [upd_same] at q ⊢; exact q
  · rw [upd_ne h] at q ⊢; exact s a u q
/-- a new object that is never written: it is frozen at once -/
theorem Rl.new (R : Rl K w0 H0 w e s σ H) {p : Addr} {o : HO} (h : H p = none) :
    Rl K w0 H0 { w with F := upd w.F p o } e s σ (upd H p o) ∧ Le w H { w with F := upd w.F p o } (upd H p o) := by
  have hF : w.F p = none := by
    cases z : w.F p with
    | none => rfl
    | some u => rw [R.fh p u z] at h; cases h
  have l : Le w H { w with F := upd w.F p o } (upd H p o) := by
    refine ⟨sub_upd (Sub.refl _) hF, fun a u q => ?_, ⟨[], by simp, by simp⟩, ⟨[], by simp, by simp⟩, fun a u q _ _ => ?_, fun a q => ?_⟩
    · by_cases z : a = p
      · subst z; exact .inr (.inl h)
      · exact .inl (by rw [← q]; exact (upd_ne z).symm)
    · rw [upd_ne (ne_of_none q h)]; exact q
    · by_cases z : a = p
      · subst z; rw [upd_same]; simp
      · rw [upd_ne z]; exact q
  have np : ∀ a ∈ w.mu ++ w.nu, a ≠ p := fun a ha z => by subst z; exact R.tr a ha h
  refine ⟨⟨R.le.trans l, sub_upd2 R.fh, R.nd, fun a ha => l.trk a (R.tr a ha), ?_, ?_, ?_⟩, l⟩
  · exact R.G.impM fun o a ha r => r.keep l (fun u q => by rw [upd_ne (np a (List.mem_append_left _ ha))]; exact q) fun q => (upd_ne (np a (List.mem_append_left _ ha))).trans q
  · exact R.L.impM fun o a ha r => r.keep l (fun u q => by rw [upd_ne (np a (List.mem_append_right _ ha))]; exact q) fun q => (upd_ne (np a (List.mem_append_right _ ha))).trans q
  · exact R.env.imp fun o p h v q => by
      obtain ⟨x, h1, h2⟩ := h v q
      exact ⟨x, h1, h2.mono l⟩
end
end Ev

/-! steps of a call's state; reading and keeping values -/
namespace Ev
open PySem PySem.Spec PyProof.Rows L2
section
variable {K : PySem.W.Frag} {w0 w ws : Wd} {H0 H Hs : Hp} {e : Lv} {s : Sto} {σ : L2.St} {p : Addr} {o : HO}
theorem Le.freeze (l : Le ws Hs w H) (h : Hs p = none ∨ p ∈ ws.nu) (hF : w.F p = none) : Le ws Hs { w with F := upd w.F p o } H := by
  refine ⟨l.f.trans (sub_upd (Sub.refl _) hF), fun a u q => ?_, l.mu, l.nu, l.same, l.trk⟩
  by_cases z : a = p
  · subst z; exact .inr h
  · rw [show ({ w with F := upd w.F p o } : Wd).F a = w.F a from upd_ne z] at q
    exact l.fn a u q
theorem Le.adoptL (l : Le ws Hs w H) (h : Hs p = none) : Le ws Hs { w with nu := w.nu ++ [p] } H := by
  obtain ⟨r, e1, e2⟩ := l.nu
  refine ⟨l.f, l.fn, l.mu, ⟨r ++ [p], by show w.nu ++ [p] = _; rw [e1, List.append_assoc], fun a ha => ?_⟩, l.same, l.trk⟩
  rcases List.mem_append.mp ha with z | z
  · exact e2 a z
  · rw [List.mem_singleton.mp z]; exact h
theorem Le.adoptG (l : Le ws Hs w H) (h : Hs p = none) : Le ws Hs { w with mu := w.mu ++ [p] } H := by
  obtain ⟨r, e1, e2⟩ := l.mu
  refine ⟨l.f, l.fn, ⟨r ++ [p], by show w.mu ++ [p] = _; rw [e1, List.append_assoc], fun a ha => ?_⟩, l.nu, l.same, l.trk⟩
  rcases List.mem_append.mp ha with z | z
  · exact e2 a z
  · rw [List.mem_singleton.mp z]; exact h
/-- a heap that differs at one address alone, which the world doesn't know -/
theorem Le.scratch (l : Le ws Hs w H) (h : Hs p = none) : Le ws Hs w (upd H p o) := by
  refine ⟨l.f, l.fn, l.mu, l.nu, fun a u q h1 h2 => ?_, fun a q => ?_⟩
  · rw [upd_ne (ne_of_none q h)]; exact l.same a u q h1 h2
  · by_cases z : a = p
    · subst z; rw [upd_same]; simp
    · rw [upd_ne z]; exact l.trk a q
theorem Le.write (l : Le ws Hs w H) (h : p ∈ w.mu ∨ p ∈ w.nu) (hp : p ∈ ws.mu ∨ p ∈ ws.nu ∨ Hs p = none) : Le ws Hs w (upd H p o) := by
  refine ⟨l.f, l.fn, l.mu, l.nu, fun a u q h1 h2 => ?_, fun a q => ?_⟩
  · have z : a ≠ p := by
      rintro rfl
      rcases hp with z | z | z
      · exact h1 z
      · exact h2 z
      · rw [z] at q; cases q
    rw [upd_ne z]; exact l.same a u q h1 h2
  · by_cases z : a = p
    · subst z; rw [upd_same]; simp
    · rw [upd_ne z]; exact l.trk a q
/-- where an object of the stores comes from -/
theorem Le.from_ (l : Le ws Hs w H) (h : p ∈ w.mu ∨ p ∈ w.nu) : p ∈ ws.mu ∨ p ∈ ws.nu ∨ Hs p = none := by
  obtain ⟨r, e1, e2⟩ := l.mu
  obtain ⟨q, f1, f2⟩ := l.nu
  rcases h with h | h
  · rw [e1] at h
    rcases List.mem_append.mp h with z | z
    · exact .inl z
    · exact .inr (.inr (e2 p z))
  · rw [f1] at h
    rcases List.mem_append.mp h with z | z
    · exact .inr (.inl z)
    · exact .inr (.inr (f2 p z))
theorem Ro.congr {w' : Wd} {H' : Hp} {a : Addr} (eF : Sub w.F w'.F) (mu : ∃ r, w'.mu = w.mu ++ r) (nu : ∃ r, w'.nu = w.nu ++ r) (hH : ∀ u, H a = some u → H' a = some u) (hF : w.F a = none → w'.F a = none) : ∀ {o : SO}, Ro K w H a o → Ro K w' H' a o := by
  have rv : ∀ (v : Val) (x : V), Rv K w v x → Rv K w' v x := fun v x h => by
    cases v with
    | d d => exact Rp.mono eF d h
    | g n =>
      obtain ⟨a, h1, h2⟩ := h
      obtain ⟨r, e⟩ := mu
      refine ⟨a, ?_, h2⟩
      rw [e, List.getElem?_append_left (List.getElem?_eq_some_iff.mp h1).1]; exact h1
    | l n =>
      obtain ⟨a, h1, h2⟩ := h
      obtain ⟨r, e⟩ := nu
      refine ⟨a, ?_, h2⟩
      rw [e, List.getElem?_append_left (List.getElem?_eq_some_iff.mp h1).1]; exact h1
    | s ns =>
      obtain ⟨a, h1, h2⟩ := h
      exact ⟨a, h1, sqL_mono eF h2⟩
  intro o
  cases o with
  | lst vs => rintro ⟨h, xs, e, r⟩; exact ⟨hF h, xs, hH _ e, r.imp rv⟩
  | dct kvs => rintro ⟨h, ks, e, r⟩; exact ⟨hF h, ks, hH _ e, RpK.mono eF _ r⟩
  | frz x => exact fun h => Rp.mono eF x h
  | ins _ _ => exact fun h => h
theorem Rl.mono_env (R : Rl K w0 H0 w e s σ H) {w' : Wd} {H' : Hp} (l : Le w H w' H') : All2 (fun o p => ∀ v, o = some v → ∃ x, p = some x ∧ Rv K w' v x) e σ :=
  R.env.imp fun o p h v q => by
    obtain ⟨x, h1, h2⟩ := h v q
    exact ⟨x, h1, h2.mono l⟩
theorem Rl.freshF (R : Rl K w0 H0 w e s σ H) (h : H p = none) : w.F p = none := by
  cases z : w.F p with
  | none => rfl
  | some u => rw [R.fh p u z] at h; cases h
theorem Rl.freshS (R : Rl K w0 H0 w e s σ H) (h : H p = none) : p ∉ w.mu ++ w.nu := fun z => R.tr p z h
/-- an object that the world doesn't know is laid or written -/
theorem Rl.scratch (R : Rl K w0 H0 w e s σ H) (h0 : H0 p = none) (hF : w.F p = none) (hS : p ∉ w.mu ++ w.nu) : Rl K w0 H0 w e s σ (upd H p o) := by
  have ne : ∀ a ∈ w.mu ++ w.nu, a ≠ p := fun a ha z => hS (z ▸ ha)
  refine ⟨R.le.scratch h0, fun a u q => ?_, R.nd, fun a ha => by rw [upd_ne (ne a ha)]; exact R.tr a ha, ?_, ?_, R.env⟩
  · rw [upd_ne (by rintro rfl; rw [hF] at q; cases q)]; exact R.fh a u q
  · exact R.G.impM fun o' a ha r => r.congr (Sub.refl _) ⟨[], by simp⟩ ⟨[], by simp⟩ (fun u q => by rw [upd_ne (ne a (List.mem_append_left _ ha))]; exact q) fun q => q
  · exact R.L.impM fun o' a ha r => r.congr (Sub.refl _) ⟨[], by simp⟩ ⟨[], by simp⟩ (fun u q => by rw [upd_ne (ne a (List.mem_append_right _ ha))]; exact q) fun q => q
/-- an object that the world doesn't know is frozen -/
theorem Rl.freeze (R : Rl K w0 H0 w e s σ H) (h0 : H0 p = none) (hF : w.F p = none) (hS : p ∉ w.mu ++ w.nu) (hp : H p = some o) : Rl K w0 H0 { w with F := upd w.F p o } e s σ H := by
  have ne : ∀ a ∈ w.mu ++ w.nu, a ≠ p := fun a ha z => hS (z ▸ ha)
  have sF : Sub w.F (upd w.F p o) := sub_upd (Sub.refl _) hF
  refine ⟨R.le.freeze (.inl h0) hF, fun a u q => ?_, R.nd, R.tr, ?_, ?_, ?_⟩
  · by_cases z : a = p
    · subst z
      rw [show ({ w with F := upd w.F a o } : Wd).F a = some o from upd_same] at q
      cases q; exact hp
    · rw [show ({ w with F := upd w.F p o } : Wd).F a = w.F a from upd_ne z] at q
      exact R.fh a u q
  · exact R.G.impM fun o' a ha r => r.congr sF ⟨[], by simp⟩ ⟨[], by simp⟩ (fun u q => q) fun q => (upd_ne (ne a (List.mem_append_left _ ha))).trans q
  · exact R.L.impM fun o' a ha r => r.congr sF ⟨[], by simp⟩ ⟨[], by simp⟩ (fun u q => q) fun q => (upd_ne (ne a (List.mem_append_right _ ha))).trans q
  · exact R.env.imp fun o' q h v z => by
      obtain ⟨x, h1, h2⟩ := h v z
      refine ⟨x, h1, ?_⟩
      cases v with
      | d d => exact Rp.mono sF d h2
      | g n => exact h2
      | l n => exact h2
      | s ns =>
        obtain ⟨a, h1, h2⟩ := h2
        exact ⟨a, h1, sqL_mono sF h2⟩
/-- an object that the world doesn't know joins the call's own store -/
theorem Rl.adoptL (R : Rl K w0 H0 w e s σ H) (h0 : H0 p = none) (hS : p ∉ w.mu ++ w.nu) (hp : H p ≠ none) {so : SO} (r : Ro K { w with nu := w.nu ++ [p] } H p so) :
    Rl K w0 H0 { w with nu := w.nu ++ [p] } e { s with L := s.L ++ [so] } σ H := by
  have cg : ∀ {a : Addr} {o : SO}, Ro K w H a o → Ro K { w with nu := w.nu ++ [p] } H a o := fun {a o} h => Ro.congr (w := w) (w' := { w with nu := w.nu ++ [p] }) (Sub.refl _) ⟨[], by simp⟩ ⟨[p], rfl⟩ (fun _ q => q) (fun q => q) h
  refine ⟨R.le.adoptL h0, R.fh, ?_, fun a ha => ?_, R.G.imp fun _ _ h => cg h, (R.L.imp fun _ _ h => cg h).app (.cons r .nil), ?_⟩
  · show (w.mu ++ (w.nu ++ [p])).Nodup
    rw [← List.append_assoc, List.nodup_append]
    refine ⟨R.nd, by simp, fun a ha b hb => ?_⟩
    rw [List.mem_singleton.mp hb]
    rintro rfl
    exact hS ha
  · have ha : a ∈ w.mu ++ (w.nu ++ [p]) := ha
    rw [← List.append_assoc] at ha
    rcases List.mem_append.mp ha with z | z
    · exact R.tr a z
    · rw [List.mem_singleton.mp z]; exact hp
  · exact R.env.imp fun o' q h v z => by
      obtain ⟨x, h1, h2⟩ := h v z
      refine ⟨x, h1, ?_⟩
      cases v with
      | d d => exact h2
      | g n => exact h2
      | s ns => exact h2
      | l n =>
        obtain ⟨a, k1, k2⟩ := h2
        refine ⟨a, ?_, k2⟩
        show (w.nu ++ [p])[n]? = some a
        rw [List.getElem?_append_left (List.getElem?_eq_some_iff.mp k1).1]; exact k1
theorem Rl.adoptG (R : Rl K w0 H0 w e s σ H) (h0 : H0 p = none) (hS : p ∉ w.mu ++ w.nu) (hp : H p ≠ none) {so : SO} (r : Ro K { w with mu := w.mu ++ [p] } H p so) :
    Rl K w0 H0 { w with mu := w.mu ++ [p] } e { s with G := s.G ++ [so] } σ H := by
  have cg : ∀ {a : Addr} {o : SO}, Ro K w H a o → Ro K { w with mu := w.mu ++ [p] } H a o := fun {a o} h => Ro.congr (w := w) (w' := { w with mu := w.mu ++ [p] }) (Sub.refl _) ⟨[p], rfl⟩ ⟨[], by simp⟩ (fun _ q => q) (fun q => q) h
  refine ⟨R.le.adoptG h0, R.fh, ?_, fun a ha => ?_, (R.G.imp fun _ _ h => cg h).app (.cons r .nil), R.L.imp fun _ _ h => cg h, ?_⟩
  · show ((w.mu ++ [p]) ++ w.nu).Nodup
    have nd := R.nd
    rw [List.nodup_append] at nd ⊢
    obtain ⟨n1, n2, n3⟩ := nd
    refine ⟨?_, n2, fun a ha b hb => ?_⟩
    · rw [List.nodup_append]
      refine ⟨n1, by simp, fun a ha b hb => ?_⟩
      rw [List.mem_singleton.mp hb]
      rintro rfl
      exact hS (List.mem_append_left _ ha)
    · rcases List.mem_append.mp ha with z | z
      · exact n3 a z b hb
      · rw [List.mem_singleton.mp z]
        rintro rfl
        exact hS (List.mem_append_right _ hb)
  · have ha : a ∈ (w.mu ++ [p]) ++ w.nu := ha
    rcases List.mem_append.mp ha with z | z
    · rcases List.mem_append.mp z with z | z
      · exact R.tr a (List.mem_append_left _ z)
      · rw [List.mem_singleton.mp z]; exact hp
    · exact R.tr a (List.mem_append_right _ z)
  · exact R.env.imp fun o' q h v z => by
      obtain ⟨x, h1, h2⟩ := h v z
      refine ⟨x, h1, ?_⟩
      cases v with
      | d d => exact h2
      | l n => exact h2
      | s ns => exact h2
      | g n =>
        obtain ⟨a, k1, k2⟩ := h2
        refine ⟨a, ?_, k2⟩
        show (w.mu ++ [p])[n]? = some a
        rw [List.getElem?_append_left (List.getElem?_eq_some_iff.mp k1).1]; exact k1
theorem nodup_at {l : List Addr} (nd : l.Nodup) {i j : Nat} {a : Addr} (h1 : l[i]? = some a) (h2 : l[j]? = some a) : i = j := by
  obtain ⟨k1, e1⟩ := List.getElem?_eq_some_iff.mp h1
  obtain ⟨k2, e2⟩ := List.getElem?_eq_some_iff.mp h2
  exact (List.getElem_inj nd).mp (e1.trans e2.symm)
theorem All2.setM {α β : Type} {R S : α → β → Prop} : ∀ {as : List α} {bs : List β} {n : Nat} {a : α} {b : β}, All2 R as bs → bs[n]? = some b → S a b → (∀ x y i, i ≠ n → bs[i]? = some y → R x y → S x y) → All2 S (as.set n a) bs
  | _, _, n, a, b, .nil, e, _, _ => by simp at e
  | _, _, 0, a, b, .cons x y, e, r, f => by
    simp at e; subst e
    exact .cons r (y.impM fun c d hd q => by
      obtain ⟨i, hi, e⟩ := List.mem_iff_getElem.mp hd
      exact f c d (i + 1) (by omega) (by simp [List.getElem?_eq_getElem hi, e]) q)
  | _, _, n + 1, a, b, .cons x y, e, r, f => by
    refine .cons (f _ _ 0 (by omega) (by simp) x) ?_
    exact All2.setM y (by simpa using e) r fun c d i hi h q => f c d (i + 1) (by omega) (by simpa using h) q
/-- an object of the call's own store is frozen -/
theorem Rl.frzL (R : Rl K w0 H0 w e s σ H) {n : Nat} (hn : w.nu[n]? = some p) (h0 : H0 p = none ∨ p ∈ w0.nu) (hF : w.F p = none) (hp : H p = some o) {x : PyData} (hx : Rp K (upd w.F p o) x (.ref p)) :
    Rl K w0 H0 { w with F := upd w.F p o } e { s with L := s.L.set n (.frz x) } σ H := by
  have sF : Sub w.F (upd w.F p o) := sub_upd (Sub.refl _) hF
  have hm : p ∈ w.nu := List.mem_of_getElem? hn
  have nd := List.nodup_append.mp R.nd
  refine ⟨R.le.freeze h0 hF, fun a u q => ?_, R.nd, R.tr, ?_, ?_, ?_⟩
  · by_cases z : a = p
    · subst z
      rw [show ({ w with F := upd w.F a o } : Wd).F a = some o from upd_same] at q
      cases q; exact hp
    · rw [show ({ w with F := upd w.F p o } : Wd).F a = w.F a from upd_ne z] at q
      exact R.fh a u q
  · refine R.G.impM fun o' a ha r => r.congr sF ⟨[], by simp⟩ ⟨[], by simp⟩ (fun u q => q) fun q => (upd_ne ?_).trans q
    exact nd.2.2 a ha p hm
  · refine All2.setM R.L hn hx fun o' a i hi ha r => r.congr sF ⟨[], by simp⟩ ⟨[], by simp⟩ (fun u q => q) fun q => (upd_ne ?_).trans q
    rintro rfl
    exact hi (nodup_at nd.2.1 ha hn)
  · exact R.env.imp fun o' q h v z => by
      obtain ⟨x, h1, h2⟩ := h v z
      refine ⟨x, h1, ?_⟩
      cases v with
      | d d => exact Rp.mono sF d h2
      | g n => exact h2
      | l n => exact h2
      | s ns =>
        obtain ⟨a, h1, h2⟩ := h2
        exact ⟨a, h1, sqL_mono sF h2⟩
/-- an object of the stores is written -/
theorem Rl.wrL (R : Rl K w0 H0 w e s σ H) {n : Nat} (hn : w.nu[n]? = some p) (hF : w.F p = none) {so : SO} (hs : Ro K w (upd H p o) p so) : Rl K w0 H0 w e { s with L := s.L.set n so } σ (upd H p o) := by
  have hm : p ∈ w.nu := List.mem_of_getElem? hn
  have nd := List.nodup_append.mp R.nd
  refine ⟨R.le.write (.inr hm) (R.le.from_ (.inr hm)), fun a u q => ?_, R.nd, fun a ha => ?_, ?_, ?_, R.env⟩
  · rw [upd_ne (by rintro rfl; rw [hF] at q; cases q)]; exact R.fh a u q
  · by_cases z : a = p
    · subst z; rw [upd_same]; simp
    · rw [upd_ne z]; exact R.tr a ha
  · exact R.G.impM fun o' a ha r => r.congr (Sub.refl _) ⟨[], by simp⟩ ⟨[], by simp⟩ (fun u q => by rw [upd_ne (nd.2.2 a ha p hm)]; exact q) fun q => q
  · refine All2.setM R.L hn hs fun o' a i hi ha r => r.congr (Sub.refl _) ⟨[], by simp⟩ ⟨[], by simp⟩ (fun u q => ?_) fun q => q
    rw [upd_ne (by rintro rfl; exact hi (nodup_at nd.2.1 ha hn))]; exact q
theorem Rl.wrG (R : Rl K w0 H0 w e s σ H) {n : Nat} (hn : w.mu[n]? = some p) (hF : w.F p = none) {so : SO} (hs : Ro K w (upd H p o) p so) : Rl K w0 H0 w e { s with G := s.G.set n so } σ (upd H p o) := by
  have hm : p ∈ w.mu := List.mem_of_getElem? hn
  have nd := List.nodup_append.mp R.nd
  refine ⟨R.le.write (.inl hm) (R.le.from_ (.inl hm)), fun a u q => ?_, R.nd, fun a ha => ?_, ?_, ?_, R.env⟩
  · rw [upd_ne (by rintro rfl; rw [hF] at q; cases q)]; exact R.fh a u q
  · by_cases z : a = p
    · subst z; rw [upd_same]; simp
    · rw [upd_ne z]; exact R.tr a ha
  · refine All2.setM R.G hn hs fun o' a i hi ha r => r.congr (Sub.refl _) ⟨[], by simp⟩ ⟨[], by simp⟩ (fun u q => ?_) fun q => q
    rw [upd_ne (by rintro rfl; exact hi (nodup_at nd.1 ha hn))]; exact q
  · exact R.L.impM fun o' a ha r => r.congr (Sub.refl _) ⟨[], by simp⟩ ⟨[], by simp⟩ (fun u q => by rw [upd_ne (Ne.symm (nd.2.2 p hm a ha))]; exact q) fun q => q

/-! ### reading -/
theorem valsD_all : ∀ {vs : List Val} {ds : List PyData} {xs : List V}, valsD vs = some ds → All2 (Rv K w) vs xs → RpA K w.F ds xs
  | [], ds, xs, h, a => by
    cases a
    have e : [] = ds := Option.some.inj h
    subst e
    unfold RpA; rfl
  | v :: vs, ds, xs, h, a => by
    cases a with
    | cons r a =>
      unfold valsD at h
      cases v with
      | d x =>
        cases q : valsD vs with
        | none => rw [q] at h; cases h
        | some xs' =>
          rw [q] at h
          have e : x :: xs' = ds := Option.some.inj h
          subst e
          unfold RpA
          exact ⟨_, _, rfl, r, valsD_all q a⟩
      | g n => cases h
      | l n => cases h
      | s ns => cases h
theorem Ro.read {a : Addr} (s : Sub w.F H) : ∀ {so : SO} {d : PyData}, Ro K w H a so → readO so = some d → Rt K H w.F d (.ref a)
  | .lst vs, d, ⟨_, xs, e, r⟩, h => by
    have h : (valsD vs).map PyData.list = some d := h
    cases q : valsD vs with
    | none => rw [q] at h; cases h
    | some ds =>
      rw [q] at h
      have e2 : PyData.list ds = d := Option.some.inj h
      subst e2
      exact ⟨a, xs, rfl, e, valsD_all q r⟩
  | .dct kvs, d, ⟨_, ks, e, r⟩, h => by
    have e2 : PyData.dict kvs = d := Option.some.inj h
    subst e2
    exact ⟨a, ks, rfl, e, r⟩
  | .frz x, d, h, h2 => by
    have e2 : x = d := Option.some.inj h2
    subst e2
    exact Rp.top s h
theorem Rl.obj (R : Rl K w0 H0 w e s σ H) {v : Val} {x : V} (r : Rv K w v x) {so : SO} (h : getO v s = some so) : ∃ a, x = .ref a ∧ Ro K w H a so := by
  cases v with
  | d d => cases h
  | s ns => cases h
  | g n =>
    obtain ⟨a, h1, h2⟩ := r
    obtain ⟨b, h3, h4⟩ := R.G.at_ (show s.G[n]? = some so from h)
    rw [h1] at h3; cases h3
    exact ⟨a, h2, h4⟩
  | l n =>
    obtain ⟨a, h1, h2⟩ := r
    obtain ⟨b, h3, h4⟩ := R.L.at_ (show s.L[n]? = some so from h)
    rw [h1] at h3; cases h3
    exact ⟨a, h2, h4⟩
theorem peek_rt (R : Rl K w0 H0 w e s σ H) {v : Val} {x : V} {d : PyData} {s' : Sto} (r : Rv K w v x) (h : peek v s = some (d, s')) : s' = s ∧ Rt K H w.F d x := by
  cases v with
  | d y =>
    have e2 : (y, s) = (d, s') := Option.some.inj h
    cases e2
    exact ⟨rfl, Rp.top R.fh r⟩
  | s ns => cases h
  | g n =>
    cases q : getO (.g n) s with
    | none => unfold peek at h; simp only [q] at h; cases h
    | some so =>
      unfold peek at h
      simp only [q, Option.bind_some] at h
      cases q2 : readO so with
      | none => rw [q2] at h; cases h
      | some y =>
        rw [q2] at h
        have e2 : (y, s) = (d, s') := Option.some.inj h
        cases e2
        obtain ⟨a, rfl, ro⟩ := R.obj r q
        exact ⟨rfl, ro.read R.fh q2⟩
  | l n =>
    cases q : getO (.l n) s with
    | none => unfold peek at h; simp only [q] at h; cases h
    | some so =>
      unfold peek at h
      simp only [q, Option.bind_some] at h
      cases q2 : readO so with
      | none => rw [q2] at h; cases h
      | some y =>
        rw [q2] at h
        have e2 : (y, s) = (d, s') := Option.some.inj h
        cases e2
        obtain ⟨a, rfl, ro⟩ := R.obj r q
        exact ⟨rfl, ro.read R.fh q2⟩
/-- an object that is kept: from now on it is pure data -/
theorem keep_ok (hw : w0.nu = []) (R : Rl K w0 H0 w e s σ H) {v : Val} {x : V} {d : PyData} {s' : Sto} (r : Rv K w v x) (h : Ev.keep v s = some (d, s')) :
    ∃ w', Rl K w0 H0 w' e s' σ H ∧ Le w H w' H ∧ Rp K w'.F d x := by
  cases v with
  | d y =>
    have e2 : (y, s) = (d, s') := Option.some.inj h
    cases e2
    exact ⟨w, R, .refl, r⟩
  | g n => cases h
  | s ns => cases h
  | l n =>
    unfold Ev.keep at h
    cases q : s.L[n]? with
    | none => simp only [q] at h; cases h
    | some so =>
      simp only [q, Option.bind_some] at h
      obtain ⟨a, rfl, ro⟩ := R.obj r (so := so) (show getO (.l n) s = some so from q)
      obtain ⟨a', h1, h2⟩ := r
      cases h2
      have hm : a ∈ w.nu := List.mem_of_getElem? h1
      have h0 : H0 a = none := by
        obtain ⟨q', f1, f2⟩ := R.le.nu
        rw [hw, List.nil_append] at f1
        rw [f1] at hm
        exact f2 a hm
      cases q2 : readO so with
      | none => rw [q2] at h; cases h
      | some y =>
        rw [q2] at h
        have e2 : (y, { s with L := s.L.set n (.frz y) }) = (d, s') := Option.some.inj h
        cases e2
        cases so with
        | lst vs =>
          obtain ⟨hF, xs, hx, hr⟩ := ro
          have q2 : (valsD vs).map PyData.list = some d := q2
          cases q3 : valsD vs with
          | none => rw [q3] at q2; cases q2
          | some ds =>
            rw [q3] at q2
            have e3 : PyData.list ds = d := Option.some.inj q2
            subst e3
            have sF : Sub w.F (upd w.F a (.lst xs)) := sub_upd (Sub.refl _) hF
            have hx' : Rp K (upd w.F a (.lst xs)) (.list ds) (.ref a) := by
              unfold Rp
              exact ⟨a, xs, rfl, upd_same, RpA.mono sF ds (valsD_all q3 hr)⟩
            exact ⟨_, R.frzL h1 (.inl h0) hF hx hx', Le.refl.freeze (.inr hm) hF, hx'⟩
        | dct kvs =>
          obtain ⟨hF, ks, hx, hr⟩ := ro
          have e3 : PyData.dict kvs = d := Option.some.inj q2
          subst e3
          have sF : Sub w.F (upd w.F a (.dK ks)) := sub_upd (Sub.refl _) hF
          have hx' : Rp K (upd w.F a (.dK ks)) (.dict kvs) (.ref a) := by
            unfold Rp
            exact ⟨a, ks, rfl, upd_same, RpK.mono sF _ hr⟩
          exact ⟨_, R.frzL h1 (.inl h0) hF hx hx', Le.refl.freeze (.inr hm) hF, hx'⟩
        | frz z =>
          have e3 : z = d := Option.some.inj q2
          subst e3
          refine ⟨w, ⟨R.le, R.fh, R.nd, R.tr, R.G, ?_, R.env⟩, .refl, ro⟩
          exact All2.setM R.L h1 ro fun _ _ _ _ _ h => h
        | ins _ _ => cases q2
theorem keepV_ok (hw : w0.nu = []) (R : Rl K w0 H0 w e s σ H) {v v' : Val} {x : V} {s' : Sto} (r : Rv K w v x) (h : keepV v s = some (v', s')) :
    ∃ w', Rl K w0 H0 w' e s' σ H ∧ Le w H w' H ∧ Rv K w' v' x ∧ ∀ n, v' ≠ .l n := by
  cases v with
  | g n =>
    have e2 : (Val.g n, s) = (v', s') := Option.some.inj h
    cases e2
    exact ⟨w, R, .refl, r, fun _ z => by cases z⟩
  | s ns =>
    have e2 : (Val.s ns, s) = (v', s') := Option.some.inj h
    cases e2
    exact ⟨w, R, .refl, r, fun _ z => by cases z⟩
  | d y =>
    obtain ⟨d, s1, h1, h2⟩ := bd_inv (m := Ev.keep (.d y)) (f := fun x => rt (Val.d x)) (s := s) (s2 := s') (b := v') h
    have e2 : (Val.d d, s1) = (v', s') := Option.some.inj h2
    cases e2
    obtain ⟨w', R', l, rp⟩ := keep_ok hw R r h1
    exact ⟨w', R', l, rp, fun _ z => by cases z⟩
  | l n =>
    obtain ⟨d, s1, h1, h2⟩ := bd_inv (m := Ev.keep (.l n)) (f := fun x => rt (Val.d x)) (s := s) (s2 := s') (b := v') h
    have e2 : (Val.d d, s1) = (v', s') := Option.some.inj h2
    cases e2
    obtain ⟨w', R', l, rp⟩ := keep_ok hw R r h1
    exact ⟨w', R', l, rp, fun _ z => by cases z⟩
theorem keeps_ok (hw : w0.nu = []) : ∀ {vs : List Val} {xs : List V} {ds : List PyData} {w : Wd} {s s' : Sto}, Rl K w0 H0 w e s σ H → All2 (Rv K w) vs xs → keeps vs s = some (ds, s') →
    ∃ w', Rl K w0 H0 w' e s' σ H ∧ Le w H w' H ∧ RpA K w'.F ds xs
  | [], xs, ds, w, s, s', R, a, h => by
    cases a
    have e2 : (([] : List PyData), s) = (ds, s') := Option.some.inj h
    cases e2
    exact ⟨w, R, .refl, by unfold RpA; rfl⟩
  | v :: vs, xs, ds, w, s, s', R, a, h => by
    cases a with
    | cons r a =>
      obtain ⟨d, s1, h1, h2⟩ := bd_inv (m := Ev.keep v) (f := fun x => bd (keeps vs) fun xs => rt (x :: xs)) h
      obtain ⟨w1, R1, l1, r1⟩ := keep_ok hw R r h1
      obtain ⟨ds', s2, h3, h4⟩ := bd_inv h2
      obtain ⟨w2, R2, l2, r2⟩ := keeps_ok hw R1 (Rvs.mono l1 a) h3
      have e2 : (d :: ds', s2) = (ds, s') := Option.some.inj h4
      cases e2
      refine ⟨w2, R2, l1.trans l2, ?_⟩
      unfold RpA
      exact ⟨_, _, rfl, Rp.mono l2.f _ r1, r2⟩
theorem keepVs_ok (hw : w0.nu = []) : ∀ {vs vs' : List Val} {xs : List V} {w : Wd} {s s' : Sto}, Rl K w0 H0 w e s σ H → All2 (Rv K w) vs xs → keepVs vs s = some (vs', s') →
    ∃ w', Rl K w0 H0 w' e s' σ H ∧ Le w H w' H ∧ All2 (Rv K w') vs' xs ∧ ∀ v ∈ vs', ∀ n, v ≠ .l n
  | [], vs', xs, w, s, s', R, a, h => by
    cases a
    have e2 : (([] : List Val), s) = (vs', s') := Option.some.inj h
    cases e2
    exact ⟨w, R, .refl, .nil, fun v hv => by cases hv⟩
  | v :: vs, vs', xs, w, s, s', R, a, h => by
    cases a with
    | cons r a =>
      obtain ⟨d, s1, h1, h2⟩ := bd_inv (m := keepV v) (f := fun x => bd (keepVs vs) fun xs => rt (x :: xs)) h
      obtain ⟨w1, R1, l1, r1, n1⟩ := keepV_ok hw R r h1
      obtain ⟨ds', s2, h3, h4⟩ := bd_inv h2
      obtain ⟨w2, R2, l2, r2, n2⟩ := keepVs_ok hw R1 (Rvs.mono l1 a) h3
      have e2 : (d :: ds', s2) = (vs', s') := Option.some.inj h4
      cases e2
      refine ⟨w2, R2, l1.trans l2, .cons (r1.mono l2) r2, fun v hv => ?_⟩
      rcases List.mem_cons.mp hv with rfl | hv
      · exact n1
      · exact n2 v hv
end
end Ev

/-! the operations, by values -/
namespace Ev
open PySem PySem.Spec PyProof.Rows L2
/-- what holds all through a call -/
structure Cn (X : Cx) : Prop where
  calm : X.calm = true
  un : X.A.units + 200 < cLine
section
variable {X : Cx} {pins : List (Addr × Obj)} {σ si : L2.St} {H : Hp} {sh : Shared} {w0 w : Wd} {H0 : Hp} {e : Lv} {s : Sto} {Q : VK}
/-- what is wanted of a result that is pure data -/
def Kd (K : PySem.W.Frag) (w0 : Wd) (H0 : Hp) (w : Wd) (e : Lv) (s : Sto) (σ : L2.St) (H : Hp) (d : PyData) (Q : VK) : Prop :=
  ∀ w' z H', Rl K w0 H0 w' e s σ H' → Le w H w' H' → Rp K w'.F d z → Q z H'
theorem Kd.here {K : PySem.W.Frag} {d : PyData} {z : V} (k : Kd K w0 H0 w e s σ H d Q) (R : Rl K w0 H0 w e s σ H) (r : Rp K w.F d z) : Q z H := k w z H R .refl r
theorem Kd.tup {K : PySem.W.Frag} {ds : List PyData} {xs : List V} (k : Kd K w0 H0 w e s σ H (.tuple ds) Q) (R : Rl K w0 H0 w e s σ H) (r : RpA K w.F ds xs) : ∀ p, H p = none → Q (.ref p) (upd H p (.tup xs)) := fun p hp => by
  obtain ⟨R', l⟩ := R.new (o := .tup xs) hp
  refine k _ _ _ R' l ?_
  unfold Rp
  exact ⟨p, xs, rfl, SqT.of upd_same, RpA.mono l.f ds r⟩
theorem Kd.lst {K : PySem.W.Frag} {ds : List PyData} {xs : List V} (k : Kd K w0 H0 w e s σ H (.list ds) Q) (R : Rl K w0 H0 w e s σ H) (r : RpA K w.F ds xs) : ∀ p, H p = none → Q (.ref p) (upd H p (.lst xs)) := fun p hp => by
  obtain ⟨R', l⟩ := R.new (o := .lst xs) hp
  refine k _ _ _ R' l ?_
  unfold Rp
  exact ⟨p, xs, rfl, upd_same, RpA.mono l.f ds r⟩
theorem rpA_len {K : PySem.W.Frag} {F : Hp} {ds : List PyData} {xs : List V} (r : RpA K F ds xs) : ds.length = xs.length := (rpA_iff.mp r).len
theorem small_ok {i : Int} (h : small i = true) : -(2 ^ 64) < i ∧ i < 2 ^ 64 := by
  unfold small at h
  simpa [Bool.and_eq_true] using h
theorem size_line : (sizeLine : Nat) = 16777216 := sizeLine_eq
theorem rp_int {K : PySem.W.Frag} {F : Hp} {i : Int} : Rp K F (.int i) (.int i) := by unfold Rp; rfl
theorem rp_bool {K : PySem.W.Frag} {F : Hp} {b : Bool} : Rp K F (.bool b) (.bl b) := by unfold Rp; rfl
theorem rp_none {K : PySem.W.Frag} {F : Hp} : Rp K F .none .non := by unfold Rp; rfl
theorem rp_str {K : PySem.W.Frag} {F : Hp} {x : Str} : Rp K F (.str x) (.str x) := by unfold Rp; rfl
theorem Kd.int {K : PySem.W.Frag} {i : Int} {d : PyData} (k : Kd K w0 H0 w e s σ H d Q) (R : Rl K w0 H0 w e s σ H) (h : some (PyData.int i) = some d) : Q (.int i) H := k.here R (Option.some.inj h ▸ rp_int)
theorem Kd.bool {K : PySem.W.Frag} {i : Bool} {d : PyData} (k : Kd K w0 H0 w e s σ H d Q) (R : Rl K w0 H0 w e s σ H) (h : some (PyData.bool i) = some d) : Q (.bl i) H := k.here R (Option.some.inj h ▸ rp_bool)
theorem bin_ok {o : Operator} {x y : V} {v u : Value} {a b d : PyData} (C : Cn X) (I : Inv X pins si H sh) (rx : RelV x v) (ry : RelV y u) (R : Rl X.K w0 H0 w e s σ H)
    (hx : Rt X.K H w.F a x) (hy : Rt X.K H w.F b y) (h : binD o a b = some d) (k : Kd X.K w0 H0 w e s σ H d Q) : wpAny (model X.prog X.w) X.A (binaryOp o v u) (EP X pins si Q) X.xe sh := by
  unfold binD at h
  split at h
  · rename_i i j
    cases (show x = .int i from hx)
    cases (show y = .int j from hy)
    exact op_add pins sh si H _ _ v u Q I rx ry ⟨i, j, rfl, rfl, k.int R h⟩
  · rename_i i j
    cases (show x = .str i from hx)
    cases (show y = .str j from hy)
    split at h
    · rename_i hz
      exact op_add_str pins sh si H _ _ v u Q I rx ry ⟨i, j, rfl, rfl, by rw [size_line]; exact hz, k.here R (Option.some.inj h ▸ rp_str)⟩
    · cases h
  · rename_i as bs
    obtain ⟨p, xs, rfl, h1, h2⟩ := hx
    obtain ⟨q, ys, rfl, h3, h4⟩ := hy
    split at h
    · rename_i hz
      have e := Option.some.inj h
      subst e
      have l1 := rpA_len h2
      have l2 := rpA_len h4
      refine op_catA pins sh si H _ _ v u Q I rx ry ⟨p, q, xs, ys, rfl, rfl, sqT_mono R.fh h1, sqT_mono R.fh h3, by rw [size_line, ← l1, ← l2]; exact hz, fun z => ?_, fun _ z => ?_, fun _ _ => k.tup R (rpA_iff.mpr ((rpA_iff.mp h2).app (rpA_iff.mp h4)))⟩
      · subst z
        have z : as = [] := List.eq_nil_of_length_eq_zero l1
        subst z
        exact k.here R (by unfold Rp; exact ⟨q, ys, rfl, h3, h4⟩)
      · subst z
        have z : bs = [] := List.eq_nil_of_length_eq_zero l2
        subst z
        rw [List.append_nil] at k
        exact k.here R (by unfold Rp; exact ⟨p, xs, rfl, h1, h2⟩)
    · cases h
  · rename_i as bs
    obtain ⟨p, xs, rfl, h1, h2⟩ := hx
    obtain ⟨q, ys, rfl, h3, h4⟩ := hy
    split at h
    · rename_i hz
      have e := Option.some.inj h
      subst e
      have l1 := rpA_len h2
      have l2 := rpA_len h4
      exact op_cat pins sh si H _ _ v u Q I rx ry ⟨p, q, xs, ys, rfl, rfl, h1, h3, by rw [size_line, ← l1, ← l2]; exact hz, k.lst R (rpA_iff.mpr ((rpA_iff.mp h2).app (rpA_iff.mp h4)))⟩
    · cases h
  · rename_i i j
    cases (show x = .int i from hx)
    cases (show y = .int j from hy)
    exact op_sub pins sh si H _ _ v u Q I rx ry ⟨i, j, rfl, rfl, k.int R h⟩
  · rename_i i j
    cases (show x = .int i from hx)
    cases (show y = .int j from hy)
    split at h
    · rename_i hz
      refine op_mul pins sh si H _ _ v u Q I rx ry ⟨i, j, rfl, rfl, ?_, k.int R h⟩
      rcases Bool.or_eq_true_iff.mp hz with z | z
      · exact .inl (small_ok z)
      · exact .inr (small_ok z)
    · cases h
  · rename_i as j
    obtain ⟨p, xs, rfl, h1, h2⟩ := hx
    cases (show y = .int j from hy)
    split at h
    · rename_i hz
      have e := Option.some.inj h
      subst e
      have l1 := rpA_len h2
      exact op_repT pins sh si H _ _ v u Q I rx ry ⟨p, j, xs, rfl, rfl, sqT_mono R.fh h1, fun z => by subst z; have := hz.2.2.1; rw [l1] at this; simp at this, hz.1, hz.2.1, by rw [← l1]; exact hz.2.2.2, k.tup R (rpA_iff.mpr ((rpA_iff.mp h2).rep _))⟩
    · cases h
  · rename_i as j
    obtain ⟨p, xs, rfl, h1, h2⟩ := hx
    cases (show y = .int j from hy)
    split at h
    · rename_i hz
      have e := Option.some.inj h
      subst e
      have l1 := rpA_len h2
      exact op_rep pins sh si H _ _ v u Q I rx ry ⟨p, j, xs, rfl, rfl, h1, by omega, by omega, by rw [size_line, ← l1]; exact hz.2.2, k.lst R (rpA_iff.mpr ((rpA_iff.mp h2).rep _))⟩
    · cases h
  · rename_i i j
    cases (show x = .int i from hx)
    cases (show y = .int j from hy)
    split at h
    · rename_i hz
      exact op_fdiv pins sh si H _ _ v u Q I rx ry ⟨i, j, rfl, rfl, hz, k.int R h⟩
    · cases h
  · rename_i i j
    cases (show x = .int i from hx)
    cases (show y = .int j from hy)
    split at h
    · rename_i hz
      exact op_mod pins sh si H _ _ v u Q I rx ry ⟨i, j, rfl, rfl, hz, k.int R h⟩
    · cases h
  · rename_i i j
    cases (show x = .int i from hx)
    cases (show y = .int j from hy)
    split at h
    · rename_i hz
      have hs := small_ok hz.2.2
      exact op_pow pins sh si H _ _ v u Q I rx ry ⟨i, j, rfl, rfl, ⟨hz.1, hz.2.1, by omega⟩, k.int R h⟩
    · cases h
  · cases h
theorem neg_ok {x : V} {v : Value} {a d : PyData} (I : Inv X pins si H sh) (rx : RelV x v) (R : Rl X.K w0 H0 w e s σ H)
    (hx : Rt X.K H w.F a x) (h : negD a = some d) (k : Kd X.K w0 H0 w e s σ H d Q) : wpAny (model X.prog X.w) X.A (unaryOp .USub v) (EP X pins si Q) X.xe sh := by
  unfold negD at h
  split at h
  · rename_i i
    cases (show x = .int i from hx)
    exact un_neg pins sh si H _ v Q I rx ⟨i, rfl, k.int R h⟩
  · cases h
/-- reading data, wherever its own object stands -/
theorem Rt.rd {x : V} {v : Value} {a : PyData} (I : Inv X pins si H sh) (R : Rl X.K w0 H0 w e s σ H) (hx : Rt X.K H w.F a x) (rx : RelV x v) : ∃ as, Reads sh.heap v a as := Rp.reads I a (hx.full R.fh) rx
theorem room64 {n : Nat} (C : Cn X) (h : n ≤ 64) : X.A.units + n < cLine := by
  have := C.un
  omega
theorem room65 {n : Nat} (C : Cn X) (h : n ≤ 64) : X.A.units + 1 + n < cLine := by
  have := C.un
  omega
theorem fin_bool {c : Bool} {sh' : Shared} (I : Inv X pins si H sh') (k : Q (.bl c) H) : EP X pins si Q (.bool c) sh' := ⟨.bl c, H, I, rfl, k⟩
theorem isNone_iff {K : PySem.W.Frag} {G F : Hp} : ∀ {a : PyData} {x : V}, Rt K G F a x → decide (x = .non) = isNone a
  | .none, _, h => by cases (show _ = V.non from h); rfl
  | .bool b, _, h => by cases (show _ = V.bl b from h); rfl
  | .int b, _, h => by cases (show _ = V.int b from h); rfl
  | .str b, _, h => by cases (show _ = V.str b from h); rfl
  | .list _, _, ⟨_, _, e, _⟩ => by subst e; rfl
  | .tuple _, _, ⟨_, _, e, _⟩ => by subst e; rfl
  | .dict _, _, ⟨_, _, e, _⟩ => by subst e; rfl

/-! ### comparisons -/
theorem dict_of {p : Addr} {ks : List (Key × V)} (I : Inv X pins si H sh) (h : H p = some (.dK ks)) : (p == sysModules) = false ∧ ∃ vs, KV ks vs ∧ sh.heap.DictOf (mixKind X.prog X.w) p vs := by
  obtain ⟨_, h1, vs, h2, h3⟩ := (show ObjOk X.prog X.w H sh.heap p (.dK ks) from I.hok p _ h)
  exact ⟨h1, vs, h2, h3⟩
theorem rpK_emp {K : PySem.W.Frag} {F : Hp} {kds : List (PyData × PyData)} {ks : List (Key × V)} (h : RpK K F kds ks) : kds.length = ks.length := by
  induction kds generalizing ks with
  | nil => unfold RpK at h; subst h; rfl
  | cons x r ih =>
    obtain ⟨k, d⟩ := x
    unfold RpK at h
    obtain ⟨q, y, xs, rfl, _, _, h2⟩ := h
    simp [ih h2]
theorem kv_len {κ : Type} {kvs : List (κ × V)} {vs : List (κ × Value)} (r : KV kvs vs) : kvs.length = vs.length := Paired.length r
theorem eq_ok {neg : Bool} {x y : V} {v u : Value} {a b : PyData} {c : Bool} (C : Cn X) (I : Inv X pins si H sh) (rx : RelV x v) (ry : RelV y u) (R : Rl X.K w0 H0 w e s σ H)
    (hx : Rt X.K H w.F a x) (hy : Rt X.K H w.F b y) (h : eqD a b = some c) (k : Q (.bl (if neg then !c else c)) H) : wpAny (model X.prog X.w) X.A (compareOp (if neg then .NotEq else .Eq) v u) (EP X pins si Q) X.xe sh := by
  unfold eqD at h
  split at h
  · rename_i hc
    simp only [Bool.and_eq_true, decide_eq_true_eq] at hc
    obtain ⟨⟨h1, h2⟩, h3⟩ := hc
    obtain ⟨as, ra⟩ := hx.rd I R rx
    obtain ⟨bs, rb⟩ := hy.rd I R ry
    cases neg with
    | false => exact SeqAt.eq_plain ra rb h1 h2 (room64 C h3) (fin_bool I (Option.some.inj h ▸ k))
    | true => exact SeqAt.ne_plain ra rb h1 h2 (room64 C h3) (fin_bool I (Option.some.inj h ▸ k))
  · split at h
    · rename_i kvs _
      obtain ⟨p, ks, rfl, h1, h2⟩ := hx
      obtain ⟨q, qs, rfl, h3, h4⟩ := hy
      unfold RpK at h4
      subst h4
      obtain ⟨np, vs, kv, dp⟩ := dict_of I h1
      obtain ⟨nq, us, ku, dq⟩ := dict_of I h3
      cases ku
      cases rx
      cases ry
      have hl : kvs.length = vs.length := (rpK_emp h2).trans (kv_len kv)
      have hu : X.A.units < cLine := by have := C.un; omega
      have e : (vs.length == ([] : List (Key × Value)).length && true) = c := by
        rw [← Option.some.inj h, Bool.and_true]
        cases kvs with
        | nil => rw [← hl]; rfl
        | cons z zs => rw [← hl]; rfl
      have hits : vs.length = ([] : List (Key × Value)).length → PySem.W.KeqHits X.A.in1 sh ([] : List (Key × Value)) vs true := fun z => by
        have : vs = [] := List.eq_nil_of_length_eq_zero z
        subst this
        exact .nil
      cases neg with
      | false => exact PySem.W.keq_eq np nq dp dq hu hits (fin_bool I (by rw [e]; exact k))
      | true => exact PySem.W.keq_ne np nq dp dq hu hits (fin_bool I (by rw [e]; exact k))
    · cases h
theorem in_ok {neg : Bool} {x y : V} {v u : Value} {a b : PyData} {c : Bool} (C : Cn X) (I : Inv X pins si H sh) (rx : RelV x v) (ry : RelV y u) (R : Rl X.K w0 H0 w e s σ H)
    (hx : Rt X.K H w.F a x) (hy : Rt X.K H w.F b y) (h : inD a b = some c) (k : Q (.bl (if neg then !c else c)) H) : wpAny (model X.prog X.w) X.A (compareOp (if neg then .NotIn else .In) v u) (EP X pins si Q) X.xe sh := by
  obtain ⟨as, ra⟩ := hx.rd I R rx
  obtain ⟨bs, rb⟩ := hy.rd I R ry
  unfold inD at h
  split at h
  · split at h
    · rename_i hc
      simp only [Bool.and_eq_true, decide_eq_true_eq] at hc
      obtain ⟨⟨h1, h2⟩, h3⟩ := hc
      cases neg with
      | false => exact SeqAt.in_list_data rb ra h2 h1 (room65 C h3) (fin_bool I (Option.some.inj h ▸ k))
      | true => exact SeqAt.notIn_list_data rb ra h2 h1 (room65 C h3) (fin_bool I (Option.some.inj h ▸ k))
    · cases h
  · split at h
    · rename_i hc
      simp only [Bool.and_eq_true, decide_eq_true_eq] at hc
      obtain ⟨⟨h1, h2⟩, h3⟩ := hc
      cases neg with
      | false => exact SeqAt.in_tuple_data rb ra h2 h1 (room65 C h3) (fin_bool I (Option.some.inj h ▸ k))
      | true => exact SeqAt.notIn_tuple_data rb ra h2 h1 (room65 C h3) (fin_bool I (Option.some.inj h ▸ k))
    · cases h
  · cases h
theorem cmp_ok {o : CmpOp} {x y : V} {v u : Value} {a b : PyData} {c : Bool} (C : Cn X) (I : Inv X pins si H sh) (rx : RelV x v) (ry : RelV y u) (R : Rl X.K w0 H0 w e s σ H)
    (hx : Rt X.K H w.F a x) (hy : Rt X.K H w.F b y) (h : cmpD o a b = some c) (k : Q (.bl c) H) : wpAny (model X.prog X.w) X.A (compareOp o v u) (EP X pins si Q) X.xe sh := by
  unfold cmpD at h
  split at h
  · exact eq_ok (neg := false) C I rx ry R hx hy h k
  · obtain ⟨c', h1, h2⟩ := Option.map_eq_some_iff.mp h
    exact eq_ok (neg := true) C I rx ry R hx hy h1 (by rw [← h2] at k; exact k)
  · rename_i i j
    cases (show x = .int i from hx)
    cases (show y = .int j from hy)
    exact op_lt pins sh si H _ _ v u Q I rx ry ⟨i, j, rfl, rfl, by rw [← Option.some.inj h] at k; exact k⟩
  · rename_i i j
    cases (show x = .int i from hx)
    cases (show y = .int j from hy)
    exact op_le pins sh si H _ _ v u Q I rx ry ⟨i, j, rfl, rfl, by rw [← Option.some.inj h] at k; exact k⟩
  · rename_i i j
    cases (show x = .int i from hx)
    cases (show y = .int j from hy)
    exact op_gt pins sh si H _ _ v u Q I rx ry ⟨i, j, rfl, rfl, by rw [← Option.some.inj h] at k; exact k⟩
  · rename_i i j
    cases (show x = .int i from hx)
    cases (show y = .int j from hy)
    exact op_ge pins sh si H _ _ v u Q I rx ry ⟨i, j, rfl, rfl, by rw [← Option.some.inj h] at k; exact k⟩
  · exact in_ok (neg := false) C I rx ry R hx hy h k
  · obtain ⟨c', h1, h2⟩ := Option.map_eq_some_iff.mp h
    exact in_ok (neg := true) C I rx ry R hx hy h1 (by rw [← h2] at k; exact k)
  · cases (show y = .non from hy)
    exact op_isN pins sh si H _ _ v u Q I rx ry ⟨rfl, by rw [isNone_iff hx, Option.some.inj h]; exact k⟩
  · cases (show y = .non from hy)
    exact op_notN pins sh si H _ _ v u Q I rx ry ⟨rfl, by rw [isNone_iff hx, Option.some.inj h]; exact k⟩
  · rename_i i j
    cases (show x = .bl i from hx)
    cases (show y = .bl j from hy)
    exact op_isBl pins sh si H _ _ v u Q I rx ry ⟨i, j, rfl, rfl, Option.some.inj h ▸ k⟩
  · rename_i i j
    cases (show x = .bl i from hx)
    cases (show y = .bl j from hy)
    exact op_notBl pins sh si H _ _ v u Q I rx ry ⟨i, j, rfl, rfl, Option.some.inj h ▸ k⟩
  · cases h

/-! ### truth -/
theorem kv_emp {κ : Type} {kvs : List (κ × V)} {kds : List (PyData × PyData)} (h : kds.length = kvs.length) : kds.isEmpty = kvs.isEmpty := by
  cases kds <;> cases kvs <;> first | rfl | cases h
theorem truth_ok {x : V} {v : Value} {a : PyData} {c : Bool} {QB : Bool → Hp → Prop} (I : Inv X pins si H sh) (rx : RelV x v) (R : Rl X.K w0 H0 w e s σ H)
    (hx : Rt X.K H w.F a x) (h : truthD a = some c) (k : QB c H) : wpAny (model X.prog X.w) X.A (truthy v) (TP X pins si QB) X.xe sh := by
  refine tru_ok pins sh si H x v QB I rx ⟨c, ?_, k⟩
  cases a with
  | none => cases (show x = .non from hx); cases h; rfl
  | bool b => cases (show x = .bl b from hx); cases h; rfl
  | int i => cases (show x = .int i from hx); cases h; rfl
  | str z =>
    cases (show x = .str z from hx)
    have h : (if z.length ≤ 16777216 then some (z.length != 0) else none) = some c := h
    split at h
    · rename_i hz
      refine ⟨by rw [size_line]; exact hz, ?_⟩
      rw [← Option.some.inj h]
      cases q : z.length with
      | zero => rfl
      | succ n => rfl
    · cases h
  | list ds =>
    obtain ⟨p, xs, rfl, h1, h2⟩ := hx
    cases h
    exact .inl ⟨xs, SqL.of h1, by rw [(rpA_iff.mp h2).emp]⟩
  | tuple ds =>
    obtain ⟨p, xs, rfl, h1, h2⟩ := hx
    cases h
    exact .inr (.inl ⟨xs, sqT_mono R.fh h1, by rw [(rpA_iff.mp h2).emp]⟩)
  | dict kds =>
    obtain ⟨p, ks, rfl, h1, h2⟩ := hx
    cases h
    exact .inr (.inr ⟨ks, h1, by rw [kv_emp (rpK_emp h2)]⟩)
/-! ### built-ins of one argument -/
def b1F : B1 → Value
  | .len => .builtin "len"
  | .sum => .builtin "sum"
  | .all => .builtin "all"
  | .any => .builtin "any"
  | .tuple => .type "tuple"
  | .list => .type "list"
  | .abs => .builtin "abs"
  | .maxs => .builtin "max"
  | .mins => .builtin "min"
  | .sorted => .builtin "sorted"
  | .intb => .type "int"
  | .strs => .type "str"
  | .repr => .builtin "repr"
  | .setlen => .builtin "len"
  | .uniq => .builtin "len"
  | .bool => .type "bool"
theorem ints_rp {K : PySem.W.Frag} {F : Hp} : ∀ {ds : List PyData} {ns : List Int} {xs : List V}, ints? ds = some ns → RpA K F ds xs → xs = ns.map V.int
  | [], ns, xs, h, r => by
    unfold RpA at r; subst r
    cases (show some [] = some ns from h); rfl
  | d :: ds, ns, xs, h, r => by
    unfold RpA at r
    obtain ⟨y, ys, rfl, h1, h2⟩ := r
    cases d with
    | int i =>
      have h : (ints? ds).map (i :: ·) = some ns := h
      obtain ⟨ms, h3, h4⟩ := Option.map_eq_some_iff.mp h
      subst h4
      unfold Rp at h1
      subst h1
      rw [ints_rp h3 h2]; rfl
    | _ => cases h
theorem bools_rp {K : PySem.W.Frag} {F : Hp} : ∀ {ds : List PyData} {ns : List Bool} {xs : List V}, bools? ds = some ns → RpA K F ds xs → xs = ns.map V.bl
  | [], ns, xs, h, r => by
    unfold RpA at r; subst r
    cases (show some [] = some ns from h); rfl
  | d :: ds, ns, xs, h, r => by
    unfold RpA at r
    obtain ⟨y, ys, rfl, h1, h2⟩ := r
    cases d with
    | bool i =>
      have h : (bools? ds).map (i :: ·) = some ns := h
      obtain ⟨ms, h3, h4⟩ := Option.map_eq_some_iff.mp h
      subst h4
      unfold Rp at h1
      subst h1
      rw [bools_rp h3 h2]; rfl
    | _ => cases h
theorem sum_tup {t : Addr} {vs : List Value} {ns : List Int} {Q' : Value → Shared → Prop} (C : Cn X) (I : Inv X pins si H sh) (ht : sh.heap.IsTuple t vs.toArray) (hi : PyProof.Rows.IntsAre vs ns)
    (h : ∀ sh' tk, Inv X pins si H sh' → Q' (.int ns.sum tk) sh') : wpAny (model X.prog X.w) X.A (call (.builtin "sum") [.ref t]) Q' X.xe sh := by
  obtain ⟨xs, hx⟩ := hi.allInts.items
  have hn : numsOf vs.toArray.toList = ns := hi.numsOf
  rw [hx] at ht hn
  rw [nums_intItems] at hn
  refine PySem.W.ktm_sumG (I.ok.hd C.calm) ht fun h' tk t' hk => ?_
  rw [preSum_eq, List.take_of_length_le (by simp), hn]
  exact h _ _ (I.kept hk)
theorem each_of {α β : Type} {R : α → β → Prop} {as : List α} {bs : List β} (h : All2 R as bs) : PySem.W.EachIs R as bs := by
  induction h with
  | nil => exact .nil
  | cons x _ ih => exact .cons x ih
theorem of_each {α β : Type} {R : α → β → Prop} {as : List α} {bs : List β} (h : PySem.W.EachIs R as bs) : All2 R as bs := by
  induction h with
  | nil => exact .nil
  | cons x _ ih => exact .cons x ih
theorem all2_zip {α β γ : Type} {R : α → β → Prop} {S : γ → β → Prop} {as : List α} {bs : List β} {cs : List γ} (h : All2 R as bs) (h' : All2 S cs bs) : ∃ zs : List (α × β), zs.map (·.1) = as ∧ zs.map (·.2) = bs ∧ (∀ z ∈ zs, R z.1 z.2) ∧ All2 (fun c z => S c z.2) cs zs := by
  induction h generalizing cs with
  | nil => cases h'; exact ⟨[], rfl, rfl, (fun z hz => by cases hz), .nil⟩
  | cons x _ ih =>
    cases h' with
    | cons y h' =>
      obtain ⟨zs, h1, h2, h3, h4⟩ := ih h'
      refine ⟨(_, _) :: zs, by rw [List.map_cons, h1], by rw [List.map_cons, h2], fun z hz => ?_, .cons y h4⟩
      rcases List.mem_cons.mp hz with rfl | hz
      · exact x
      · exact h3 z hz
theorem all2_snd {zs : List (PyData × V)} {out : List Value} (h : All2 (fun (v : Value) (z : PyData × V) => RelV z.2 v) out zs) : All2 (fun u x => RelV x u) out (zs.map (·.2)) := by
  induction h with
  | nil => exact .nil
  | cons a _ ih => exact .cons a ih
theorem all2_mem {α β : Type} {R : α → β → Prop} : ∀ {ms : List (α × β)}, (∀ z ∈ ms, R z.1 z.2) → All2 R (ms.map (·.1)) (ms.map (·.2))
  | [], _ => .nil
  | a :: r, h => .cons (h a List.mem_cons_self) (all2_mem fun z hz => h z (List.mem_cons_of_mem _ hz))
theorem vals_all {xs : List V} {us : List Value} (r : Vals xs us) : All2 (fun u x => RelV x u) us xs := by
  induction xs generalizing us with
  | nil => cases r; exact .nil
  | cons x xs ih =>
    cases r with
    | cons a b => exact .cons a (ih b)
theorem all_vals {xs : List V} {us : List Value} (r : All2 (fun u x => RelV x u) us xs) : Vals xs us := by
  induction r with
  | nil => exact .nil
  | cons a _ ih => exact .cons a ih
theorem sort_ok {p : Addr} {xs : List V} {ds : List PyData} (C : Cn X) (I : Inv X pins si H sh) (R : Rl X.K w0 H0 w e s σ H) (h1 : H p = some (.lst xs)) (h2 : RpA X.K w.F ds xs) (hc : canSort ds = true)
    (k : Kd X.K w0 H0 w e s σ H (.list (sortD ds)) Q) : wpAny (model X.prog X.w) X.A (call (.builtin "sorted") [.ref p]) (EP X pins si Q) X.xe sh := by
  unfold canSort at hc
  simp only [Bool.and_eq_true, Bool.or_eq_true, List.all_eq_true, decide_eq_true_eq] at hc
  obtain ⟨⟨⟨c1, c2⟩, c3⟩, c4⟩ := hc
  obtain ⟨its, rv, hl, hz⟩ := I.list (SqL.of h1)
  obtain ⟨zs, z1, z2, z3, z4⟩ := all2_zip (rpA_iff.mp h2) (vals_all rv)
  have hm : zs.map (fun z : PyData × V => z.1) = ds := z1
  refine PySem.W.sorted_data (R := fun (v : Value) (z : PyData × V) => RelV z.2 v) (enc := fun z : PyData × V => z.1) (bs := zs) (vs := its) hl.isList (each_of z4) ?_ ?_ ?_ ?_ ?_ fun out ho he => ?_
  · refine each_of (z4.impM fun u z hz r => ?_)
    exact Rp.reads I z.1 (Rp.mono R.fh z.1 (z3 z hz)) r
  · rw [hm]
    exact fun d hd d' hd' => c1 d hd d' hd'
  · rw [hm]
    rcases c2 with c2 | c2
    · refine .inl fun d hd => ?_
      have q := c2 d hd
      unfold isTup1 at q
      split at q
      · exact ⟨_, _, rfl⟩
      · cases q
    · refine .inr fun d hd => ?_
      have q := c2 d hd
      exact ⟨(fun e => by subst e; cases q), (fun ys e => by subst e; cases q)⟩
  · have : zs.length = ds.length := by rw [← hm, List.length_map]
    rw [this, size_line]; exact c4
  · intro z hz
    have q := c3 z.1 (by rw [← hm]; exact List.mem_map.mpr ⟨z, hz, rfl⟩)
    have := C.un
    show X.A.units + 2 + z.1.depth < cLine
    omega
  · have ho2 : All2 (fun (v : Value) (z : PyData × V) => RelV z.2 v) out (zs.mergeSort (PySem.W.dataLe false fun z : PyData × V => z.1)) := of_each he
    obtain ⟨ep, he'⟩ := PyProof.Rows.sortedAll_at sh.heap its (List.toArray out)
    have hv : Vals ((zs.mergeSort (PySem.W.dataLe false fun z : PyData × V => z.1)).map (·.2)) out := by
      exact all_vals (all2_snd ho2)
    have hlen : ((zs.mergeSort (PySem.W.dataLe false fun z : PyData × V => z.1)).map (·.2)).length ≤ sizeLine := by
      rw [List.length_map, List.length_mergeSort]
      have : zs.length = ds.length := by rw [← hm, List.length_map]
      rw [this, size_line]; exact c4
    have hp : H (sh.heap.objs.size + 1) = none := I.hok.fresh (Nat.le_succ _)
    refine ⟨.ref (sh.heap.objs.size + 1), upd H (sh.heap.objs.size + 1) (.lst ((zs.mergeSort (PySem.W.dataLe false fun z : PyData × V => z.1)).map (·.2))), I.laid (t' := sh.toks) (fun _ _ => PyProof.Rows.sortedAll_old) (Nat.le_succ _) ⟨hlen, out, ep, hv, he'⟩, rfl, ?_⟩
    refine k.lst R (rpA_iff.mpr ?_) _ hp
    have e1 : sortD ds = (zs.mergeSort (PySem.W.dataLe false fun z : PyData × V => z.1)).map (·.1) := by
      unfold sortD
      rw [← hm]
      exact (PySem.W.sort_maps (fun z : PyData × V => z.1) fun a _ b _ => rfl).symm
    rw [e1]
    exact all2_mem fun z hz => z3 z (List.mem_mergeSort.mp hz)
theorem vals_one {x : V} {us : List Value} (r : Vals [x] us) : ∃ u, us = [u] ∧ RelV x u := vals1 r
theorem b1_ok {f : B1} {x : V} {v : Value} {a d : PyData} (C : Cn X) (I : Inv X pins si H sh) (rx : RelV x v) (R : Rl X.K w0 H0 w e s σ H)
    (hx : Rt X.K H w.F a x) (h : b1D f a = some d) (k : Kd X.K w0 H0 w e s σ H d Q) : wpAny (model X.prog X.w) X.A (call (b1F f) [v]) (EP X pins si Q) X.xe sh := by
  have rv : Vals [x] [v] := .cons rx .nil
  unfold b1D at h
  split at h
  · obtain ⟨p, xs, rfl, h1, h2⟩ := hx
    exact call_len_seq pins sh si H _ _ Q I rv ⟨p, xs, rfl, .inl (SqL.of h1), by rw [← rpA_len h2]; exact k.int R h⟩
  · obtain ⟨p, xs, rfl, h1, h2⟩ := hx
    exact call_len_seq pins sh si H _ _ Q I rv ⟨p, xs, rfl, .inr (sqT_mono R.fh h1), by rw [← rpA_len h2]; exact k.int R h⟩
  · rename_i z
    cases (show x = .str z from hx)
    split at h
    · rename_i hz
      exact call_len_str pins sh si H _ _ Q I rv ⟨z, rfl, by rw [size_line]; exact hz, k.int R h⟩
    · cases h
  · obtain ⟨p, xs, rfl, h1, h2⟩ := hx
    obtain ⟨ns, h3, h4⟩ := Option.map_eq_some_iff.mp h
    subst h4
    rw [ints_rp h3 h2] at h1
    exact cr_sum C.calm pins sh si H _ _ Q I rv ⟨p, ns, rfl, SqL.of h1, k.here R rp_int⟩
  · obtain ⟨p, xs, rfl, h1, h2⟩ := hx
    obtain ⟨ns, h3, h4⟩ := Option.map_eq_some_iff.mp h
    subst h4
    rw [ints_rp h3 h2] at h1
    obtain ⟨its, rv2, ht, _⟩ := I.tuple (sqT_mono R.fh h1)
    cases rx
    exact sum_tup C I ht rv2.ints fun sh' tk I' => ⟨.int ns.sum, H, I', ⟨tk, rfl⟩, k.here R rp_int⟩
  · obtain ⟨p, xs, rfl, h1, h2⟩ := hx
    obtain ⟨ns, h3, h4⟩ := Option.map_eq_some_iff.mp h
    subst h4
    rw [bools_rp h3 h2] at h1
    exact cr_all C.calm pins sh si H _ _ Q I rv ⟨p, ns, rfl, SqL.of h1, k.here R rp_bool⟩
  · obtain ⟨p, xs, rfl, h1, h2⟩ := hx
    obtain ⟨ns, h3, h4⟩ := Option.map_eq_some_iff.mp h
    subst h4
    rw [bools_rp h3 h2] at h1
    exact cr_any C.calm pins sh si H _ _ Q I rv ⟨p, ns, rfl, SqL.of h1, k.here R rp_bool⟩
  · obtain ⟨p, xs, rfl, h1, h2⟩ := hx
    cases h
    exact call_tuple_of pins sh si H _ _ Q I rv ⟨p, xs, rfl, .inl ⟨SqL.of h1, k.tup R h2⟩⟩
  · obtain ⟨p, xs, rfl, h1, h2⟩ := hx
    cases h
    exact call_tuple_of pins sh si H _ _ Q I rv ⟨p, xs, rfl, .inr ⟨sqT_mono R.fh h1, k.here R (by unfold Rp; exact ⟨p, xs, rfl, h1, h2⟩)⟩⟩
  · obtain ⟨p, xs, rfl, h1, h2⟩ := hx
    cases h
    exact call_list_of pins sh si H _ _ Q I rv ⟨p, xs, rfl, .inl (SqL.of h1), k.lst R h2⟩
  · obtain ⟨p, xs, rfl, h1, h2⟩ := hx
    cases h
    exact call_list_of pins sh si H _ _ Q I rv ⟨p, xs, rfl, .inr (sqT_mono R.fh h1), k.lst R h2⟩
  · rename_i i
    cases (show x = .int i from hx)
    exact call_abs pins sh si H _ _ Q I rv ⟨i, rfl, k.int R h⟩
  · split at h
    · rename_i hc
      obtain ⟨p, xs, rfl, h1, h2⟩ := hx
      cases h
      cases rx
      exact sort_ok C I R h1 h2 hc k
    · cases h
  · rename_i i
    cases (show x = .bl i from hx)
    exact call_int1 pins sh si H _ _ Q I rv (.inr ⟨i, rfl, k.int R h⟩)
  · rename_i i
    cases (show x = .int i from hx)
    exact call_int1 pins sh si H _ _ Q I rv (.inl ⟨i, rfl, k.int R h⟩)
  · cases h
end
end Ev

/-! places, slices, stores -/
namespace Ev
open PySem PySem.Spec PyProof.Rows L2
section
variable {X : Cx} {pins : List (Addr × Obj)} {σ si : L2.St} {H : Hp} {sh : Shared} {w0 w : Wd} {H0 : Hp} {e : Lv} {s : Sto} {Q : VK}
/-- what is wanted of a result -/
def Kv (K : PySem.W.Frag) (w0 : Wd) (H0 : Hp) (w : Wd) (e : Lv) (s : Sto) (σ : L2.St) (H : Hp) (v : Val) (Q : VK) : Prop :=
  ∀ w' z H', Rl K w0 H0 w' e s σ H' → Le w H w' H' → Rv K w' v z → Q z H'
theorem Kv.here {K : PySem.W.Frag} {d : Val} {z : V} (k : Kv K w0 H0 w e s σ H d Q) (R : Rl K w0 H0 w e s σ H) (r : Rv K w d z) : Q z H := k w z H R .refl r
theorem all2_atI {α β : Type} {R : α → β → Prop} {as : List α} {bs : List β} (h : All2 R as bs) {i : Int} {a : α} (e : atP as i = some a) : ∃ b, atI bs i = some b ∧ R a b := by
  unfold atP atI at e
  unfold atI
  rw [← h.len]
  cases q : ixN as.length i with
  | none => rw [q] at e; cases e
  | some j =>
    rw [q] at e
    obtain ⟨b, h1, h2⟩ := h.at_ (show as[j]? = some a from e)
    exact ⟨b, h1, h2⟩
theorem eqv_key (a b : Key) : PyData.eqv (kP a) (kP b) = decide (a = b) := by
  cases a with
  | inl i => cases b with
    | inl j => rw [key_ll]; simp [kP, PyData.eqv]
    | inr y => rw [key_lr]; simp [kP, PyData.eqv]
  | inr x => cases b with
    | inl j => rw [key_rl]; simp [kP, PyData.eqv]
    | inr y => rw [key_rr]; simp [kP, PyData.eqv, Bool.beq_eq_decide_eq]
theorem look_ok {K : PySem.W.Frag} {F : Hp} (q : Key) : ∀ {kds : List (PyData × PyData)} {ks : List (Key × V)}, RpK K F kds ks → (∀ d, lookD (kP q) kds = some d → ∃ x, valV ks q = some x ∧ Rp K F d x) ∧ (lookD (kP q) kds = none → valV ks q = none)
  | [], ks, h => by
    unfold RpK at h; subst h
    exact ⟨(fun d e => by cases e), fun _ => rfl⟩
  | (k, d) :: kds, ks, h => by
    unfold RpK at h
    obtain ⟨p, x, xs, rfl, rfl, h1, h2⟩ := h
    have ih := look_ok q h2
    unfold lookD
    rw [eqv_key]
    by_cases e : p = q
    · subst e
      rw [valV_pos rfl]
      simp only [decide_true, if_true]
      exact ⟨(fun d' e' => ⟨x, rfl, by cases e'; exact h1⟩), (fun e' => by cases e')⟩
    · rw [valV_neg e, decide_eq_false e]
      simp only [Bool.false_eq_true, if_false]
      exact ih
theorem put_ok {K : PySem.W.Frag} {F : Hp} (q : Key) {d : PyData} {x : V} (hx : Rp K F d x) {kds : List (PyData × PyData)} {ks : List (Key × V)} (nd : (ks.map (·.1)).Nodup) (h : RpK K F kds ks) : RpK K F (putD (kP q) d kds) (putK ks q x) := by
  induction kds generalizing ks with
  | nil =>
    unfold RpK at h; subst h
    unfold putD putK
    simp only [List.any_nil, Bool.false_eq_true, if_false, List.nil_append]
    unfold RpK
    exact ⟨q, x, [], rfl, rfl, hx, by unfold RpK; rfl⟩
  | cons a r ih =>
    obtain ⟨k, d'⟩ := a
    unfold RpK at h
    obtain ⟨p, y, ys, rfl, rfl, h1, h2⟩ := h
    have nd' : p ∉ ys.map (·.1) ∧ (ys.map (·.1)).Nodup := List.nodup_cons.mp nd
    unfold putD
    rw [eqv_key]
    by_cases e : p = q
    · subst e
      simp only [decide_true, if_true]
      have e2 : putK ((p, y) :: ys) p x = (p, x) :: ys := by
        unfold putK
        rw [List.any_cons, decide_eq_true rfl, Bool.true_or, if_pos rfl, List.map_cons, if_pos rfl]
        congr 1
        refine (List.map_congr_left fun z hz => ?_).trans (List.map_id _)
        rw [if_neg]
        · rfl
        · rintro rfl
          exact nd'.1 (List.mem_map.mpr ⟨z, hz, rfl⟩)
      rw [e2]
      unfold RpK
      exact ⟨p, x, ys, rfl, rfl, hx, h2⟩
    · rw [decide_eq_false e]
      simp only [Bool.false_eq_true, if_false]
      have e2 : putK ((p, y) :: ys) q x = (p, y) :: putK ys q x := by
        unfold putK
        rw [List.any_cons, decide_eq_false e, Bool.false_or]
        split
        · rw [List.map_cons, if_neg e]
        · rfl
      rw [e2]
      unfold RpK
      exact ⟨p, y, _, rfl, rfl, h1, ih nd'.2 h2⟩
theorem isKey_kP {k : PyData} (h : isKey k = true) : ∃ q, k = kP q := by
  cases k with
  | int i => exact ⟨.inl i, rfl⟩
  | str x => exact ⟨.inr x, rfl⟩
  | _ => cases h
theorem rt_key {K : PySem.W.Frag} {G F : Hp} {q : Key} {x : V} (h : Rt K G F (kP q) x) : x = kV q := by
  cases q <;> exact h
theorem dnodup {p : Addr} {ks : List (Key × V)} (I : Inv X pins si H sh) (h : H p = some (.dK ks)) : (ks.map (·.1)).Nodup := by
  obtain ⟨_, _, vs, h2, o, es, ep, _, _, _, _, _, nd⟩ := (show ObjOk X.prog X.w H sh.heap p (.dK ks) from I.hok p _ h)
  rw [h2.keys]; exact nd
theorem room1 (C : Cn X) : X.A.units + 1 < cLine := by have := C.un; omega
/-- a place of data -/
theorem idxD_ok {x y : V} {v u : Value} {a b d : PyData} {value slice : Expr} (C : Cn X) (I : Inv X pins si H sh) (rx : RelV x v) (ry : RelV y u) (R : Rl X.K w0 H0 w e s σ H)
    (hx : Rt X.K H w.F a x) (hy : Rt X.K H w.F b y) (h : idxD a b = some d) (k : ∀ z, Rp X.K w.F d z → Q z H) (hs : subscripted slice false v u = operate [v, u] (getItem v u)) :
    wpAny (model X.prog X.w) X.A (subscriptTail value slice v u) (EP X pins si Q) X.xe sh := by
  unfold idxD at h
  split at h
  · rename_i xs i
    obtain ⟨p, ys, rfl, h1, h2⟩ := hx
    cases (show y = .int i from hy)
    obtain ⟨z, h3, h4⟩ := all2_atI (rpA_iff.mp h2) h
    exact ix_list value slice pins sh si H _ _ v u Q I rx ry ⟨p, ys, i, z, rfl, rfl, SqL.of h1, h3, k z h4⟩ hs
  · rename_i xs i
    obtain ⟨p, ys, rfl, h1, h2⟩ := hx
    cases (show y = .int i from hy)
    obtain ⟨z, h3, h4⟩ := all2_atI (rpA_iff.mp h2) h
    exact ix_tup value slice pins sh si H _ _ v u Q I rx ry ⟨p, ys, i, z, rfl, rfl, sqT_mono R.fh h1, h3, k z h4⟩ hs
  · rename_i z i
    cases (show x = .str z from hx)
    cases (show y = .int i from hy)
    split at h
    · rename_i hz
      obtain ⟨c, h1, h2⟩ := Option.map_eq_some_iff.mp h
      exact ix_str value slice pins sh si H _ _ v u Q I rx ry ⟨z, i, c, rfl, rfl, by rw [size_line]; exact hz, h1, k _ (h2 ▸ rp_str)⟩ hs
    · cases h
  · split at h
    · rename_i hk
      obtain ⟨p, ks, rfl, h1, h2⟩ := hx
      obtain ⟨q, rfl⟩ := isKey_kP hk
      cases rt_key hy
      obtain ⟨z, h3, h4⟩ := (look_ok q h2).1 d h
      have g : DGet H p (kV q) (some z) := h3 ▸ DGet.k h1
      cases rx
      exact tail_any (dict_typeIs I g) PySem.F.slot_dict_getitem.lookup (d_getItem (room1 C) I g ry fun w' s3 I3 rw' => ⟨z, H, I3, rw', k z h4⟩) hs
    · cases h
  · cases h
theorem all2_ints : ∀ ns : List Int, All2 (fun (n : Int) (z : V) => z = .int n) ns (ns.map V.int)
  | [] => .nil
  | _ :: r => .cons rfl (all2_ints r)
/-- c[i] -/
theorem idx_ok {x y : V} {v u : Value} {c i r : Val} {s' : Sto} {value slice : Expr} (C : Cn X) (I : Inv X pins si H sh) (rx : RelV x v) (ry : RelV y u) (R : Rl X.K w0 H0 w e s σ H)
    (hx : Rv X.K w c x) (hy : Rv X.K w i y) (h : idxV c i s = some (r, s')) (k : Kv X.K w0 H0 w e s' σ H r Q) (hs : subscripted slice false v u = operate [v, u] (getItem v u)) :
    s' = s ∧ wpAny (model X.prog X.w) X.A (subscriptTail value slice v u) (EP X pins si Q) X.xe sh := by
  obtain ⟨kd, s1, h1, h2⟩ := bd_inv h
  obtain ⟨rfl, ty⟩ := peek_rt R hy h1
  cases c with
  | d a =>
    have h2 : ofO ((idxD a kd).map Val.d) s1 = some (r, s') := h2
    cases q : idxD a kd with
    | none => rw [q] at h2; cases h2
    | some d =>
      rw [q] at h2
      have e2 : (Val.d d, s1) = (r, s') := Option.some.inj h2
      cases e2
      exact ⟨rfl, idxD_ok C I rx ry R (Rp.top R.fh hx) ty q (fun z hz => k.here R hz) hs⟩
  | s ns =>
    obtain ⟨p, rfl, hq⟩ := hx
    cases kd with
    | int j =>
      cases (show y = .int j from ty)
      have h2 : ofO ((atP ns j).map fun n => Val.d (.int n)) s1 = some (r, s') := h2
      cases q : atP ns j with
      | none => rw [q] at h2; cases h2
      | some n =>
        rw [q] at h2
        have e2 : (Val.d (.int n), s1) = (r, s') := Option.some.inj h2
        cases e2
        obtain ⟨z, h3, h4⟩ := all2_atI (all2_ints ns) q
        subst h4
        exact ⟨rfl, ix_list value slice pins sh si H _ _ v u Q I rx ry ⟨p, _, j, _, rfl, rfl, sqL_mono R.fh hq, h3, k.here R (show Rp X.K w.F (.int n) (.int n) from rp_int)⟩ hs⟩
    | _ => cases h2
  | g n =>
    cases q : getO (.g n) s1 with
    | none => simp only [q] at h2; cases h2
    | some so =>
      obtain ⟨p, rfl, ro⟩ := R.obj hx q
      simp only [q] at h2
      cases so with
      | lst vs =>
        obtain ⟨_, xs, hp, hr⟩ := ro
        cases kd with
        | int j =>
          cases (show y = .int j from ty)
          obtain ⟨z, h3, h4⟩ := Option.map_eq_some_iff.mp h2
          cases h4
          obtain ⟨zv, h5, h6⟩ := all2_atI hr h3
          exact ⟨rfl, ix_list value slice pins sh si H _ _ v u Q I rx ry ⟨p, xs, j, zv, rfl, rfl, SqL.of hp, h5, k.here R h6⟩ hs⟩
        | _ => cases h2
      | frz a =>
        have h2 : (idxD a kd).map (fun y => (Val.d y, s1)) = some (r, s') := by cases kd <;> exact h2
        obtain ⟨d, h3, h4⟩ := Option.map_eq_some_iff.mp h2
        cases h4
        exact ⟨rfl, idxD_ok C I rx ry R (Rp.top R.fh ro) ty h3 (fun z hz => k.here R hz) hs⟩
      | dct kvs =>
        obtain ⟨_, ks, hp, hr⟩ := ro
        have h2 : (idxD (.dict kvs) kd).map (fun y => (Val.d y, s1)) = some (r, s') := by cases kd <;> exact h2
        obtain ⟨d, h3, h4⟩ := Option.map_eq_some_iff.mp h2
        cases h4
        exact ⟨rfl, idxD_ok C I rx ry R (a := .dict kvs) ⟨p, ks, rfl, hp, hr⟩ ty h3 (fun z hz => k.here R hz) hs⟩
      | ins _ _ => cases kd <;> cases h2
  | l n =>
    cases q : getO (.l n) s1 with
    | none => simp only [q] at h2; cases h2
    | some so =>
      obtain ⟨p, rfl, ro⟩ := R.obj hx q
      simp only [q] at h2
      cases so with
      | lst vs =>
        obtain ⟨_, xs, hp, hr⟩ := ro
        cases kd with
        | int j =>
          cases (show y = .int j from ty)
          obtain ⟨z, h3, h4⟩ := Option.map_eq_some_iff.mp h2
          cases h4
          obtain ⟨zv, h5, h6⟩ := all2_atI hr h3
          exact ⟨rfl, ix_list value slice pins sh si H _ _ v u Q I rx ry ⟨p, xs, j, zv, rfl, rfl, SqL.of hp, h5, k.here R h6⟩ hs⟩
        | _ => cases h2
      | frz a =>
        have h2 : (idxD a kd).map (fun y => (Val.d y, s1)) = some (r, s') := by cases kd <;> exact h2
        obtain ⟨d, h3, h4⟩ := Option.map_eq_some_iff.mp h2
        cases h4
        exact ⟨rfl, idxD_ok C I rx ry R (Rp.top R.fh ro) ty h3 (fun z hz => k.here R hz) hs⟩
      | dct kvs =>
        obtain ⟨_, ks, hp, hr⟩ := ro
        have h2 : (idxD (.dict kvs) kd).map (fun y => (Val.d y, s1)) = some (r, s') := by cases kd <;> exact h2
        obtain ⟨d, h3, h4⟩ := Option.map_eq_some_iff.mp h2
        cases h4
        exact ⟨rfl, idxD_ok C I rx ry R (a := .dict kvs) ⟨p, ks, rfl, hp, hr⟩ ty h3 (fun z hz => k.here R hz) hs⟩
      | ins _ _ => cases kd <;> cases h2
/-! ### writing -/
/-- an object of a store that is written -/
theorem wr_obj (R : Rl X.K w0 H0 w e s σ H) {c : Val} {x : V} (hx : Rv X.K w c x) {p : Addr} (hp : x = .ref p) {so : SO} {o : HO} {s' : Sto} (hF : w.F p = none) (hs : Ro X.K w (upd H p o) p so) (h : putO c so s = some s') :
    Rl X.K w0 H0 w e s' σ (upd H p o) ∧ Le w H w (upd H p o) := by
  subst hp
  cases c with
  | d _ => cases h
  | s _ => cases h
  | g n =>
    obtain ⟨a, h1, h2⟩ := hx
    cases h2
    cases h
    exact ⟨R.wrG h1 hF hs, Le.refl.write (.inl (List.mem_of_getElem? h1)) (.inl (List.mem_of_getElem? h1))⟩
  | l n =>
    obtain ⟨a, h1, h2⟩ := hx
    cases h2
    cases h
    exact ⟨R.wrL h1 hF hs, Le.refl.write (.inr (List.mem_of_getElem? h1)) (.inr (.inl (List.mem_of_getElem? h1)))⟩
/-- a value that goes into an object of c's store -/
theorem into_ok (hw : w0.nu = []) (R : Rl X.K w0 H0 w e s σ H) {c v v' : Val} {x : V} {s' : Sto} (r : Rv X.K w v x) (h : (match c with | .l _ => rt v | _ => keepV v) s = some (v', s')) :
    ∃ w', Rl X.K w0 H0 w' e s' σ H ∧ Le w H w' H ∧ Rv X.K w' v' x := by
  cases c with
  | l n =>
    cases (show some (v, s) = some (v', s') from h)
    exact ⟨w, R, .refl, r⟩
  | d _ => obtain ⟨w', h1, h2, h3, _⟩ := keepV_ok hw R r (show keepV v s = some (v', s') from h); exact ⟨w', h1, h2, h3⟩
  | g _ => obtain ⟨w', h1, h2, h3, _⟩ := keepV_ok hw R r (show keepV v s = some (v', s') from h); exact ⟨w', h1, h2, h3⟩
  | s _ => obtain ⟨w', h1, h2, h3, _⟩ := keepV_ok hw R r (show keepV v s = some (v', s') from h); exact ⟨w', h1, h2, h3⟩
/-- c[i] = x -/
theorem set_ok {c i v : Val} {xc xi xv : V} {vc vi vv : Value} {s' : Sto} {u : Unit} {QH : Hp → Prop} (C : Cn X) (hw : w0.nu = []) (I : Inv X pins si H sh) (rc : RelV xc vc) (ri : RelV xi vi) (rv : RelV xv vv) (R : Rl X.K w0 H0 w e s σ H)
    (hc : Rv X.K w c xc) (hi : Rv X.K w i xi) (hv : Rv X.K w v xv) (h : setV c i v s = some (u, s')) (k : ∀ w' H', Rl X.K w0 H0 w' e s' σ H' → Le w H w' H' → QH H') :
    wpAny (model X.prog X.w) X.A (setItem vc vi vv) (fun _ t => ∃ H', Inv X pins si H' t ∧ QH H') X.xe sh := by
  obtain ⟨kd, s1, h1, h2⟩ := bd_inv h
  obtain ⟨rfl, ty⟩ := peek_rt R hi h1
  obtain ⟨v', s2, h3, h4⟩ := bd_inv h2
  obtain ⟨w1, R1, l1, r1⟩ := into_ok hw R (c := c) hv h3
  have hc1 : Rv X.K w1 c xc := hc.mono l1
  cases q : getO c s2 with
  | none => simp only [q] at h4; cases h4
  | some so =>
    obtain ⟨p, rfl, ro⟩ := R1.obj hc1 q
    simp only [q] at h4
    cases so with
    | lst vs =>
      obtain ⟨hF, xs, hp, hr⟩ := ro
      cases kd with
      | int j =>
        cases (show xi = .int j from ty)
        have h4 : (match ixP vs.length j with | some m => (putO c (.lst (vs.set m v')) s2).map fun s' => ((), s') | none => none) = some (u, s') := h4
        cases q2 : ixP vs.length j with
        | none => rw [q2] at h4; cases h4
        | some m =>
          rw [q2] at h4
          obtain ⟨t, h5, h6⟩ := Option.map_eq_some_iff.mp h4
          cases h6
          refine set_list pins sh si H _ _ _ vc vi vv QH I rc ri rv ⟨p, xs, j, m, rfl, rfl, hp, by rw [← hr.len]; exact q2, ?_⟩
          have hro : Ro X.K w1 (upd H p (.lst (xs.set m xv))) p (.lst (vs.set m v')) := ⟨hF, _, upd_same, hr.set r1 m⟩
          obtain ⟨R2, l2⟩ := wr_obj R1 hc1 rfl hF hro h5
          exact k _ _ R2 (l1.trans l2)
      | _ => cases h4
    | dct kvs =>
      obtain ⟨hF, ks, hp, hr⟩ := ro
      cases v' with
      | d y =>
        have h4 : (if isKey kd && decide (kvs.length < 16777216) then (putO c (.dct (putD kd y kvs)) s2).map fun s' => ((), s') else none) = some (u, s') := by cases kd <;> exact h4
        split at h4
        · rename_i hk
          simp only [Bool.and_eq_true, decide_eq_true_eq] at hk
          obtain ⟨qk, rfl⟩ := isKey_kP hk.1
          cases rt_key ty
          obtain ⟨t, h5, h6⟩ := Option.map_eq_some_iff.mp h4
          cases h6
          cases rc
          refine d_setItem (room1 C) I (DPut.k (v := xv) hp (by rw [size_line, ← rpK_emp hr]; exact hk.2)) ri rv fun t' I' => ⟨_, I', ?_⟩
          have hro : Ro X.K w1 (upd H p (.dK (putK ks qk xv))) p (.dct (putD (kP qk) y kvs)) := ⟨hF, _, upd_same, put_ok qk r1 (dnodup I hp) hr⟩
          obtain ⟨R2, l2⟩ := wr_obj R1 hc1 rfl hF hro h5
          exact k _ _ R2 (l1.trans l2)
        · cases h4
      | _ => cases kd <;> cases h4
    | frz a => cases kd <;> cases h4
    | ins _ _ => cases kd <;> cases h4
/-- c.append(x) -/
theorem app_ok2 {c v : Val} {xc xv : V} {vc vv : Value} {s' : Sto} {u : Unit} (C : Cn X) (hw : w0.nu = []) (I : Inv X pins si H sh) (rc : RelV xc vc) (rv : RelV xv vv) (R : Rl X.K w0 H0 w e s σ H)
    (hc : Rv X.K w c xc) (hv : Rv X.K w v xv) (h : appV c v s = some (u, s')) (k : ∀ w' H', Rl X.K w0 H0 w' e s' σ H' → Le w H w' H' → Q .non H') :
    wpAny (model X.prog X.w) X.A (call (.builtin "list.append") [vc, vv]) (EP X pins si Q) X.xe sh := by
  obtain ⟨v', s2, h3, h4⟩ := bd_inv h
  obtain ⟨w1, R1, l1, r1⟩ := into_ok hw R (c := c) hv h3
  have hc1 : Rv X.K w1 c xc := hc.mono l1
  cases q : getO c s2 with
  | none => simp only [q] at h4; cases h4
  | some so =>
    obtain ⟨p, rfl, ro⟩ := R1.obj hc1 q
    simp only [q] at h4
    cases so with
    | lst vs =>
      obtain ⟨hF, xs, hp, hr⟩ := ro
      have h4 : (if vs.length < 16777216 then (putO c (.lst (vs ++ [v'])) s2).map fun s' => ((), s') else none) = some (u, s') := h4
      split at h4
      · rename_i hz
        obtain ⟨t, h5, h6⟩ := Option.map_eq_some_iff.mp h4
        cases h6
        refine mt_append pins sh si H _ [xv] vc [vv] Q I rc (.cons rv .nil) ⟨p, xs, xv, rfl, rfl, hp, by rw [size_line, ← hr.len]; exact hz, ?_⟩
        have hro : Ro X.K w1 (upd H p (.lst (xs ++ [xv]))) p (.lst (vs ++ [v'])) := ⟨hF, _, upd_same, hr.app (.cons r1 .nil)⟩
        obtain ⟨R2, l2⟩ := wr_obj R1 hc1 rfl hF hro h5
        exact k _ _ R2 (l1.trans l2)
      · cases h4
    | frz a => cases h4
    | dct _ => cases h4
    | ins _ _ => cases h4
/-- the type of an object to which something is appended -/
theorem app_ty {c v : Val} {xc : V} {s s' : Sto} {u : Unit} (hw : w0.nu = []) (R : Rl X.K w0 H0 w e s σ H) (hc : Rv X.K w c xc) (h : (∃ o, getO c s = some (.lst o))) : tyV X.K "list" xc H := by
  obtain ⟨o, q⟩ := h
  obtain ⟨p, rfl, _, xs, hp, _⟩ := R.obj hc q
  exact .inl ⟨rfl, xs, SqL.of hp⟩
end
end Ev

/-! expressions: each construct as a reading over the evaluator -/
namespace Ev
open PySem PySem.Spec PyProof.Rows L2
def tE (K : PySem.W.Frag) (w0 : Wd) (H0 : Hp) (m : Lv → M Val) : TE := fun σ H Q => ∃ w e s v s', Rl K w0 H0 w e s σ H ∧ m e s = some (v, s') ∧
  ∀ w' z H', Rl K w0 H0 w' e s' σ H' → Le w H w' H' → Rv K w' v z → Q z H'
def tT (K : PySem.W.Frag) (w0 : Wd) (H0 : Hp) (m : Lv → M Bool) : TT := fun σ H Q => ∃ w e s b s', Rl K w0 H0 w e s σ H ∧ m e s = some (b, s') ∧
  ∀ w' H', Rl K w0 H0 w' e s' σ H' → Le w H w' H' → Q b H'
def tA (K : PySem.W.Frag) (w0 : Wd) (H0 : Hp) (m : Lv → M (List Val)) : TA := fun σ H Q => ∃ w e s vs s', Rl K w0 H0 w e s σ H ∧ m e s = some (vs, s') ∧
  ∀ w' xs H', Rl K w0 H0 w' e s' σ H' → Le w H w' H' → All2 (Rv K w') vs xs → Q xs H'
def tO (K : PySem.W.Frag) (w0 : Wd) (H0 : Hp) (m : Lv → M (Option Int)) : TO := fun σ H Q => ∃ w e s i s', Rl K w0 H0 w e s σ H ∧ m e s = some (i, s') ∧
  ∀ w' H', Rl K w0 H0 w' e s' σ H' → Le w H w' H' → Q i H'
section
variable {X : Cx} {a b c : Expr} {pos : Pos}
theorem pe_imp {e : Expr} {t t' : TE} (h : PE X e t) (f : ∀ σ H Q, t' σ H Q → t σ H Q) : PE X e t' := ⟨fun pins s σ H Q I q => h.run pins s σ H Q I (f σ H Q q)⟩
theorem pt_imp {e : Expr} {t t' : TT} (h : PT X e t) (f : ∀ σ H Q, t' σ H Q → t σ H Q) : PT X e t' := ⟨fun pins s σ H Q I q => h.run pins s σ H Q I (f σ H Q q)⟩
theorem pa_imp {es : List Expr} {t t' : TA} (h : PA X es t) (f : ∀ σ H Q, t' σ H Q → t σ H Q) : PA X es t' := ⟨fun pos pins s σ H Q I q => h.run pos pins s σ H Q I (f σ H Q q)⟩
theorem pw_imp {e : Expr} {t t' : TT} (h : PW X e t) (f : ∀ σ H Q, t' σ H Q → t σ H Q) : PW X e t' := ⟨fun wh pins s σ H Q I q => h.run wh pins s σ H Q I (f σ H Q q)⟩
/-- operations by what the model's own step gives -/
def sem1 (X : Cx) (f : Value → Sem Value) : V → Hp → VK → Prop := fun x H Q => ∀ (pins : List (Addr × Obj)) (sh : Shared) (si : L2.St) (v : Value), Inv X pins si H sh → RelV x v → wpAny (model X.prog X.w) X.A (f v) (EP X pins si Q) X.xe sh
def sem2 (X : Cx) (f : Value → Value → Sem Value) : R2 := fun x y H Q => ∀ (pins : List (Addr × Obj)) (sh : Shared) (si : L2.St) (v u : Value), Inv X pins si H sh → RelV x v → RelV y u → wpAny (model X.prog X.w) X.A (f v u) (EP X pins si Q) X.xe sh
def semC (X : Cx) (f : Value) : List V → Hp → VK → Prop := fun xs H Q => ∀ (pins : List (Addr × Obj)) (sh : Shared) (si : L2.St) (us : List Value), Inv X pins si H sh → Vals xs us → wpAny (model X.prog X.w) X.A (call f us) (EP X pins si Q) X.xe sh
def semM (X : Cx) (id : String) : V → List V → Hp → VK → Prop := fun x xs H Q => ∀ (pins : List (Addr × Obj)) (sh : Shared) (si : L2.St) (v : Value) (us : List Value), Inv X pins si H sh → RelV x v → Vals xs us → wpAny (model X.prog X.w) X.A (call (.builtin id) (v :: us)) (EP X pins si Q) X.xe sh
theorem op_sem (f : Value → Value → Sem Value) : OpR X f (sem2 X f) := fun pins s σ H x y v u Q I rx ry h => h pins s σ v u I rx ry
theorem un_sem (f : Value → Sem Value) : UnR X f (sem1 X f) := fun pins s σ H x v Q I rx h => h pins s σ v I rx
theorem call_sem (f : Value) : CallR X f (semC X f) := fun pins s σ H xs us Q I r h => h pins s σ us I r
theorem mt_sem (id : String) : MtR X id (semM X id) := fun pins s σ H x xs v us Q I rx rs h => h pins s σ v us I rx rs
variable {w0 : Wd} {H0 : Hp} {ma mb mc : Lv → M Val}
theorem ofO_inv {α : Type} {o : Option α} {s s' : Sto} {a : α} (h : ofO o s = some (a, s')) : o = some a ∧ s' = s := by
  cases o with
  | none => cases h
  | some b => cases (show some (b, s) = some (a, s') from h); exact ⟨rfl, rfl⟩
theorem of_map {α β : Type} {o : Option α} {f : α → β} {s s' : Sto} {r : β} (h : ofO (o.map f) s = some (r, s')) : ∃ d, o = some d ∧ r = f d ∧ s' = s := by
  obtain ⟨h1, h2⟩ := ofO_inv h
  obtain ⟨d, h3, h4⟩ := Option.map_eq_some_iff.mp h1
  exact ⟨d, h3, h4.symm, h2⟩
theorem rt_inv {α : Type} {a b : α} {s s' : Sto} (h : rt a s = some (b, s')) : b = a ∧ s' = s := by
  cases (show some (a, s) = some (b, s') from h); exact ⟨rfl, rfl⟩
theorem pk {α : Type} {K : PySem.W.Frag} {w : Wd} {H : Hp} {e : Lv} {s s' : Sto} {σ : L2.St} {v : Val} {x : V} {f : PyData → M α} {r : α} (R : Rl K w0 H0 w e s σ H) (rx : Rv K w v x) (h : bd (peek v) f s = some (r, s')) :
    ∃ d, Rt K H w.F d x ∧ f d s = some (r, s') := by
  obtain ⟨d, s1, h1, h2⟩ := bd_inv h
  obtain ⟨q, t⟩ := peek_rt R rx h1
  subst q
  exact ⟨d, t, h2⟩
theorem var_inv {e : Lv} {i : Nat} {s s' : Sto} {v : Val} (h : varE i e s = some (v, s')) : e[i]? = some (some v) ∧ s' = s := by
  unfold varE at h
  cases q : e[i]? with
  | none => rw [q] at h; cases h
  | some o =>
    rw [q] at h
    cases o with
    | none => cases h
    | some u =>
      obtain ⟨h1, h2⟩ := rt_inv h
      exact ⟨by rw [h1], h2⟩
/-- a name, a constant -/
theorem e_var {i : Nat} {x : Str} (hN : X.N[i]? = some x) (hv : Vis X.env.scope x) (hd : (x == ("__debug__" : Str)) = false) (hcd : (x == ("__classdict__" : Str)) = false) :
    PE X (.Name x pos) (tE X.K w0 H0 fun e => varE i e) := by
  refine pe_imp (pe_var hN hv hd hcd) fun σ H Q h => ?_
  obtain ⟨w, e, s, v, s', R, ev, k⟩ := h
  obtain ⟨hu, e2⟩ := var_inv ev
  subst e2
  obtain ⟨p, h1, h2⟩ := R.env.at_ hu
  obtain ⟨z, h3, h4⟩ := h2 _ rfl
  exact ⟨z, by rw [h1, h3], k w z H R .refl h4⟩
theorem e_con {x : V} {d : PyData} (h : PE X a (tC x)) (hx : ∀ F, Rp X.K F d x) : PE X a (tE X.K w0 H0 fun _ => rt (.d d)) := by
  refine pe_imp h fun σ H Q h => ?_
  obtain ⟨w, e, s, v, s', R, ev, k⟩ := h
  obtain ⟨e1, e2⟩ := rt_inv ev
  subst e1 e2
  exact k w x H R .refl (hx w.F)
/-- a + b .. -/
theorem e_bin {o : Operator} (C : Cn X) (ha : PE X a (tE X.K w0 H0 ma)) (hb : PE X b (tE X.K w0 H0 mb)) :
    PE X (.BinOp a o b pos) (tE X.K w0 H0 fun e => bd (ma e) fun v => bd (mb e) fun u => bd (peek v) fun x => bd (peek u) fun y => ofO ((binD o x y).map .d)) := by
  refine pe_imp (pe_op (op_sem (binaryOp o)) ha hb) fun σ H Q h => ?_
  obtain ⟨w, e, s, v, s', R, ev, k⟩ := h
  obtain ⟨v1, s1, e1, ev⟩ := bd_inv ev
  obtain ⟨v2, s2, e2, ev⟩ := bd_inv ev
  refine ⟨w, e, s, v1, s1, R, e1, fun w1 x H1 R1 l1 r1 => ⟨w1, e, s1, v2, s2, R1, e2, fun w2 y H2 R2 l2 r2 => ?_⟩⟩
  obtain ⟨x1, t1, ev⟩ := pk R2 (r1.mono l2) ev
  obtain ⟨y1, t2, ev⟩ := pk R2 r2 ev
  obtain ⟨d, e5, e6, e7⟩ := of_map ev
  subst e6 e7
  exact fun pins sh si v u I rx ry => bin_ok C I rx ry R2 t1 t2 e5 fun w' z H' R' l' r' => k w' z H' R' ((l1.trans l2).trans l') r'
theorem e_neg (ha : PE X a (tE X.K w0 H0 ma)) : PE X (.UnaryOp .USub a pos) (tE X.K w0 H0 fun e => bd (ma e) fun v => bd (peek v) fun x => ofO ((negD x).map .d)) := by
  refine pe_imp (pe_un (un_sem (unaryOp .USub)) ha) fun σ H Q h => ?_
  obtain ⟨w, e, s, v, s', R, ev, k⟩ := h
  obtain ⟨v1, s1, e1, ev⟩ := bd_inv ev
  refine ⟨w, e, s, v1, s1, R, e1, fun w1 x H1 R1 l1 r1 => ?_⟩
  obtain ⟨x1, t1, ev⟩ := pk R1 r1 ev
  obtain ⟨d, e5, e6, e7⟩ := of_map ev
  subst e6 e7
  exact fun pins sh si v I rx => neg_ok I rx R1 t1 e5 fun w' z H' R' l' r' => k w' z H' R' (l1.trans l') r'
theorem cmp_kont {K : PySem.W.Frag} {w w2 : Wd} {H H2 : Hp} {e : Lv} {s' : Sto} {σ : L2.St} {Q : VK} {c : Bool} (R2 : Rl K w0 H0 w2 e s' σ H2) (l : Le w H w2 H2)
    (k : ∀ w' z H', Rl K w0 H0 w' e s' σ H' → Le w H w' H' → Rv K w' (.d (.bool c)) z → Q z H') : Q (.bl c) H2 := k w2 _ H2 R2 l (show Rp K w2.F (.bool c) (.bl c) from rp_bool)
theorem e_cmp {o : CmpOp} (C : Cn X) (ha : PE X a (tE X.K w0 H0 ma)) (hb : PE X b (tE X.K w0 H0 mb)) (hm : behindInMarks o b = false) :
    PE X (.Compare a [o] [b] pos) (tE X.K w0 H0 fun e => bd (ma e) fun v => bd (mb e) fun u => bd (peek v) fun x => bd (peek u) fun y => ofO ((cmpD o x y).map fun c => .d (.bool c))) := by
  refine pe_imp (pe_cmpR (op_sem (compareOp o)) ha hb hm) fun σ H Q h => ?_
  obtain ⟨w, e, s, v, s', R, ev, k⟩ := h
  obtain ⟨v1, s1, e1, ev⟩ := bd_inv ev
  obtain ⟨v2, s2, e2, ev⟩ := bd_inv ev
  refine ⟨w, e, s, v1, s1, R, e1, fun w1 x H1 R1 l1 r1 => ⟨w1, e, s1, v2, s2, R1, e2, fun w2 y H2 R2 l2 r2 => ?_⟩⟩
  obtain ⟨x1, t1, ev⟩ := pk R2 (r1.mono l2) ev
  obtain ⟨y1, t2, ev⟩ := pk R2 r2 ev
  obtain ⟨d, e5, e6, e7⟩ := of_map ev
  subst e6 e7
  exact fun pins sh si v u I rx ry => cmp_ok C I rx ry R2 t1 t2 e5 (cmp_kont R2 (l1.trans l2) k)
/-- .. as a test -/
theorem t_cmp {o : CmpOp} (C : Cn X) (ha : PE X a (tE X.K w0 H0 ma)) (hb : PE X b (tE X.K w0 H0 mb)) (hm : behindInMarks o b = false) :
    PT X (.Compare a [o] [b] pos) (tT X.K w0 H0 fun e => bd (bd (ma e) fun v => bd (mb e) fun u => bd (peek v) fun x => bd (peek u) fun y => ofO ((cmpD o x y).map fun c => .d (.bool c))) fun v => bd (peek v) fun x => ofO (truthD x)) := by
  refine pt_imp (pt_cmpR (op_sem (compareOp o)) ha hb hm) fun σ H Q h => ?_
  obtain ⟨w, e, s, bb, s', R, ev, k⟩ := h
  obtain ⟨v0, s0, ev, ew⟩ := bd_inv ev
  obtain ⟨v1, s1, e1, ev⟩ := bd_inv ev
  obtain ⟨v2, s2, e2, ev⟩ := bd_inv ev
  refine ⟨w, e, s, v1, s1, R, e1, fun w1 x H1 R1 l1 r1 => ⟨w1, e, s1, v2, s2, R1, e2, fun w2 y H2 R2 l2 r2 => ?_⟩⟩
  obtain ⟨x1, t1, ev⟩ := pk R2 (r1.mono l2) ev
  obtain ⟨y1, t2, ev⟩ := pk R2 r2 ev
  obtain ⟨d, e5, e6, e7⟩ := of_map ev
  subst e6 e7
  have e6 : some (d, s0) = some (bb, s') := ew
  cases e6
  exact fun pins sh si v u I rx ry => cmp_ok C I rx ry R2 t1 t2 e5 ⟨_, rfl, k w2 H2 R2 (l1.trans l2)⟩
/-- any expression as a test -/
theorem t_val (ha : PE X a (tE X.K w0 H0 ma)) (he : ∀ whole, isTrue a X.env whole = (do let v ← whole; standAt a.pos; holding [v] (truthy v))) :
    PT X a (tT X.K w0 H0 fun e => bd (ma e) fun v => bd (peek v) fun x => ofO (truthD x)) := by
  refine ⟨fun pins sh σ H Q I h => ?_⟩
  obtain ⟨w, e, s, bb, s', R, ev, k⟩ := h
  obtain ⟨v1, s1, e1, ev⟩ := bd_inv ev
  refine isTrue_plain (thn (ha.run pins sh σ H (fun x H1 => ∃ w1, Rl X.K w0 H0 w1 e s1 σ H1 ∧ Le w H w1 H1 ∧ Rv X.K w1 v1 x) I ⟨w, e, s, v1, s1, R, e1, fun w1 x H1 R1 l1 r1 => ⟨w1, R1, l1, r1⟩⟩) fun v sh1 ⟨x, H1, I1, rx, w1, R1, l1, r1⟩ => ?_) (he _)
  obtain ⟨x1, t1, ev⟩ := pk R1 r1 ev
  obtain ⟨e5, e6⟩ := ofO_inv ev
  subst e6
  exact truth_ok I1 rx R1 t1 e5 (k w1 H1 R1 l1)
theorem t_not {m : Lv → M Bool} (ha : PT X a (tT X.K w0 H0 m)) : PT X (.UnaryOp .Not a pos) (tT X.K w0 H0 fun e => bd (m e) fun k => rt !k) := by
  refine pt_imp (pt_not ha) fun σ H Q h => ?_
  obtain ⟨w, e, s, bb, s', R, ev, k⟩ := h
  obtain ⟨v1, s1, e1, ev⟩ := bd_inv ev
  obtain ⟨e2, e3⟩ := rt_inv ev
  subst e2 e3
  exact ⟨w, e, s, v1, _, R, e1, fun w1 H1 R1 l1 => k w1 H1 R1 l1⟩
theorem not_of2 {v : Value} {pins : List (Addr × Obj)} {si : L2.St} {H : Hp} {sh : Shared} {Q : VK} {x : V} {w : Wd} {e : Lv} {s : Sto} {σ : L2.St} {d : PyData} {k : Bool} (I : Inv X pins si H sh) (rx : RelV x v) (R : Rl X.K w0 H0 w e s σ H) (t : Rt X.K H w.F d x) (h : truthD d = some k) (q : Q (.bl !k) H) :
    wpAny (model X.prog X.w) X.A (unaryOp .Not v) (EP X pins si Q) X.xe sh := by
  exact not_of (thn (truth_ok I rx R t h (QB := fun b H' => b = k ∧ H' = H) ⟨rfl, rfl⟩) fun b sh1 ⟨H1, I1, e1, e2⟩ => by
    subst e1 e2
    exact ⟨.bl !b, _, I1, rfl, q⟩)
theorem e_not (ha : PE X a (tE X.K w0 H0 ma)) : PE X (.UnaryOp .Not a pos) (tE X.K w0 H0 fun e => bd (ma e) fun v => bd (peek v) fun x => bd (ofO (truthD x)) fun k => rt (.d (.bool !k))) := by
  refine pe_imp (pe_un (un_sem (unaryOp .Not)) ha) fun σ H Q h => ?_
  obtain ⟨w, e, s, v, s', R, ev, k⟩ := h
  obtain ⟨v1, s1, e1, ev⟩ := bd_inv ev
  refine ⟨w, e, s, v1, s1, R, e1, fun w1 x H1 R1 l1 r1 => ?_⟩
  obtain ⟨x1, t1, ev⟩ := pk R1 r1 ev
  obtain ⟨b, s4, e4, ev⟩ := bd_inv ev
  obtain ⟨e4', e5⟩ := ofO_inv e4
  obtain ⟨e6, e7⟩ := rt_inv ev
  subst e6 e7 e5
  exact fun pins sh si v I rx => not_of2 I rx R1 t1 e4' (cmp_kont R1 l1 k)
theorem e_ife {m : Lv → M Bool} (hc : PT X c (tT X.K w0 H0 m)) (ha : PE X a (tE X.K w0 H0 ma)) (hb : PE X b (tE X.K w0 H0 mb)) : PE X (.IfExp c a b pos) (tE X.K w0 H0 fun e => bd (m e) fun k => if k then ma e else mb e) := by
  refine pe_imp (pe_ifExp hc ha hb) fun σ H Q h => ?_
  obtain ⟨w, e, s, v, s', R, ev, k⟩ := h
  obtain ⟨v1, s1, e1, ev⟩ := bd_inv ev
  refine ⟨w, e, s, v1, s1, R, e1, fun w1 H1 R1 l1 => ?_⟩
  cases v1 with
  | true => exact ⟨w1, e, s1, v, s', R1, ev, fun w2 z H2 R2 l2 r2 => k w2 z H2 R2 (l1.trans l2) r2⟩
  | false => exact ⟨w1, e, s1, v, s', R1, ev, fun w2 z H2 R2 l2 r2 => k w2 z H2 R2 (l1.trans l2) r2⟩
/-- a op b op c -/
theorem e_chn {o1 o2 : CmpOp} (C : Cn X) (ha : PE X a (tE X.K w0 H0 ma)) (hb : PE X b (tE X.K w0 H0 mb)) (hc : PE X c (tE X.K w0 H0 mc)) (hm : lastMarks [o1, o2] [b, c] = false) :
    PE X (.Compare a [o1, o2] [b, c] pos) (tE X.K w0 H0 fun e => bd (ma e) fun v => bd (mb e) fun u => bd (peek v) fun x => bd (peek u) fun y => bd (ofO (cmpD o1 x y)) fun k =>
      if k then bd (mc e) fun w => bd (peek u) fun y => bd (peek w) fun z => ofO ((cmpD o2 y z).map fun c => .d (.bool c)) else rt (.d (.bool false))) := by
  refine pe_imp (pe_chain (op_sem (compareOp o1)) (op_sem (compareOp o2)) ha hb hc hm) fun σ H Q h => ?_
  obtain ⟨w, e, s, v, s', R, ev, k⟩ := h
  obtain ⟨v1, s1, e1, ev⟩ := bd_inv ev
  obtain ⟨v2, s2, e2, ev⟩ := bd_inv ev
  refine ⟨w, e, s, v1, s1, R, e1, fun w1 x H1 R1 l1 r1 => ⟨w1, e, s1, v2, s2, R1, e2, fun w2 y H2 R2 l2 r2 => ?_⟩⟩
  obtain ⟨x1, t1, ev⟩ := pk R2 (r1.mono l2) ev
  obtain ⟨y1, t2, ev⟩ := pk R2 r2 ev
  obtain ⟨b1, s5, e5, ev⟩ := bd_inv ev
  obtain ⟨e5', e6⟩ := ofO_inv e5
  subst e6
  refine fun pins sh si v u I rx ry => cmp_ok C I rx ry R2 t1 t2 e5' ⟨b1, rfl, ?_⟩
  cases b1 with
  | false =>
    obtain ⟨e6, e7⟩ := rt_inv ev
    subst e6 e7
    exact ite_ff (cmp_kont R2 (l1.trans l2) k)
  | true =>
    obtain ⟨v3, s3, e3, ev⟩ := bd_inv (show bd (mc e) _ s5 = some (_, s') from ev)
    refine ite_tt ⟨w2, e, s5, v3, s3, R2, e3, fun w3 z H3 R3 l3 r3 => ?_⟩
    obtain ⟨y1, t2, ev⟩ := pk R3 (r2.mono l3) ev
    obtain ⟨z1, t3, ev⟩ := pk R3 r3 ev
    obtain ⟨d, e5, e6, e7⟩ := of_map ev
    subst e6 e7
    exact fun pins sh si v u I rx ry => cmp_ok C I rx ry R3 t2 t3 e5 (cmp_kont R3 ((l1.trans l2).trans l3) k)
theorem t_chn {o1 o2 : CmpOp} (C : Cn X) (ha : PE X a (tE X.K w0 H0 ma)) (hb : PE X b (tE X.K w0 H0 mb)) (hc : PE X c (tE X.K w0 H0 mc)) (hm : lastMarks [o1, o2] [b, c] = false) :
    PT X (.Compare a [o1, o2] [b, c] pos) (tT X.K w0 H0 fun e => bd (bd (ma e) fun v => bd (mb e) fun u => bd (peek v) fun x => bd (peek u) fun y => bd (ofO (cmpD o1 x y)) fun k =>
      if k then bd (mc e) fun w => bd (peek u) fun y => bd (peek w) fun z => ofO ((cmpD o2 y z).map fun c => .d (.bool c)) else rt (.d (.bool false))) fun v => bd (peek v) fun x => ofO (truthD x)) := by
  refine pt_imp (pt_chain (op_sem (compareOp o1)) (op_sem (compareOp o2)) ha hb hc hm) fun σ H Q h => ?_
  obtain ⟨w, e, s, bb, s', R, ev, k⟩ := h
  obtain ⟨v0, s0, ev, ew⟩ := bd_inv ev
  obtain ⟨v1, s1, e1, ev⟩ := bd_inv ev
  obtain ⟨v2, s2, e2, ev⟩ := bd_inv ev
  refine ⟨w, e, s, v1, s1, R, e1, fun w1 x H1 R1 l1 r1 => ⟨w1, e, s1, v2, s2, R1, e2, fun w2 y H2 R2 l2 r2 => ?_⟩⟩
  obtain ⟨x1, t1, ev⟩ := pk R2 (r1.mono l2) ev
  obtain ⟨y1, t2, ev⟩ := pk R2 r2 ev
  obtain ⟨b1, s5, e5, ev⟩ := bd_inv ev
  obtain ⟨e5', e6⟩ := ofO_inv e5
  subst e6
  refine fun pins sh si v u I rx ry => cmp_ok C I rx ry R2 t1 t2 e5' ⟨b1, rfl, ?_⟩
  cases b1 with
  | false =>
    obtain ⟨e6, e7⟩ := rt_inv ev
    subst e6 e7
    cases (show some (false, s0) = some (bb, s') from ew)
    exact ite_ff ⟨false, rfl, k w2 H2 R2 (l1.trans l2)⟩
  | true =>
    obtain ⟨v3, s3, e3, ev⟩ := bd_inv (show bd (mc e) _ s5 = some (_, s0) from ev)
    refine ite_tt ⟨w2, e, s5, v3, s3, R2, e3, fun w3 z H3 R3 l3 r3 => ?_⟩
    obtain ⟨y1, t2, ev⟩ := pk R3 (r2.mono l3) ev
    obtain ⟨z1, t3, ev⟩ := pk R3 r3 ev
    obtain ⟨d, e5, e6, e7⟩ := of_map ev
    subst e6 e7
    cases (show some (d, s0) = some (bb, s') from ew)
    exact fun pins sh si v u I rx ry => cmp_ok C I rx ry R3 t2 t3 e5 ⟨_, rfl, k w3 H3 R3 ((l1.trans l2).trans l3)⟩
/-- and, or -/
theorem e_and {rest : List Expr} {mr : Lv → M Val} (ha : PE X a (tE X.K w0 H0 ma)) (hb : PE X (.BoolOp .And (b :: rest) pos) (tE X.K w0 H0 mr)) :
    PE X (.BoolOp .And (a :: b :: rest) pos) (tE X.K w0 H0 fun e => bd (ma e) fun v => bd (peek v) fun x => bd (ofO (truthD x)) fun k => if k then mr e else rt v) := by
  refine ⟨fun pins sh σ H Q I h => ?_⟩
  obtain ⟨w, e, s, v, s', R, ev, k⟩ := h
  obtain ⟨v1, s1, e1, ev⟩ := bd_inv ev
  refine BoolOp_and (thn (ha.run pins sh σ H (fun x H1 => ∃ w1, Rl X.K w0 H0 w1 e s1 σ H1 ∧ Le w H w1 H1 ∧ Rv X.K w1 v1 x) I ⟨w, e, s, v1, s1, R, e1, fun w1 x H1 R1 l1 r1 => ⟨w1, R1, l1, r1⟩⟩) fun u sh1 ⟨x, H1, I1, rx, w1, R1, l1, r1⟩ => ?_)
  obtain ⟨x1, t1, ev⟩ := pk R1 r1 ev
  obtain ⟨b1, s5, e5, ev⟩ := bd_inv ev
  obtain ⟨e5', e6⟩ := ofO_inv e5
  subst e6
  refine thn (truth_ok I1 rx R1 t1 e5' (QB := fun b H' => b = b1 ∧ H' = H1) ⟨rfl, rfl⟩) fun b2 sh2 ⟨H2, I2, q1, q2⟩ => ?_
  subst q1 q2
  cases b2 with
  | true => exact hb.run pins sh2 σ H2 Q I2 ⟨w1, e, s5, v, s', R1, ev, fun w2 z H2 R2 l2 r2 => k w2 z H2 R2 (l1.trans l2) r2⟩
  | false =>
    obtain ⟨e6, e7⟩ := rt_inv ev
    subst e6 e7
    exact ⟨x, H2, I2, rx, k w1 x H2 R1 l1 r1⟩
theorem e_or {rest : List Expr} {mr : Lv → M Val} (ha : PE X a (tE X.K w0 H0 ma)) (hb : PE X (.BoolOp .Or (b :: rest) pos) (tE X.K w0 H0 mr)) :
    PE X (.BoolOp .Or (a :: b :: rest) pos) (tE X.K w0 H0 fun e => bd (ma e) fun v => bd (peek v) fun x => bd (ofO (truthD x)) fun k => if k then rt v else mr e) := by
  refine ⟨fun pins sh σ H Q I h => ?_⟩
  obtain ⟨w, e, s, v, s', R, ev, k⟩ := h
  obtain ⟨v1, s1, e1, ev⟩ := bd_inv ev
  refine BoolOp_or (thn (ha.run pins sh σ H (fun x H1 => ∃ w1, Rl X.K w0 H0 w1 e s1 σ H1 ∧ Le w H w1 H1 ∧ Rv X.K w1 v1 x) I ⟨w, e, s, v1, s1, R, e1, fun w1 x H1 R1 l1 r1 => ⟨w1, R1, l1, r1⟩⟩) fun u sh1 ⟨x, H1, I1, rx, w1, R1, l1, r1⟩ => ?_)
  obtain ⟨x1, t1, ev⟩ := pk R1 r1 ev
  obtain ⟨b1, s5, e5, ev⟩ := bd_inv ev
  obtain ⟨e5', e6⟩ := ofO_inv e5
  subst e6
  refine thn (truth_ok I1 rx R1 t1 e5' (QB := fun b H' => b = b1 ∧ H' = H1) ⟨rfl, rfl⟩) fun b2 sh2 ⟨H2, I2, q1, q2⟩ => ?_
  subst q1 q2
  cases b2 with
  | false => exact hb.run pins sh2 σ H2 Q I2 ⟨w1, e, s5, v, s', R1, ev, fun w2 z H2 R2 l2 r2 => k w2 z H2 R2 (l1.trans l2) r2⟩
  | true =>
    obtain ⟨e6, e7⟩ := rt_inv ev
    subst e6 e7
    exact ⟨x, H2, I2, rx, k w1 x H2 R1 l1 r1⟩
theorem w_and1 {m : Lv → M Bool} (ha : PT X a (tT X.K w0 H0 m)) : PW X (.BoolOp .And [a] pos) (tT X.K w0 H0 fun e => bd (m e) fun k => if k then rt true else rt false) := by
  refine pw_imp (pw_and1 ha) fun σ H Q h => ?_
  obtain ⟨w, e, s, v, s', R, ev, k⟩ := h
  obtain ⟨v1, s1, e1, ev⟩ := bd_inv ev
  cases v1 <;>
  · obtain ⟨e6, e7⟩ := rt_inv ev
    subst e6 e7
    exact ⟨w, e, s, _, _, R, e1, k⟩
theorem w_or1 {m : Lv → M Bool} (ha : PT X a (tT X.K w0 H0 m)) : PW X (.BoolOp .Or [a] pos) (tT X.K w0 H0 fun e => bd (m e) fun k => if k then rt true else rt false) := by
  refine pw_imp (pw_or1 ha) fun σ H Q h => ?_
  obtain ⟨w, e, s, v, s', R, ev, k⟩ := h
  obtain ⟨v1, s1, e1, ev⟩ := bd_inv ev
  cases v1 <;>
  · obtain ⟨e6, e7⟩ := rt_inv ev
    subst e6 e7
    exact ⟨w, e, s, _, _, R, e1, k⟩
theorem w_and {rest : List Expr} {m mr : Lv → M Bool} (ha : PT X a (tT X.K w0 H0 m)) (hb : PW X (.BoolOp .And (b :: rest) pos) (tT X.K w0 H0 mr)) : PW X (.BoolOp .And (a :: b :: rest) pos) (tT X.K w0 H0 fun e => bd (m e) fun k => if k then mr e else rt false) := by
  refine pw_imp (pw_and ha hb) fun σ H Q h => ?_
  obtain ⟨w, e, s, v, s', R, ev, k⟩ := h
  obtain ⟨v1, s1, e1, ev⟩ := bd_inv ev
  refine ⟨w, e, s, v1, s1, R, e1, fun w1 H1 R1 l1 => ?_⟩
  cases v1 with
  | true => exact ⟨w1, e, s1, v, s', R1, ev, fun w2 H2 R2 l2 => k w2 H2 R2 (l1.trans l2)⟩
  | false =>
    obtain ⟨e6, e7⟩ := rt_inv ev
    subst e6 e7
    exact k w1 H1 R1 l1
theorem w_or {rest : List Expr} {m mr : Lv → M Bool} (ha : PT X a (tT X.K w0 H0 m)) (hb : PW X (.BoolOp .Or (b :: rest) pos) (tT X.K w0 H0 mr)) : PW X (.BoolOp .Or (a :: b :: rest) pos) (tT X.K w0 H0 fun e => bd (m e) fun k => if k then rt true else mr e) := by
  refine pw_imp (pw_or ha hb) fun σ H Q h => ?_
  obtain ⟨w, e, s, v, s', R, ev, k⟩ := h
  obtain ⟨v1, s1, e1, ev⟩ := bd_inv ev
  refine ⟨w, e, s, v1, s1, R, e1, fun w1 H1 R1 l1 => ?_⟩
  cases v1 with
  | false => exact ⟨w1, e, s1, v, s', R1, ev, fun w2 H2 R2 l2 => k w2 H2 R2 (l1.trans l2)⟩
  | true =>
    obtain ⟨e6, e7⟩ := rt_inv ev
    subst e6 e7
    exact k w1 H1 R1 l1
end
end Ev

/-! displays, places, calls -/
namespace Ev
open PySem PySem.Spec PyProof.Rows L2
section
variable {X : Cx} {a b c : Expr} {pos : Pos} {w0 : Wd} {H0 : Hp} {ma mb mc : Lv → M Val}
theorem all2_refs {K : PySem.W.Frag} {w w1 : Wd} {H H1 : Hp} (l : Le w H w1 H1) {vs : List Val} {xs : List V} (r : All2 (Rv K w) vs xs) : All2 (Rv K w1) vs xs := Rvs.mono l r
theorem freshF_of {w w1 : Wd} {H H1 : Hp} {p : Addr} {o : HO} (l : Le w H w1 H1) (hF : w.F p = none) (hS : p ∉ w.mu ++ w.nu) (hp : H p = some o) : w1.F p = none := by
  cases q : w1.F p with
  | none => rfl
  | some u =>
    rcases l.fn p u q with z | z | z
    · rw [hF] at z; cases z
    · rw [hp] at z; cases z
    · exact absurd (List.mem_append_right _ z) hS
theorem freshS_of {w w1 : Wd} {H H1 : Hp} {p : Addr} {o : HO} (l : Le w H w1 H1) (hS : p ∉ w.mu ++ w.nu) (hp : H p = some o) : p ∉ w1.mu ++ w1.nu := by
  obtain ⟨r, e1, e2⟩ := l.mu
  obtain ⟨q, f1, f2⟩ := l.nu
  intro z
  rw [e1, f1] at z
  rcases List.mem_append.mp z with z | z
  · rcases List.mem_append.mp z with z | z
    · exact hS (List.mem_append_left _ z)
    · rw [e2 p z] at hp; cases hp
  · rcases List.mem_append.mp z with z | z
    · exact hS (List.mem_append_right _ z)
    · rw [f2 p z] at hp; cases hp
theorem Rv.congr {K : PySem.W.Frag} {w w' : Wd} (eF : Sub w.F w'.F) (mu : ∃ r, w'.mu = w.mu ++ r) (nu : ∃ r, w'.nu = w.nu ++ r) {v : Val} {x : V} (h : Rv K w v x) : Rv K w' v x := by
  cases v with
  | d d => exact Rp.mono eF d h
  | g n =>
    obtain ⟨a, h1, h2⟩ := h
    obtain ⟨r, e⟩ := mu
    refine ⟨a, ?_, h2⟩
    rw [e, List.getElem?_append_left (List.getElem?_eq_some_iff.mp h1).1]; exact h1
  | l n =>
    obtain ⟨a, h1, h2⟩ := h
    obtain ⟨r, e⟩ := nu
    refine ⟨a, ?_, h2⟩
    rw [e, List.getElem?_append_left (List.getElem?_eq_some_iff.mp h1).1]; exact h1
  | s ns =>
    obtain ⟨a, h1, h2⟩ := h
    exact ⟨a, h1, sqL_mono eF h2⟩
/-- a list that stands, unknown to the world, gets its place -/
theorem lay_ok {K : PySem.W.Frag} {ws w : Wd} {Hs H : Hp} {e : Lv} {s s' : Sto} {σ : L2.St} {p : Addr} {xs : List V} {vs : List Val} {wh : Wh} {v : Val} (hw : w0.nu = []) (R : Rl K w0 H0 w e s σ H) (l : Le ws Hs w H) (hs : Hs p = none) (h0 : H0 p = none)
    (hF : w.F p = none) (hS : p ∉ w.mu ++ w.nu) (hp : H p = some (.lst xs)) (r : All2 (Rv K w) vs xs) (h : place wh vs s = some (v, s')) : ∃ w', Rl K w0 H0 w' e s' σ H ∧ Le ws Hs w' H ∧ Rv K w' v (.ref p) := by
  cases wh with
  | pure =>
    obtain ⟨ds, s1, h1, h2⟩ := bd_inv (show bd (keeps vs) (fun xs => rt (Val.d (.list xs))) s = some (v, s') from h)
    obtain ⟨e1, e2⟩ := rt_inv h2
    subst e1 e2
    obtain ⟨w1, R1, l1, r1⟩ := keeps_ok hw R r h1
    have hF1 := freshF_of l1 hF hS hp
    have R2 := R1.freeze h0 hF1 (freshS_of l1 hS hp) hp
    refine ⟨_, R2, (l.trans l1).freeze (.inl hs) hF1, ?_⟩
    show Rp K (upd w1.F p (.lst xs)) (.list ds) (.ref p)
    unfold Rp
    exact ⟨p, xs, rfl, upd_same, RpA.mono (sub_upd (Sub.refl _) hF1) ds r1⟩
  | loc =>
    have h : some (Val.l s.L.length, ({ s with L := s.L ++ [.lst vs] } : Sto)) = some (v, s') := h
    cases h
    have hR : Ro K { w with nu := w.nu ++ [p] } H p (.lst vs) := ⟨hF, xs, hp, r.imp fun _ _ q => Rv.congr (w := w) (w' := { w with nu := w.nu ++ [p] }) (Sub.refl _) ⟨[], by simp⟩ ⟨[p], rfl⟩ q⟩
    refine ⟨_, R.adoptL h0 hS (by rw [hp]; simp) hR, l.adoptL hs, p, ?_, rfl⟩
    show (w.nu ++ [p])[s.L.length]? = some p
    rw [R.L.len]
    simp
  | glob =>
    obtain ⟨us, s1, h1, h2⟩ := bd_inv (show bd (keepVs vs) (fun us => fun s => some (Val.g s.G.length, ({ s with G := s.G ++ [.lst us] } : Sto))) s = some (v, s') from h)
    cases (show some (Val.g s1.G.length, ({ s1 with G := s1.G ++ [.lst us] } : Sto)) = some (v, s') from h2)
    obtain ⟨w1, R1, l1, r1, _⟩ := keepVs_ok hw R r h1
    have hF1 := freshF_of l1 hF hS hp
    have hR : Ro K { w1 with mu := w1.mu ++ [p] } H p (.lst us) := ⟨hF1, xs, hp, r1.imp fun _ _ q => Rv.congr (w := w1) (w' := { w1 with mu := w1.mu ++ [p] }) (Sub.refl _) ⟨[p], rfl⟩ ⟨[], by simp⟩ q⟩
    refine ⟨_, R1.adoptG h0 (freshS_of l1 hS hp) (by rw [hp]; simp) hR, (l.trans l1).adoptG hs, p, ?_, rfl⟩
    show (w1.mu ++ [p])[s1.G.length]? = some p
    rw [R1.G.len]
    simp
/-- a new list -/
theorem place_ok {K : PySem.W.Frag} {w : Wd} {H : Hp} {e : Lv} {s s' : Sto} {σ : L2.St} {p : Addr} {xs : List V} {vs : List Val} {wh : Wh} {v : Val} (hw : w0.nu = []) (R : Rl K w0 H0 w e s σ H) (r : All2 (Rv K w) vs xs) (h : place wh vs s = some (v, s')) (hp : H p = none) :
    ∃ w', Rl K w0 H0 w' e s' σ (upd H p (.lst xs)) ∧ Le w H w' (upd H p (.lst xs)) ∧ Rv K w' v (.ref p) :=
  lay_ok hw (R.scratch (R.le.back hp) (R.freshF hp) (R.freshS hp)) (Le.scratch .refl hp) hp (R.le.back hp) (R.freshF hp) (R.freshS hp) upd_same r h
/-! ### displays -/
theorem a_nil : PA X [] (tA X.K w0 H0 fun _ => rt []) := pa_imp pa_nil fun σ H Q h => by
  obtain ⟨w, e, s, vs, s', R, ev, k⟩ := h
  obtain ⟨e1, e2⟩ := rt_inv ev
  subst e1 e2
  exact k w [] H R .refl .nil
theorem a_cons {es : List Expr} {mr : Lv → M (List Val)} (ha : PE X a (tE X.K w0 H0 ma)) (hr : PA X es (tA X.K w0 H0 mr)) (hs : starEach (a :: es) X.env = (false, eval a X.env) :: starEach es X.env) :
    PA X (a :: es) (tA X.K w0 H0 fun e => bd (ma e) fun v => bd (mr e) fun vs => rt (v :: vs)) := pa_imp (pa_cons ha hr hs) fun σ H Q h => by
  obtain ⟨w, e, s, vs, s', R, ev, k⟩ := h
  obtain ⟨v1, s1, e1, ev⟩ := bd_inv ev
  obtain ⟨v2, s2, e2, ev⟩ := bd_inv ev
  obtain ⟨e3, e4⟩ := rt_inv ev
  subst e3 e4
  exact ⟨w, e, s, v1, s1, R, e1, fun w1 x H1 R1 l1 r1 => ⟨w1, e, s1, v2, _, R1, e2, fun w2 xs H2 R2 l2 r2 => k w2 _ H2 R2 (l1.trans l2) (.cons (r1.mono l2) r2)⟩⟩
theorem e_tup {es : List Expr} {x1 : Nat} {mr : Lv → M (List Val)} (hw : w0.nu = []) (h : PA X es (tA X.K w0 H0 mr)) :
    PE X (.Tuple es x1 pos) (tE X.K w0 H0 fun e => bd (mr e) fun vs => bd (keeps vs) fun xs => if xs.length ≤ 16777216 then rt (.d (.tuple xs)) else no) := pe_imp (pe_tup h) fun σ H Q h => by
  obtain ⟨w, e, s, v, s', R, ev, k⟩ := h
  obtain ⟨v1, s1, e1, ev⟩ := bd_inv ev
  obtain ⟨ds, s2, e2, ev⟩ := bd_inv ev
  refine ⟨w, e, s, v1, s1, R, e1, fun w1 xs H1 R1 l1 r1 => ?_⟩
  obtain ⟨w2, R2, l2, r2⟩ := keeps_ok hw R1 r1 e2
  split at ev
  · rename_i hz
    obtain ⟨e3, e4⟩ := rt_inv ev
    subst e3 e4
    refine ⟨by rw [size_line, ← rpA_len r2]; exact hz, fun p hp => ?_⟩
    obtain ⟨R3, l3⟩ := R2.new (o := .tup xs) hp
    refine k _ _ _ R3 ((l1.trans l2).trans l3) ?_
    show Rp _ _ _ _
    unfold Rp
    exact ⟨p, xs, rfl, SqT.of upd_same, RpA.mono l3.f ds r2⟩
  · cases ev
theorem e_lst {es : List Expr} {wh : Wh} {mr : Lv → M (List Val)} (hw : w0.nu = []) (h : PA X es (tA X.K w0 H0 mr)) :
    PE X (.List es pos) (tE X.K w0 H0 fun e => bd (mr e) fun vs => if vs.length ≤ 16777216 then place wh vs else no) := pe_imp (pe_lst h) fun σ H Q h => by
  obtain ⟨w, e, s, v, s', R, ev, k⟩ := h
  obtain ⟨v1, s1, e1, ev⟩ := bd_inv ev
  refine ⟨w, e, s, v1, s1, R, e1, fun w1 xs H1 R1 l1 r1 => ?_⟩
  split at ev
  · rename_i hz
    refine ⟨by rw [size_line, ← r1.len]; exact hz, fun p hp => ?_⟩
    obtain ⟨w2, R2, l2, r2⟩ := place_ok hw R1 r1 ev hp
    exact k _ _ _ R2 (l1.trans l2) r2
  · cases ev
theorem e_dct0 : PE X (.Dict [] [] pos) (tE X.K w0 H0 fun _ => fun s => some (.l s.L.length, { s with L := s.L ++ [.dct []] })) := pe_imp pe_dnewK fun σ H Q h => by
  obtain ⟨w, e, s, v, s', R, ev, k⟩ := h
  cases (show some (Val.l s.L.length, ({ s with L := s.L ++ [.dct []] } : Sto)) = some (v, s') from ev)
  intro p hp
  have R1 : Rl X.K w0 H0 w e s σ (upd H p (.dK [])) := R.scratch (R.le.back hp) (R.freshF hp) (R.freshS hp)
  have hR : Ro X.K { w with nu := w.nu ++ [p] } (upd H p (.dK [])) p (.dct []) := ⟨R.freshF hp, [], upd_same, by unfold RpK; rfl⟩
  refine k _ _ _ (R1.adoptL (R.le.back hp) (R.freshS hp) (by rw [upd_same]; simp) hR) ((Le.scratch .refl hp).adoptL hp) ⟨p, ?_, rfl⟩
  show (w.nu ++ [p])[s.L.length]? = some p
  rw [R.L.len]
  simp
/-! ### places, slices -/
def semIx (X : Cx) : R2 := fun x y H Q => ∀ (value slice : Expr) (pins : List (Addr × Obj)) (sh : Shared) (si : L2.St) (v u : Value), Inv X pins si H sh → RelV x v → RelV y u →
  subscripted slice false v u = operate [v, u] (getItem v u) → wpAny (model X.prog X.w) X.A (subscriptTail value slice v u) (EP X pins si Q) X.xe sh
theorem ix_sem : IxR X (semIx X) := fun value slice pins s σ H x y v u Q I rx ry h hs => h value slice pins s σ v u I rx ry hs
theorem e_idx (C : Cn X) (ha : PE X a (tE X.K w0 H0 ma)) (hb : PE X b (tE X.K w0 H0 mb)) (hs : PlainIx b) :
    PE X (.Subscript a b pos) (tE X.K w0 H0 fun e => bd (ma e) fun v => bd (mb e) fun u => idxV v u) := pe_imp (pe_ix ix_sem ha hb hs) fun σ H Q h => by
  obtain ⟨w, e, s, v, s', R, ev, k⟩ := h
  obtain ⟨v1, s1, e1, ev⟩ := bd_inv ev
  obtain ⟨v2, s2, e2, ev⟩ := bd_inv ev
  refine ⟨w, e, s, v1, s1, R, e1, fun w1 x H1 R1 l1 r1 => ⟨w1, e, s1, v2, s2, R1, e2, fun w2 y H2 R2 l2 r2 => ?_⟩⟩
  exact fun value slice pins sh si v u I rx ry hs => (idx_ok C I rx ry R2 (r1.mono l2) r2 ev (fun w' z H' R' l' r' => k w' z H' R' ((l1.trans l2).trans l') r') hs).2
def semSl (X : Cx) : V → Option Int → Option Int → Hp → VK → Prop := fun x lo hi H Q => rSlL X.K x lo hi H Q ∨ rSlA X.K x lo hi H Q
theorem o_none : PO X none (tO X.K w0 H0 fun _ => rt none) := ⟨fun pins sh σ H Q I h => by
  obtain ⟨w, e, s, i, s', R, ev, k⟩ := h
  obtain ⟨e1, e2⟩ := rt_inv ev
  subst e1 e2
  exact po_none.run pins sh σ H Q I (k w H R .refl)⟩
theorem o_some (ha : PE X a (tE X.K w0 H0 ma)) : PO X (some a) (tO X.K w0 H0 fun e => bd (ma e) fun v => bd (peek v) fun x => match x with | .int i => rt (some i) | _ => no) := ⟨fun pins sh σ H Q I h => by
  obtain ⟨w, e, s, i, s', R, ev, k⟩ := h
  obtain ⟨v1, s1, e1, ev⟩ := bd_inv ev
  refine (po_some ha).run pins sh σ H Q I ⟨w, e, s, v1, s1, R, e1, fun w1 x H1 R1 l1 r1 => ?_⟩
  obtain ⟨x1, t1, ev⟩ := pk R1 r1 ev
  cases x1 with
  | int j =>
    obtain ⟨e3, e4⟩ := rt_inv ev
    subst e3 e4
    exact ⟨j, t1, k w1 H1 R1 l1⟩
  | _ => cases ev⟩
theorem all2_cut {K : PySem.W.Frag} {F : Hp} {ds : List PyData} {xs : List V} (r : RpA K F ds xs) (lo hi : Option Int) : RpA K F (cutP ds lo hi) (cutV xs lo hi) := by
  unfold cutP cutV
  rw [rpA_len r]
  exact rpA_iff.mpr (((rpA_iff.mp r).drop _).take _)
theorem cut_all {ds : List PyData} {lo hi : Option Int} (h : HT.sIx ds.length 0 lo = 0 ∧ HT.sIx ds.length ds.length hi = ds.length) : cutP ds lo hi = ds := by
  unfold cutP
  rw [h.1, h.2]
  simp
theorem e_slc {lo hi : Option Expr} {p2 : Pos} {ml mh : Lv → M (Option Int)} (ha : PE X a (tE X.K w0 H0 ma)) (hl : PO X lo (tO X.K w0 H0 ml)) (hu : PO X hi (tO X.K w0 H0 mh)) :
    PE X (.Subscript a (.Slice lo hi none p2) pos) (tE X.K w0 H0 fun e => bd (ma e) fun v => bd (ml e) fun i => bd (mh e) fun j => bd (peek v) fun x => ofO ((sliceD i j x).map .d)) :=
  pe_imp (pe_slice (sl_list.or sl_tupA) ha hl hu) fun σ H Q h => by
  obtain ⟨w, e, s, v, s', R, ev, k⟩ := h
  obtain ⟨v1, s1, e1, ev⟩ := bd_inv ev
  obtain ⟨v2, s2, e2, ev⟩ := bd_inv ev
  obtain ⟨v3, s3, e3, ev⟩ := bd_inv ev
  refine ⟨w, e, s, v1, s1, R, e1, fun w1 x H1 R1 l1 r1 => ⟨w1, e, s1, v2, s2, R1, e2, fun w2 H2 R2 l2 => ⟨w2, e, s2, v3, s3, R2, e3, fun w3 H3 R3 l3 => ?_⟩⟩⟩
  obtain ⟨x1, t1, ev⟩ := pk R3 ((r1.mono l2).mono l3) ev
  obtain ⟨d, e5, e6, e7⟩ := of_map ev
  subst e6 e7
  have L := (l1.trans l2).trans l3
  cases x1 with
  | list ds =>
    obtain ⟨p, xs, e8, h1, h2⟩ := t1
    subst e8
    cases (show some (PyData.list (cutP ds v2 v3)) = some d from e5)
    refine .inl ⟨p, xs, rfl, SqL.of h1, fun q hq => ?_⟩
    obtain ⟨R4, l4⟩ := R3.new (o := .lst (cutV xs v2 v3)) hq
    refine k _ _ _ R4 (L.trans l4) ?_
    show Rp _ _ _ _
    unfold Rp
    exact ⟨q, _, rfl, upd_same, RpA.mono l4.f _ (all2_cut h2 _ _)⟩
  | tuple ds =>
    obtain ⟨p, xs, e8, h1, h2⟩ := t1
    subst e8
    cases (show some (PyData.tuple (cutP ds v2 v3)) = some d from e5)
    refine .inr ⟨p, xs, rfl, sqT_mono R3.fh h1, fun z => ?_, fun _ q hq => ?_⟩
    · refine k _ _ _ R3 L ?_
      rw [← rpA_len h2] at z
      show Rp _ _ (PyData.tuple (cutP ds v2 v3)) _
      rw [cut_all z]
      unfold Rp
      exact ⟨p, xs, rfl, h1, h2⟩
    · obtain ⟨R4, l4⟩ := R3.new (o := .tup (cutV xs v2 v3)) hq
      refine k _ _ _ R4 (L.trans l4) ?_
      show Rp _ _ _ _
      unfold Rp
      exact ⟨q, _, rfl, SqT.of upd_same, RpA.mono l4.f _ (all2_cut h2 _ _)⟩
  | _ => cases e5
theorem e_rev {k0 : Nat} {p1 p2 p3 : Pos} (ha : PE X a (tE X.K w0 H0 ma)) : PE X (.Subscript a (.Slice none none (some (.UnaryOp .USub (.Constant (.int 1) k0 p1) p2)) p3) pos) (tE X.K w0 H0 fun e => bd (ma e) fun v => bd (peek v) fun x => ofO ((revD x).map .d)) :=
  pe_imp (pe_revL ha) fun σ H Q h => by
  obtain ⟨w, e, s, v, s', R, ev, k⟩ := h
  obtain ⟨v1, s1, e1, ev⟩ := bd_inv ev
  refine ⟨w, e, s, v1, s1, R, e1, fun w1 x H1 R1 l1 r1 => ?_⟩
  obtain ⟨x1, t1, ev⟩ := pk R1 r1 ev
  obtain ⟨d, e5, e6, e7⟩ := of_map ev
  subst e6 e7
  cases x1 with
  | list ds =>
    obtain ⟨p, xs, e8, h1, h2⟩ := t1
    subst e8
    cases (show some (PyData.list ds.reverse) = some d from e5)
    refine ⟨p, xs, rfl, SqL.of h1, fun q hq => ?_⟩
    obtain ⟨R4, l4⟩ := R1.new (o := .lst xs.reverse) hq
    refine k _ _ _ R4 (l1.trans l4) ?_
    show Rp _ _ _ _
    unfold Rp
    exact ⟨q, _, rfl, upd_same, RpA.mono l4.f _ (rpA_iff.mpr (rpA_iff.mp h2).rev)⟩
  | _ => cases e5
/-! ### built-in calls -/
theorem e_b1 {f : B1} {e : Expr} (C : Cn X)
    (ha : PE X e (tCB (semC X (b1F f)) (tCons (tE X.K w0 H0 ma) tNil))) : PE X e (tE X.K w0 H0 fun e => bd (ma e) fun v => b1V f v) := pe_imp ha fun σ H Q h => by
  obtain ⟨w, e, s, v, s', R, ev, k⟩ := h
  obtain ⟨v1, s1, e1, ev⟩ := bd_inv ev
  refine ⟨w, e, s, v1, s1, R, e1, fun w1 x H1 R1 l1 r1 => fun pins sh si us I rv => ?_⟩
  obtain ⟨u, eu, rx⟩ := vals1 rv
  subst eu
  have dat : ∀ {x1 : PyData} {s' : Sto}, Rt X.K H1 w1.F x1 x → ofO ((b1D f x1).map Val.d) s1 = some (v, s') → (∀ w' z H', Rl X.K w0 H0 w' e s' σ H' → Le w H w' H' → Rv X.K w' v z → Q z H') → wpAny (model X.prog X.w) X.A (call (b1F f) [u]) (EP X pins si Q) X.xe sh := fun t1 ev k => by
    obtain ⟨d, e5, e6, e7⟩ := of_map ev
    subst e6 e7
    exact b1_ok C I rx R1 t1 e5 fun w' z H' R' l' r' => k w' z H' R' (l1.trans l') r'
  cases v1 with
  | s ns =>
    cases f with
    | len =>
      obtain ⟨e5, e6⟩ := rt_inv (show rt (Val.d (.int ns.length)) s1 = some (v, s') from ev)
      subst e5 e6
      obtain ⟨p, e7, hq⟩ := r1
      subst e7
      exact call_len_seq pins sh si H1 _ _ Q I (.cons rx .nil) ⟨p, _, rfl, .inl (sqL_mono R1.fh hq), by rw [List.length_map]; exact k w1 _ H1 R1 l1 (show Rp _ _ _ _ from rp_int)⟩
    | _ => cases ev
  | d y =>
    obtain ⟨x1, t1, ev⟩ := pk R1 r1 (show bd (peek (.d y)) (fun x => ofO ((b1D f x).map Val.d)) s1 = some (v, s') from ev)
    exact dat t1 ev k
  | g n =>
    obtain ⟨x1, t1, ev⟩ := pk R1 r1 (show bd (peek (.g n)) (fun x => ofO ((b1D f x).map Val.d)) s1 = some (v, s') from ev)
    exact dat t1 ev k
  | l n =>
    obtain ⟨x1, t1, ev⟩ := pk R1 r1 (show bd (peek (.l n)) (fun x => ofO ((b1D f x).map Val.d)) s1 = some (v, s') from ev)
    exact dat t1 ev k
def b2F : B2 → Value
  | .max => .builtin "max"
  | .min => .builtin "min"
theorem e_b2 {f : B2} {e : Expr} (C : Cn X)
    (ha : PE X e (tCB (semC X (b2F f)) (tCons (tE X.K w0 H0 ma) (tCons (tE X.K w0 H0 mb) tNil)))) : PE X e (tE X.K w0 H0 fun e => bd (ma e) fun v => bd (mb e) fun u => bd (peek v) fun x => bd (peek u) fun y => ofO ((b2D f x y).map .d)) := pe_imp ha fun σ H Q h => by
  obtain ⟨w, e, s, v, s', R, ev, k⟩ := h
  obtain ⟨v1, s1, e1, ev⟩ := bd_inv ev
  obtain ⟨v2, s2, e2, ev⟩ := bd_inv ev
  refine ⟨w, e, s, v1, s1, R, e1, fun w1 x H1 R1 l1 r1 => ⟨w1, e, s1, v2, s2, R1, e2, fun w2 y H2 R2 l2 r2 => fun pins sh si us I rv => ?_⟩⟩
  obtain ⟨x1, t1, ev⟩ := pk R2 (r1.mono l2) ev
  obtain ⟨y1, t2, ev⟩ := pk R2 r2 ev
  obtain ⟨d, e5, e6, e7⟩ := of_map ev
  subst e6 e7
  unfold b2D at e5
  split at e5
  · cases (show x = .int _ from t1)
    cases (show y = .int _ from t2)
    cases e5
    exact call_max2 C.calm pins sh si H2 _ us Q I rv ⟨_, _, rfl, k w2 _ H2 R2 (l1.trans l2) (show Rp _ _ _ _ from rp_int)⟩
  · cases (show x = .int _ from t1)
    cases (show y = .int _ from t2)
    cases e5
    exact call_min2 C.calm pins sh si H2 _ us Q I rv ⟨_, _, rfl, k w2 _ H2 R2 (l1.trans l2) (show Rp _ _ _ _ from rp_int)⟩
  · cases e5
def tyN : Ty → String
  | .int => "int"
  | .bool => "bool"
  | .str => "str"
  | .tuple => "tuple"
  | .list => "list"
  | .dict => "dict"
theorem isi_ok {t : Ty} {pins : List (Addr × Obj)} {si : L2.St} {H : Hp} {sh : Shared} {Q : VK} {x : V} {v : Value} {w : Wd} {e : Lv} {s : Sto} {σ : L2.St} {d : PyData} (I : Inv X pins si H sh) (R : Rl X.K w0 H0 w e s σ H) (rx : RelV x v) (hx : Rt X.K H w.F d x) (k : Q (.bl (isiD t d)) H) :
    wpAny (model X.prog X.w) X.A (call (.builtin "isinstance") [v, .type (tyN t)]) (EP X pins si Q) X.xe sh := by
  obtain ⟨as, ra⟩ := hx.rd I R rx
  have fin : ∀ tk, sh.toks ≤ tk → EP X pins si Q (.bool (isiD t d)) { sh with toks := tk } := fun tk _ => ⟨.bl (isiD t d), H, I.tok _, rfl, k⟩
  cases t with
  | int => exact PySem.W.isinstance_int_data ra fin
  | bool => exact PySem.W.isinstance_bool_data ra fin
  | str => exact PySem.W.isinstance_str_data ra fin
  | tuple => exact PySem.W.isinstance_tuple_data ra fin
  | list => exact PySem.W.isinstance_list_data ra fin
  | dict => exact PySem.W.isinstance_dict_data ra fin
theorem e_isi {t : Ty} {e : Expr} (ha : PE X e (tCB (semC X (.builtin "isinstance")) (tCons (tE X.K w0 H0 ma) (tCons (tC (.ty (tyN t))) tNil)))) :
    PE X e (tE X.K w0 H0 fun e => bd (ma e) fun v => bd (peek v) fun x => rt (.d (.bool (isiD t x)))) := pe_imp ha fun σ H Q h => by
  obtain ⟨w, e, s, v, s', R, ev, k⟩ := h
  obtain ⟨v1, s1, e1, ev⟩ := bd_inv ev
  refine ⟨w, e, s, v1, s1, R, e1, fun w1 x H1 R1 l1 r1 => fun pins sh si us I rv => ?_⟩
  obtain ⟨u1, u2, eu, rx, r2⟩ := vals2 rv
  subst eu
  cases (show u2 = Value.type (tyN t) from r2)
  obtain ⟨x1, t1, ev⟩ := pk R1 r1 ev
  obtain ⟨e6, e7⟩ := rt_inv ev
  subst e6 e7
  exact isi_ok I R1 rx t1 (k w1 _ H1 R1 l1 (show Rp _ _ _ _ from rp_bool))
/-! ### calls of defs -/
/-- what a def promises of its evaluation: from any world without own objects -/
def spE (K : PySem.W.Frag) (fn : List Val → List SO → Option (Val × List SO)) (n : Nat) : Sp := fun xs H Q _ => xs.length = n ∧ ∃ w vs G r G', w.nu = [] ∧ Rl K w H w [] ⟨[], G⟩ [] H ∧ All2 (Rv K w) vs xs ∧ fn vs G = some (r, G') ∧
  ∀ w' z H', w'.nu = [] → Rl K w H w' [] ⟨[], G'⟩ [] H' → Le w H w' H' → Rv K w' r z → Q z H'
theorem noV_ok {K : PySem.W.Frag} {w : Wd} : ∀ {vs : List Val} {xs : List V}, noV vs = true → All2 (Rv K w) vs xs → All2 (Rv K { w with nu := [] }) vs xs
  | [], _, _, .nil => .nil
  | v :: vs, _, h, .cons r rs => by
    cases v with
    | l n => cases h
    | d d => exact .cons r (noV_ok (show noV vs = true from h) rs)
    | g n => exact .cons r (noV_ok (show noV vs = true from h) rs)
    | s n => exact .cons r (noV_ok (show noV vs = true from h) rs)
theorem noG_ok {K : PySem.W.Frag} {w : Wd} {H : Hp} : ∀ {G : List SO} {as : List Addr}, noG G = true → Rs K w H G as → Rs K { w with nu := [] } H G as
  | [], _, _, .nil => .nil
  | o :: os, _, h, .cons r rs => by
    cases o with
    | lst vs =>
      have h : noV vs = true ∧ noG os = true := by simpa [noG] using h
      obtain ⟨h1, xs, h2, h3⟩ := r
      exact .cons ⟨h1, xs, h2, noV_ok h.1 h3⟩ (noG_ok h.2 rs)
    | dct kvs => exact .cons r (noG_ok (show noG os = true from h) rs)
    | frz x => exact .cons r (noG_ok (show noG os = true from h) rs)
    | ins c fs => exact r.elim
/-- the callee's start: the caller's own objects are nobody's -/
theorem Rl.enter {K : PySem.W.Frag} {w : Wd} {H : Hp} {e : Lv} {s : Sto} {σ : L2.St} (R : Rl K w0 H0 w e s σ H) (g : noG s.G = true) : Rl K { w with nu := [] } H { w with nu := [] } [] ⟨[], s.G⟩ [] H :=
  ⟨.refl, R.fh, by
    show (w.mu ++ []).Nodup
    rw [List.append_nil]
    exact (List.nodup_append.mp R.nd).1, fun a ha => R.tr a (List.mem_append_left _ (by simpa using ha)), noG_ok g R.G, .nil, .nil⟩
/-- .. and the way back -/
theorem Rl.leave {K : PySem.W.Frag} {w w' : Wd} {H H' : Hp} {e : Lv} {s : Sto} {G' : List SO} {σ : L2.St} (R : Rl K w0 H0 w e s σ H) (hn : w'.nu = []) (R' : Rl K { w with nu := [] } H w' [] ⟨[], G'⟩ [] H') (l : Le { w with nu := [] } H w' H') :
    Rl K w0 H0 { w' with nu := w.nu } e { s with G := G' } σ H' ∧ Le w H { w' with nu := w.nu } H' := by
  have fn : ∀ a o, w'.F a = some o → w.F a = some o ∨ H a = none ∨ a ∈ w.nu := fun a o q => by
    rcases l.fn a o q with z | z | z
    · exact .inl z
    · exact .inr (.inl z)
    · cases z
  have L : Le w H { w' with nu := w.nu } H' := ⟨l.f, fn, l.mu, ⟨[], by simp, by simp⟩, fun a o q h1 _ => l.same a o q h1 (by simp), l.trk⟩
  obtain ⟨r, e1, e2⟩ := l.mu
  have nd := List.nodup_append.mp R.nd
  have nd' := List.nodup_append.mp R'.nd
  refine ⟨⟨R.le.trans L, R'.fh, ?_, fun a ha => ?_, ?_, ?_, R.mono_env L⟩, L⟩
  · show (w'.mu ++ w.nu).Nodup
    refine List.nodup_append.mpr ⟨nd'.1, nd.2.1, fun a ha b hb => ?_⟩
    rintro rfl
    rw [e1] at ha
    rcases List.mem_append.mp ha with z | z
    · exact nd.2.2 a z a hb rfl
    · exact R.tr a (List.mem_append_right _ hb) (e2 a z)
  · rcases List.mem_append.mp ha with z | z
    · exact R'.tr a (List.mem_append_left _ z)
    · exact l.trk a (R.tr a (List.mem_append_right _ z))
  · exact R'.G.imp fun o a h => Ro.congr (w := w') (w' := { w' with nu := w.nu }) (Sub.refl _) ⟨[], by simp⟩ ⟨w.nu, by simp [hn]⟩ (fun _ q => q) (fun q => q) h
  · refine R.L.impM fun o a ha h => h.keep L (fun u q => l.same a u q (fun z => nd.2.2 a z a ha rfl) (by simp)) fun q => ?_
    show w'.F a = none
    cases z : w'.F a with
    | none => rfl
    | some u =>
      rcases l.fn a u z with y | y | y
      · rw [show w.F a = _ from y] at q; cases q
      · exact absurd y (R.tr a (List.mem_append_right _ ha))
      · cases y
theorem noV_by : ∀ {us : List Val}, (∀ v ∈ us, ∀ n, v ≠ .l n) → noV us = true
  | [], _ => rfl
  | u :: us, h => by
    have ih := noV_by (us := us) fun v hv => h v (List.mem_cons_of_mem _ hv)
    cases u with
    | l n => exact absurd rfl (h (.l n) List.mem_cons_self n)
    | d _ => exact ih
    | g _ => exact ih
    | s _ => exact ih
theorem e_call {n f : Nat} {T : Tx} {e : Expr} {mr : Lv → M (List Val)} (hw : w0.nu = []) (hl : ∀ (lv : Lv) (s : Sto) vs s', mr lv s = some (vs, s') → vs.length = n)
    (h : PE X e (tCall (spE X.K (T.fn f) n) [] C8.E0 (tA X.K w0 H0 mr))) :
    PE X e (tE X.K w0 H0 fun e => bd (mr e) fun vs => bd (keepVs vs) fun vs => callV T f vs) := pe_imp h fun σ H Q h => by
  obtain ⟨w, e, s, v, s', R, ev, k⟩ := h
  obtain ⟨v1, s1, e1, ev⟩ := bd_inv ev
  obtain ⟨us, s2, e2, ev⟩ := bd_inv ev
  refine ⟨w, e, s, v1, s1, R, e1, fun w1 xs H1 R1 l1 r1 => ?_⟩
  obtain ⟨w2, R2, l2, r2, hn2⟩ := keepVs_ok hw R1 r1 e2
  have ev : (if noG s2.G then (T.fn f us s2.G).map fun p => (p.1, ({ s2 with G := p.2 } : Sto)) else none) = some (v, s') := ev
  split at ev
  · rename_i hg
    obtain ⟨⟨r, G'⟩, h3, h4⟩ := Option.map_eq_some_iff.mp ev
    cases h4
    have nv : noV us = true := noV_by hn2
    rw [List.append_nil]
    refine ⟨by rw [← r1.len]; exact hl _ _ _ _ e1, { w2 with nu := [] }, us, s2.G, r, G', rfl, R2.enter hg, noV_ok nv r2, h3, fun w' z H' hn R' l' r' => ?_⟩
    obtain ⟨R3, l3⟩ := R2.leave hn R' l'
    exact k _ z H' R3 ((l1.trans l2).trans l3) (Rv.congr (w := w') (w' := { w' with nu := w2.nu }) (Sub.refl _) ⟨[], by simp⟩ ⟨w2.nu, by simp [hn]⟩ r')
  · cases ev
/-! ### methods -/
theorem e_app {e : Expr} (C : Cn X) (hw : w0.nu = []) (h : PE X e (tBM X.K "list" (semM X "list.append") (tE X.K w0 H0 ma) (tCons (tE X.K w0 H0 mb) tNil))) :
    PE X e (tE X.K w0 H0 fun e => bd (ma e) fun o => bd (lstV o) fun _ => bd (mb e) fun a => bd (appV o a) fun _ => rt (.d .none)) := pe_imp h fun σ H Q h => by
  obtain ⟨w, e, s, v, s', R, ev, k⟩ := h
  obtain ⟨v1, s1, e1, ev⟩ := bd_inv ev
  obtain ⟨_, s2, e2, ev⟩ := bd_inv ev
  obtain ⟨v3, s3, e3, ev⟩ := bd_inv ev
  obtain ⟨_, s4, e4, ev⟩ := bd_inv ev
  obtain ⟨e5, e6⟩ := rt_inv ev
  subst e5 e6
  refine ⟨w, e, s, v1, s1, R, e1, fun w1 x H1 R1 l1 r1 => ?_⟩
  have e2 : (match getO v1 s1 with | some (.lst _) => some ((), s1) | _ => none) = some ((), s2) := e2
  split at e2
  · rename_i xs hq
    cases e2
    refine ⟨app_ty (v := v1) (s' := s1) (u := ()) hw R1 r1 ⟨xs, hq⟩, w1, e, s1, v3, s3, R1, e3, fun w2 y H2 R2 l2 r2 => fun pins sh si vv us I rx rs => ?_⟩
    obtain ⟨u, eu, ry⟩ := vals1 rs
    subst eu
    exact app_ok2 C hw I rx ry R2 (r1.mono l2) r2 e4 fun w' H' R' l' => k w' _ H' R' ((l1.trans l2).trans l') (show Rp _ _ _ _ from rp_none)
  · cases e2
theorem e_get {e : Expr} (C : Cn X) (hw : w0.nu = []) (h : PE X e (tDGet2 (tE X.K w0 H0 ma) (tE X.K w0 H0 mb) (tE X.K w0 H0 mc))) :
    PE X e (tE X.K w0 H0 fun e => bd (ma e) fun d => bd (dctV d) fun _ => bd (mb e) fun k => bd (mc e) fun x => getV d k x) := pe_imp h fun σ H Q h => by
  obtain ⟨w, e, s, v, s', R, ev, k⟩ := h
  obtain ⟨v1, s1, e1, ev⟩ := bd_inv ev
  obtain ⟨_, s2, e2, ev⟩ := bd_inv ev
  obtain ⟨v3, s3, e3, ev⟩ := bd_inv ev
  obtain ⟨v4, s4, e4, eg⟩ := bd_inv ev
  refine ⟨w, e, s, v1, s1, R, e1, fun w1 x H1 R1 l1 r1 => ?_⟩
  obtain ⟨d1, t1, e2'⟩ := pk R1 r1 e2
  cases d1 with
  | dict kvs =>
    obtain ⟨_, e5⟩ := rt_inv e2'
    subst e5
    obtain ⟨p, ks, e6, hp, hr⟩ := t1
    subst e6
    refine ⟨p, rfl, .inl ⟨ks, .inl hp⟩, w1, e, s2, v3, s3, R1, e3, fun w2 y H2 R2 l2 r2 => ⟨w2, e, s3, v4, s4, R2, e4, fun w3 z H3 R3 l3 r3 => ?_⟩⟩
    obtain ⟨kd, tk, eg⟩ := pk R3 (r2.mono l3) eg
    obtain ⟨xd, s5, e5, eg⟩ := bd_inv eg
    obtain ⟨w4, R4, l4, r4⟩ := keep_ok hw R3 r3 e5
    obtain ⟨dd, td, eh⟩ := pk R4 (((r1.mono l2).mono l3).mono l4) eg
    cases dd with
    | dict kvs2 =>
      obtain ⟨p', ks2, e6, hp2, hr2⟩ := td
      cases e6
      have ev : (if isKey kd then rt (Val.d ((lookD kd kvs2).getD xd)) else no) s5 = some (v, s') := eh
      split at ev
      · rename_i hk
        obtain ⟨e7, e8⟩ := rt_inv ev
        subst e7 e8
        obtain ⟨q, e9⟩ := isKey_kP hk
        subst e9
        cases rt_key tk
        have lk := look_ok q hr2
        refine ⟨valV ks2 q, DGet.k hp2, k w4 _ H3 R4 (((l1.trans l2).trans l3).trans l4) ?_⟩
        show Rp _ _ _ _
        cases hl : lookD (kP q) kvs2 with
        | none => rw [lk.2 hl]; exact r4
        | some d =>
          obtain ⟨x, h3, h4⟩ := lk.1 d hl
          rw [h3]; exact h4
      · cases ev
    | _ => cases eh
  | _ => cases e2'
end
end Ev

/-! what is walked: lists, tuples, ranges, enumerate, zip -/
namespace Ev
open PySem PySem.Spec PyProof.Rows L2
/-! ### iterators that make a tuple at each turn -/
/-- at turn i below n a new tuple of xs, R i xs, while G stands -/
def Jt (n : Nat) (G : Hp → Prop) (R : Nat → List V → Prop) : It :=
  ⟨fun i H => i < n ∧ G H, fun i H v H' => ∃ T xs, v = .ref T ∧ H T = none ∧ H' = upd H T (.tup xs) ∧ R i xs, fun i H => i = n ∧ G H⟩
theorem turn_walk {P : Program} {W : World} {K : PySem.W.Frag} {elts : List Expr} {kk : Nat} {tpos : Pos} {it : Addr} {fp wr : List Addr} {n : Nat} {G : Hp → Prop} {R : Nat → List V → Prop} {tn : Nat → Heap → Prop}
    (hmem : it ∈ fp) (hobj : ∀ i h, tn i h → ∀ b ∈ fp, ∃ o, h.get? b = some o ∧ ∀ v, o.data ≠ .cell v) (hkeep : ∀ i h h', tn i h → (∀ b ∈ fp, ∀ o, h.get? b = some o → h'.get? b = some o) → tn i h') (hwr : ∀ b ∈ wr, b ∈ fp)
    (hself : ∀ (A : Around) (i : Nat) (s : Shared) (Q : Value → Shared → Prop) (E : Value → Shared → Prop), tn i s.heap → Q (.ref it) s → wpAny (model P W) A (pyIter (.ref it)) Q E s)
    (hw : ∀ (X : Cx), X.prog = P → X.w = W → X.K = K → X.calm = true → ∀ (pins : List (Addr × Obj)) (s : Shared) (si : L2.St) (H : Hp), L2.Inv X pins si H s → G H →
      ∃ (Pt : Nat → Array Value → Prop) (St : Nat → Heap → Prop) (Mid : Nat → Addr → Heap → Prop) (fq : List Addr), WalksT P W X.A it fq wr n Pt St Mid ∧ (∀ i h, St i h → tn i h) ∧ (∀ i, tn i s.heap → St i s.heap) ∧
        ∀ i vals, i < n → Pt i vals → ∃ xs, R i xs ∧ Vals xs vals.toList ∧ xs.length ≤ 16) :
    Turn P W K (.Tuple elts kk tpos) (Jt n G R) fp it tn where
  mem := hmem
  obj := hobj
  keep := hkeep
  item := by
    intro X hP hW hK hc i pins s si H E I hf st hg
    subst hP hW hK
    obtain ⟨hi, hG⟩ := hg
    obtain ⟨Pt, St, Mid, fq, w, w1, w2, w3⟩ := hw X rfl rfl rfl hc pins s si H I hG
    refine w.item i s _ _ hi (w2 i st) fun T vals h1 tk hp hT hv hm hk => ⟨_, rfl, w.go elts kk tpos i T { s with heap := h1, toks := tk } _ _ hm fun h2 st2 hk2 => ?_⟩
    obtain ⟨xs, r1, r2, r3⟩ := w3 i vals hi hp
    have k2 : ∀ b o, b ∉ fp → s.heap.get? b = some o → h2.get? b = some o := fun b o hb e => hk2 b o (fun z => hb (hwr b z)) (hk b o (fun z => hb (hwr b z)) e)
    have hv2 : h2.IsTuple T vals := hv.at fun o e => hk2 T o (w.apart _ _ _ hm) e
    have new : ObjOk X.prog X.w (upd H T (.tup xs)) h2 T (.tup xs) := ⟨Nat.le_trans r3 (by rw [size_line]; decide), vals.toList, r2, by rw [Array.toArray_toList]; exact hv2⟩
    have I2 : L2.Inv X pins si (upd H T (.tup xs)) { s with heap := h2, toks := tk } := I.turnedNew (ch := fp) k2 hf hT new
    refine ⟨.ref T, _, I2, rfl, ⟨T, xs, rfl, I.hok.fresh hT, rfl, r1⟩, w1 _ _ st2, fun b hb => ?_⟩
    obtain ⟨o, ho, _⟩ := hobj i _ st b hb
    rw [upd_ne (Nat.ne_of_lt (Nat.lt_of_lt_of_le (Heap.lt_size ho) hT))]
    exact (hf b hb).1
  done := by
    intro X hP hW hK hc i pins s si H E I hf st hg
    subst hP hW hK
    obtain ⟨hi, hG⟩ := hg
    obtain ⟨Pt, St, Mid, fq, w, w1, w2, w3⟩ := hw X rfl rfl rfl hc pins s si H I hG
    subst hi
    exact w.done s _ _ (w2 _ st) fun h2 tk hk => ⟨rfl, I.turnedL (ch := fp) (fun b o hb e => hk b o (fun z => hb (hwr b z)) e) hf⟩
  self := hself
/-! ### a list or a tuple as a source -/
def Src (K : PySem.W.Frag) (b : Bool) (H : Hp) (a : Addr) (xs : List V) : Prop := if b then SqT K H a xs else SqL K H a xs
def srcH (b : Bool) (h : Heap) (a : Addr) (its : Array Value) : Prop := if b then h.IsTuple a its else h.IsList a its
def itH (b : Bool) (h : Heap) (it a : Addr) (i : Nat) : Prop := if b then h.IsTupleIter it a i else h.IsListIter it a i
def itO (b : Bool) (a : Addr) : Obj := { cls := .type (if b then "tuple_iterator" else "list_iterator"), data := .fields #[.ref a, .int 0 0] }
theorem src_h {X : Cx} {pins : List (Addr × Obj)} {si : L2.St} {H : Hp} {s : Shared} (I : L2.Inv X pins si H s) {b : Bool} {a : Addr} {xs : List V} (h : Src X.K b H a xs) : ∃ its, Vals xs its ∧ srcH b s.heap a its.toArray := by
  cases b with
  | false =>
    obtain ⟨its, r, p, _⟩ := I.list (show SqL X.K H a xs from h)
    exact ⟨its, r, p.isList⟩
  | true =>
    obtain ⟨its, r, p, _⟩ := I.tuple (show SqT X.K H a xs from h)
    exact ⟨its, r, p⟩
theorem src_lt {b : Bool} {h : Heap} {a : Addr} {its : Array Value} (p : srcH b h a its) : a < h.objs.size := by
  cases b with
  | false => obtain ⟨o, e, _⟩ := (show h.IsList a its from p); exact Heap.lt_size e
  | true => obtain ⟨o, e, _⟩ := (show h.IsTuple a its from p); exact Heap.lt_size e
theorem src_draws {P : Program} {W : World} {A : Around} (hh : A.handled = none) (b : Bool) (it a : Addr) (ne : a ≠ it) (its : Array Value) :
    Draws P W A it [it, a] its.size (fun i v => its[i]? = some v) (fun i h => itH b h it a i ∧ srcH b h a its) := by
  cases b with
  | false => exact Draws.list hh it a ne its
  | true => exact Draws.tuple hh it a ne its
theorem src_begins (b : Bool) (a : Addr) (its : Array Value) : Begins (.ref a) (itO b a) (fun h => srcH b h a its) := by
  cases b with
  | false => exact begins_list a its
  | true => exact begins_tuple a its
theorem it_new {b : Bool} {h : Heap} {it a : Addr} (e : h.get? it = some (itO b a)) : itH b h it a 0 := by
  cases b with
  | false => exact ⟨_, e, rfl, rfl⟩
  | true => exact ⟨_, e, rfl, rfl⟩
theorem it_obj {b : Bool} {h : Heap} {it a : Addr} {i : Nat} (e : itH b h it a i) : ∃ o, h.get? it = some o ∧ ∀ v, o.data ≠ .cell v := by
  cases b with
  | false => obtain ⟨o, e, _, d⟩ := (show h.IsListIter it a i from e); exact ⟨o, e, fun v z => by rw [d] at z; cases z⟩
  | true => obtain ⟨o, e, _, d⟩ := (show h.IsTupleIter it a i from e); exact ⟨o, e, fun v z => by rw [d] at z; cases z⟩
theorem it_keep {b : Bool} {h h' : Heap} {it a : Addr} {i : Nat} (e : itH b h it a i) (k : ∀ o, h.get? it = some o → h'.get? it = some o) : itH b h' it a i := by
  cases b with
  | false => exact (show h.IsListIter it a i from e).at k
  | true => exact (show h.IsTupleIter it a i from e).at k
/-! ### enumerate -/
theorem meets_enum1 {v : Value} {o : Obj} {H : Heap → Prop} (B : Begins v o H) :
    Meets (Builtin.«enumerate.__new__» ⟨[.type "enumerate", v], []⟩) (fun _ R s => H s.heap ∧
      R (.ok (.ret (.ref (s.heap.push o).objs.size))) { s with heap := (s.heap.push o).push { cls := .type "enumerate", data := .fields #[.none, .bool false, .ref s.heap.objs.size, rawInt 0, .none, .none] } }) :=
  .of_wp fun prog w A R s h => by
    obtain ⟨hp, g, d, tk, os⟩ := s
    obtain ⟨h1, h⟩ := h
    have sub := sub_enumerate
    have begin_ : ∀ {A' : Around} {E Q : Value → Shared → Prop}, Q (.ref hp.objs.size) ⟨hp.push o, g, d, tk, os⟩ → wpAny (model prog w) A' (pyIter v) Q E ⟨hp, g, d, tk, os⟩ := fun q => B.iter prog w _ _ _ _ h1 q
    wp_walk using begin_
    refine wpAny_stack_any fun st => wpAny_pure ?_
    split
    · rename_i c _ _ _ _ _
      cases (c == Value.type "enumerate") <;> (wp_walk using begin_; exact ⟨_, rfl, h⟩)
    · wp_walk using begin_
      exact ⟨_, rfl, h⟩
theorem enum1 {P : Program} {W : World} {A : Around} {E : Value → Shared → Prop} {s : Shared} {v : Value} {o : Obj} {H : Heap → Prop} {Q : Value → Shared → Prop} (B : Begins v o H) (h1 : H s.heap)
    (h : ∀ h', IsEnum h' (s.heap.objs.size + 1) s.heap.objs.size 0 .none → h'.get? s.heap.objs.size = some o → (∀ b o, s.heap.get? b = some o → h'.get? b = some o) → Q (.ref (s.heap.objs.size + 1)) { s with heap := h' }) :
    wpAny (model P W) A (call (.type "enumerate") [v]) Q E s := by
  refine callType_new F.called_enumerate (by decide) (F.typeCall_enumerate_1 _) (F.newCall_enumerate_1 _) (fun obj => F.args_object_init_2 obj _) F.entry_enumerate_new (meets_enum1 B) ⟨h1, ?_⟩
  have sz : (s.heap.push o).objs.size = s.heap.objs.size + 1 := Heap.size_push ..
  have he : IsEnum ((s.heap.push o).push { cls := .type "enumerate", data := .fields #[.none, .bool false, .ref s.heap.objs.size, rawInt 0, .none, .none] }) (s.heap.push o).objs.size s.heap.objs.size 0 .none := Heap.get?_push_size _ rfl
  show _ ∧ _
  rw [sz] at he ⊢
  exact ⟨⟨_, he, rfl⟩, h _ he (Heap.get?_push_of_some _ (Heap.get?_push_size _ B.free)) fun b o x => Heap.get?_push_of_some _ (Heap.get?_push_of_some _ x)⟩
theorem turn_enumS {P : Program} {W : World} {K : PySem.W.Frag} {elts : List Expr} {kk : Nat} {tpos : Pos} {b : Bool} {a e it : Addr} {xs : List V} (h1 : e ≠ it) (h2 : a ≠ e) (h3 : a ≠ it) :
    Turn P W K (.Tuple elts kk tpos) (Jt xs.length (fun H => Src K b H a xs) (fun i ys => ∃ x, xs[i]? = some x ∧ ys = [.int (i : Nat), x])) [e, it] e (fun i h => (∃ old, IsEnum h e it ((0 : Int) + (i : Nat)) old) ∧ itH b h it a i) := by
  refine turn_walk (wr := [e, it]) (by simp) (fun i h st c hc => ?_) (fun i h h' st k => ?_) (fun b hb => hb) (fun A i s Q E st h => ?_) (fun X hP hW hK hc pins s si H I hG => ?_)
  · obtain ⟨⟨old, he⟩, hi⟩ := st
    have hc : c = e ∨ c = it := by simpa using hc
    rcases hc with q | q
    · subst q; exact ⟨_, he, fun v z => nomatch z⟩
    · subst q; exact it_obj hi
  · obtain ⟨⟨old, he⟩, hi⟩ := st
    exact ⟨⟨old, k e (by simp) _ he⟩, it_keep hi fun o q => k it (by simp) o q⟩
  · obtain ⟨⟨old, he⟩, _⟩ := st
    exact wpAny_pyIter_enum he h
  · subst hP hW hK
    obtain ⟨its, rv, hs⟩ := src_h I hG
    have D := src_draws (P := X.prog) (W := X.w) (A := X.A.in1) (I.ok.hd hc) b it a h3 its.toArray
    refine ⟨_, _, _, _, (show xs.length = its.toArray.size by rw [List.size_toArray]; exact rv.length) ▸ WalksT.enumFrom 0 D e h1 (by simp [h1, Ne.symm h2]) (by simp), fun i h st => ⟨st.1, st.2.1⟩, fun i st => ⟨st.1, st.2, hs⟩, fun i vals hi hp => ?_⟩
    obtain ⟨t, x, hx, ev⟩ := hp
    subst ev
    obtain ⟨z, hz⟩ : ∃ z, xs[i]? = some z := ⟨xs[i], by simp [hi]⟩
    obtain ⟨u, hu, ru⟩ := rv.get hz
    have e2 : x = u := by
      have e3 : its[i]? = some x := by simpa using hx
      rw [e3] at hu; exact Option.some.inj hu
    subst e2
    exact ⟨_, ⟨z, hz, rfl⟩, .cons ⟨t, by rw [Int.zero_add]⟩ (.cons ru .nil), by show 2 ≤ 16; decide⟩
section
variable {X : Cx} {a b : Expr} {ta tb : TE} {p pos tpos : Pos} {elts : List Expr} {kk : Nat}
theorem pi_enumS {t : TA} (hg : Gl X "enumerate") (hm : X.mg "enumerate" = none) (ha : PA X [a] t) (hs : starEach [a] X.env = [(false, eval a X.env)]) :
    PI X (.Tuple elts kk tpos) (.Call (.Name "enumerate" p) [a] [] pos) (fun σ H R => t σ H fun vs H1 => ∃ (b : Bool) (c : Addr) (xs : List V), vs = [.ref c] ∧ Src X.K b H1 c xs ∧ R (Jt xs.length (fun H => Src X.K b H c xs) (fun i ys => ∃ x, xs[i]? = some x ∧ ys = [.int (i : Nat), x])) H1) := by
  refine ⟨fun pins s σ H R I h => ?_⟩
  refine Call_ (ld_blt I hg hm boot_enumerate (PyProof.Rows.callWith_type1 (thn (ha.run pos pins s σ H _ I h) fun us s1 ⟨vs, H1, I1, r1, b, c, xs, e2, hx, q⟩ => ?_) hs rfl))
  subst e2
  obtain ⟨u, e3, rx⟩ := vals1 r1
  subst e3
  cases rx
  obtain ⟨its, rv, hs'⟩ := src_h I1 hx
  refine enum1 (src_begins b c its.toArray) hs' fun h' he hi hk => wpAny_pyIter_enum he ?_
  have I2 : L2.Inv X pins σ H1 { s1 with heap := h' } := I1.kept (t' := s1.toks) hk
  have lt : c < s1.heap.objs.size := src_lt hs'
  refine ⟨s1.heap.objs.size + 1, [s1.heap.objs.size + 1, s1.heap.objs.size], _, _, H1, rfl, I2, turn_enumS (b := b) (a := c) (Nat.succ_ne_self _) (Nat.ne_of_lt (Nat.lt_succ_of_lt lt)) (Nat.ne_of_lt lt), ⟨⟨.none, he⟩, it_new hi⟩, fun d hd => ?_, q⟩
  have hle : s1.heap.objs.size ≤ d := by
    have hd : d = s1.heap.objs.size + 1 ∨ d = s1.heap.objs.size := by simpa using hd
    rcases hd with z | z
    · rw [z]; exact Nat.le_succ _
    · rw [z]; exact Nat.le_refl _
  exact I1.fpOk hle (I1.hok.fresh hle)
/-! ### zip -/
theorem turn_zipS {P : Program} {W : World} {K : PySem.W.Frag} {elts : List Expr} {kk : Nat} {tpos : Pos} {b1 b2 : Bool} {a1 a2 z TI TO i1 i2 : Addr} {xs ys : List V} (S : ZipSep2 z TI TO i1 i2 [i1, a1] [i2, a2]) (h1 : a1 ≠ i1) (h2 : a2 ≠ i2) :
    Turn P W K (.Tuple elts kk tpos) (Jt (min xs.length ys.length) (fun H => Src K b1 H a1 xs ∧ Src K b2 H a2 ys) (fun i vs => ∃ x y, xs[i]? = some x ∧ ys[i]? = some y ∧ vs = [x, y])) [z, TI, TO, i1, i2] z
      (fun i h => IsZip h z TI TO .none ∧ IsTupOf2 h TI (.ref i1) (.ref i2) ∧ (∃ a1 a2, IsTupOf2 h TO a1 a2) ∧ itH b1 h i1 a1 i ∧ itH b2 h i2 a2 i) := by
  refine turn_walk (wr := [z, TO, i1, i2]) (by simp) (fun i h st c hc => ?_) (fun i h h' st k => ?_) (fun b hb => ?_) (fun A i s Q E st h => ?_) (fun X hP hW hK hc pins s si H I hG => ?_)
  · obtain ⟨hz, hTI, ⟨x, y, hTO⟩, st1, st2⟩ := st
    have hc : c = z ∨ c = TI ∨ c = TO ∨ c = i1 ∨ c = i2 := by simpa using hc
    rcases hc with q | q | q | q | q
    · subst q; exact ⟨_, hz, fun v z => nomatch z⟩
    · subst q; exact ⟨_, hTI, fun v z => nomatch z⟩
    · subst q; exact ⟨_, hTO, fun v z => nomatch z⟩
    · subst q; exact it_obj st1
    · subst q; exact it_obj st2
  · obtain ⟨hz, hTI, ⟨x, y, hTO⟩, st1, st2⟩ := st
    exact ⟨k z (by simp) _ hz, k TI (by simp) _ hTI, ⟨x, y, k TO (by simp) _ hTO⟩, it_keep st1 fun o q => k i1 (by simp) o q, it_keep st2 fun o q => k i2 (by simp) o q⟩
  · have hb : b = z ∨ b = TO ∨ b = i1 ∨ b = i2 := by simpa using hb
    rcases hb with q | q | q | q <;> simp [q]
  · exact wpAny_pyIter_zip st.1 h
  · subst hP hW hK
    obtain ⟨its, rv, hs⟩ := src_h I hG.1
    obtain ⟨jts, rw_, ht⟩ := src_h I hG.2
    have D1 := src_draws (P := X.prog) (W := X.w) (A := X.A.in1) (I.ok.hd hc) b1 i1 a1 h1 its.toArray
    have D2 := src_draws (P := X.prog) (W := X.w) (A := X.A.in1) (I.ok.hd hc) b2 i2 a2 h2 jts.toArray
    refine ⟨_, _, _, _, (show min xs.length ys.length = min its.toArray.size jts.toArray.size by rw [List.size_toArray, List.size_toArray, rv.length, rw_.length]) ▸ WalksT.zipD2 S D1 D2,
      fun i h st => ⟨st.1, st.2.1, st.2.2.1, st.2.2.2.1.1, st.2.2.2.2.1⟩, fun i st => ⟨st.1, st.2.1, st.2.2.1, ⟨st.2.2.2.1, hs⟩, st.2.2.2.2, ht⟩, fun i vals hi hp => ?_⟩
    obtain ⟨x, y, hx, hy, ev⟩ := hp
    subst ev
    have l1 : i < xs.length := by omega
    have l2 : i < ys.length := by omega
    obtain ⟨u, hu, ru⟩ := rv.get (show xs[i]? = some xs[i] by simp [l1])
    obtain ⟨v, hv, rv'⟩ := rw_.get (show ys[i]? = some ys[i] by simp [l2])
    have e1 : x = u := by
      have e3 : its[i]? = some x := by simpa using hx
      rw [e3] at hu; exact Option.some.inj hu
    have e2 : y = v := by
      have e3 : jts[i]? = some y := by simpa using hy
      rw [e3] at hv; exact Option.some.inj hv
    subst e1 e2
    exact ⟨_, ⟨xs[i], ys[i], by simp [l1], by simp [l2], rfl⟩, .cons ru (.cons rv' .nil), by show 2 ≤ 16; decide⟩
theorem pi_zipS {t : TA} (hg : Gl X "zip") (hm : X.mg "zip" = none) (ha : PA X [a, b] t) (hs : starEach [a, b] X.env = (false, eval a X.env) :: starEach [b] X.env) (hpl : (backTo pos (starEach [b] X.env)).any (·.1) = false) :
    PI X (.Tuple elts kk tpos) (.Call (.Name "zip" p) [a, b] [] pos) (fun σ H R => t σ H fun vs H1 => ∃ (b1 b2 : Bool) (c d : Addr) (xs ys : List V), vs = [.ref c, .ref d] ∧ Src X.K b1 H1 c xs ∧ Src X.K b2 H1 d ys ∧
      R (Jt (min xs.length ys.length) (fun H => Src X.K b1 H c xs ∧ Src X.K b2 H d ys) (fun i vs => ∃ x y, xs[i]? = some x ∧ ys[i]? = some y ∧ vs = [x, y])) H1) := by
  refine ⟨fun pins s σ H R I h => ?_⟩
  refine Call_ (ld_blt I hg hm PyProof.Rows.boot_zip (PyProof.Rows.callWith_type1 (thn (ha.run pos pins s σ H _ I h) fun us s1 ⟨vs, H1, I1, r1, b1, b2, c, d, xs, ys, e2, hx, hy, q⟩ => ?_) hs hpl))
  subst e2
  obtain ⟨u, v, e3, rx, ry⟩ := vals2 r1
  subst e3
  cases rx
  cases ry
  obtain ⟨its, rv, hs'⟩ := src_h I1 hx
  obtain ⟨jts, rv2, ht'⟩ := src_h I1 hy
  have lt1 : c < s1.heap.objs.size := src_lt hs'
  have lt2 : d < s1.heap.objs.size := src_lt ht'
  refine zip_begins2 (src_begins b1 c its.toArray) (src_begins b2 d jts.toArray) hs' ht' fun h' hz hTI hTO hi hj _ hk => wpAny_pyIter_zip hz ?_
  have I2 : L2.Inv X pins σ H1 { s1 with heap := h' } := I1.kept (t' := s1.toks) hk
  refine ⟨s1.heap.objs.size + 4, [s1.heap.objs.size + 4, s1.heap.objs.size + 2, s1.heap.objs.size + 3, s1.heap.objs.size, s1.heap.objs.size + 1], _, _, H1, rfl, I2,
    turn_zipS (b1 := b1) (b2 := b2) (a1 := c) (a2 := d) (zip_sep2 (N := s1.heap.objs.size) (by simpa using lt1) (by simpa using lt2)) (Nat.ne_of_lt lt1) (Nat.ne_of_lt (Nat.lt_succ_of_lt lt2)), ⟨hz, hTI, ⟨_, _, hTO⟩, it_new hi, it_new hj⟩, fun x hx' => ?_, q⟩
  have hle : s1.heap.objs.size ≤ x := by
    have hx' : x = s1.heap.objs.size + 4 ∨ x = s1.heap.objs.size + 2 ∨ x = s1.heap.objs.size + 3 ∨ x = s1.heap.objs.size ∨ x = s1.heap.objs.size + 1 := by simpa using hx'
    rcases hx' with z | z | z | z | z
    · rw [z]; exact Nat.le_add_right _ _
    · rw [z]; exact Nat.le_add_right _ _
    · rw [z]; exact Nat.le_add_right _ _
    · rw [z]; exact Nat.le_refl _
    · rw [z]; exact Nat.le_add_right _ _
  exact I1.fpOk hle (I1.hok.fresh hle)
end
end Ev

/-! what is walked, over the evaluator -/
namespace Ev
open PySem PySem.Spec PyProof.Rows L2
structure Wk (K : PySem.W.Frag) (w : Wd) (J : It) (ds : List PyData) : Prop where
  goes : ∀ i H, i < ds.length → Sub w.F H → J.go i H
  stops : ∀ H, Sub w.F H → J.stop ds.length H
  yld : ∀ i H x H', i < ds.length → J.yld i H x H' → Sub w.F H → (H' = H ∧ ∃ d, ds[i]? = some d ∧ Rp K w.F d x) ∨ ∃ T xs es, x = .ref T ∧ H T = none ∧ H' = upd H T (.tup xs) ∧ ds[i]? = some (.tuple es) ∧ RpA K w.F es xs
def tI (K : PySem.W.Frag) (w0 : Wd) (H0 : Hp) (m : Lv → M (List PyData)) : TI := fun σ H R => ∃ w e s ds s', Rl K w0 H0 w e s σ H ∧ m e s = some (ds, s') ∧
  ∀ w' J H', Rl K w0 H0 w' e s' σ H' → Le w H w' H' → Wk K w' J ds → R J H'
theorem Wk.turn {K : PySem.W.Frag} {w0 w w1 : Wd} {H0 H H' : Hp} {e : Lv} {s : Sto} {σ : L2.St} {J : It} {ds : List PyData} {i : Nat} {x : V} (k : Wk K w J ds) (R : Rl K w0 H0 w1 e s σ H) (l : Sub w.F w1.F) (hi : i < ds.length) (y : J.yld i H x H') :
    ∃ w2 d, ds[i]? = some d ∧ Rl K w0 H0 w2 e s σ H' ∧ Le w1 H w2 H' ∧ Rp K w2.F d x := by
  rcases k.yld i H x H' hi y (l.trans R.fh) with ⟨e1, d, h1, h2⟩ | ⟨T, xs, es, e1, hT, e2, h1, h2⟩
  · subst e1
    exact ⟨w1, d, h1, R, .refl, Rp.mono l d h2⟩
  · subst e1 e2
    obtain ⟨R2, l2⟩ := R.new (o := .tup xs) hT
    refine ⟨_, _, h1, R2, l2, ?_⟩
    unfold Rp
    exact ⟨T, xs, rfl, SqT.of upd_same, RpA.mono (l.trans l2.f) es h2⟩
theorem Wk.of {K : PySem.W.Frag} {w : Wd} {J : It} {ds : List PyData} {n : Nat} {G : Hp → Prop} {xs : List V} (W : Walk J n G (YAt xs)) (hn : ds.length = n) (hG : ∀ H, Sub w.F H → G H) (h : RpA K w.F ds xs) : Wk K w J ds := by
  subst hn
  refine ⟨fun i H hi s => W.goes i H hi (hG H s), fun H s => W.stops H (hG H s), fun i H x H' hi y s => .inl ?_⟩
  obtain ⟨e, h1⟩ := W.yields i H x H' hi (hG H s) y
  obtain ⟨d, h2, h3⟩ := (rpA_iff.mp h).atR h1
  exact ⟨e, d, h2, h3⟩
theorem rp_range {K : PySem.W.Frag} {F : Hp} (lo : Int) (n : Nat) : RpA K F ((List.range n).map fun (i : Nat) => .int (lo + (i : Int))) ((List.range n).map fun (i : Nat) => V.int (lo + (i : Int))) := by
  induction (List.range n) with
  | nil => unfold RpA; rfl
  | cons a r ih =>
    rw [List.map_cons, List.map_cons]
    unfold RpA
    exact ⟨_, _, rfl, rp_int, ih⟩
theorem Wk.range {K : PySem.W.Frag} {w : Wd} {lo : Int} {n : Nat} : Wk K w (Itr lo n) ((List.range n).map fun (i : Nat) => .int (lo + (i : Int))) := by
  have e : ((List.range n).map fun (i : Nat) => PyData.int (lo + (i : Int))).length = n := by simp
  refine ⟨fun i H hi _ => by rw [e] at hi; exact hi, fun H _ => by rw [e]; exact Nat.le_refl _, fun i H x H' hi y _ => .inl ?_⟩
  obtain ⟨e1, e2⟩ := y
  rw [e] at hi
  subst e2
  exact ⟨e1, _, by simp [hi], rp_int⟩
theorem enumD_len : ∀ (k : Nat) (xs : List PyData), (enumD k xs).length = xs.length
  | _, [] => rfl
  | k, _ :: xs => by unfold enumD; simp [enumD_len (k + 1) xs]
theorem enumD_at : ∀ (k : Nat) (xs : List PyData) (i : Nat), (enumD k xs)[i]? = xs[i]?.map fun x => .tuple [.int ((k + i : Nat) : Int), x]
  | _, [], i => by simp [enumD]
  | k, x :: xs, 0 => by simp [enumD]
  | k, x :: xs, i + 1 => by
    unfold enumD
    rw [List.getElem?_cons_succ, List.getElem?_cons_succ, enumD_at (k + 1) xs i, show k + 1 + i = k + (i + 1) by omega]
theorem zipD_len : ∀ (xs ys : List PyData), (zipD xs ys).length = min xs.length ys.length
  | [], ys => by simp [zipD]
  | _ :: _, [] => by simp [zipD]
  | _ :: xs, _ :: ys => by simp [zipD, zipD_len xs ys]
theorem zipD_at : ∀ (xs ys : List PyData) (i : Nat) (x y : PyData), xs[i]? = some x → ys[i]? = some y → (zipD xs ys)[i]? = some (.tuple [x, y])
  | [], _, _, _, _, h, _ => by simp at h
  | _ :: _, [], _, _, _, _, h => by simp at h
  | a :: xs, b :: ys, 0, x, y, h1, h2 => by simp at h1 h2; simp [zipD, h1, h2]
  | a :: xs, b :: ys, i + 1, x, y, h1, h2 => by
    unfold zipD
    rw [List.getElem?_cons_succ]
    exact zipD_at xs ys i x y (by simpa using h1) (by simpa using h2)
theorem src_of {K : PySem.W.Frag} {F H : Hp} {x : PyData} {v : V} {ds : List PyData} (h : Rp K F x v) (hd : itemsD x = some ds) : ∃ b a xs, v = .ref a ∧ RpA K F ds xs ∧ ∀ H, Sub F H → Src K b H a xs := by
  cases x with
  | list es =>
    cases (show some es = some ds from hd)
    unfold Rp at h
    obtain ⟨a, xs, e, h1, h2⟩ := h
    exact ⟨false, a, xs, e, h2, fun H s => SqL.of (s _ _ h1)⟩
  | tuple es =>
    cases (show some es = some ds from hd)
    unfold Rp at h
    obtain ⟨a, xs, e, h1, h2⟩ := h
    exact ⟨true, a, xs, e, h2, fun H s => sqT_mono s h1⟩
  | _ => cases hd
section
variable {X : Cx} {a b tg : Expr} {pos p tpos : Pos} {elts : List Expr} {kk : Nat} {w0 : Wd} {H0 : Hp} {ma mb : Lv → M Val}
theorem i_seq (hw : w0.nu = []) (ha : PE X a (tE X.K w0 H0 ma)) : PI X tg a (tI X.K w0 H0 fun e => bd (ma e) fun v => bd (keep v) fun x => ofO (itemsD x)) := by
  refine ⟨fun pins sh σ H R I h => ?_⟩
  obtain ⟨w, e, s, ds, s', R0, ev, k⟩ := h
  obtain ⟨v1, s1, e1, ev⟩ := bd_inv ev
  obtain ⟨x1, s2, e2, ev⟩ := bd_inv ev
  obtain ⟨e3, e4⟩ := ofO_inv ev
  subst e4
  cases x1 with
  | list es =>
    cases (show some es = some ds from e3)
    refine (pi_list ha).run pins sh σ H R I ⟨w, e, s, v1, s1, R0, e1, fun w1 x H1 R1 l1 r1 => ?_⟩
    obtain ⟨w2, R2, l2, r2⟩ := keep_ok hw R1 r1 e2
    unfold Rp at r2
    obtain ⟨c, xs, ex, h1, h2⟩ := r2
    exact ⟨c, ex, ⟨xs, SqL.of (R2.fh _ _ h1)⟩, k w2 _ H1 R2 (l1.trans l2) (Wk.of walk_list (rpA_len h2) (fun H s => SqL.of (s _ _ h1)) h2)⟩
  | tuple es =>
    cases (show some es = some ds from e3)
    refine (pi_tup ha).run pins sh σ H R I ⟨w, e, s, v1, s1, R0, e1, fun w1 x H1 R1 l1 r1 => ?_⟩
    obtain ⟨w2, R2, l2, r2⟩ := keep_ok hw R1 r1 e2
    unfold Rp at r2
    obtain ⟨c, xs, ex, h1, h2⟩ := r2
    exact ⟨c, ex, ⟨xs, sqT_mono R2.fh h1⟩, k w2 _ H1 R2 (l1.trans l2) (Wk.of walk_tup (rpA_len h2) (fun H s => sqT_mono s h1) h2)⟩
  | _ => cases e3
theorem pi_imp {it : Expr} {t t' : TI} (h : PI X tg it t) (f : ∀ σ H R, t' σ H R → t σ H R) : PI X tg it t' := ⟨fun pins s σ H R I q => h.run pins s σ H R I (f σ H R q)⟩
theorem i_rng1 {it : Expr} (h : PI X tg it (iRng1 (tCons (tE X.K w0 H0 ma) tNil))) : PI X tg it (tI X.K w0 H0 fun e => bd (ma e) fun v => bd (peek v) fun x => match x with
    | .int j => ofO (rngD 0 j)
    | _ => no) := pi_imp h fun σ H R q => by
  obtain ⟨w, e, s, ds, s', R0, ev, k⟩ := q
  obtain ⟨v1, s1, e1, ev⟩ := bd_inv ev
  refine ⟨w, e, s, v1, s1, R0, e1, fun w1 x H1 R1 l1 r1 => ?_⟩
  obtain ⟨d, t1, ev⟩ := pk R1 r1 ev
  cases d with
  | int j =>
    obtain ⟨e3, e4⟩ := ofO_inv (show ofO (rngD 0 j) s1 = some (ds, s') from ev)
    subst e4
    unfold rngD at e3
    split at e3
    · rename_i hb
      cases e3
      cases (show x = .int j from t1)
      exact ⟨j, rfl, hb.2.2.1, hb.2.2.2, k w1 _ H1 R1 l1 (by
        have := Wk.range (K := X.K) (w := w1) (lo := 0) (n := j.toNat)
        rw [show (j - 0).toNat = j.toNat by rw [Int.sub_zero]]
        exact this)⟩
    · cases e3
  | _ => cases ev
theorem i_rng2 {it : Expr} (h : PI X tg it (iRng2 (tCons (tE X.K w0 H0 ma) (tCons (tE X.K w0 H0 mb) tNil)))) : PI X tg it (tI X.K w0 H0 fun e => bd (ma e) fun v => bd (mb e) fun u => bd (peek v) fun x => bd (peek u) fun y => match x, y with
    | .int i, .int j => ofO (rngD i j)
    | _, _ => no) := pi_imp h fun σ H R q => by
  obtain ⟨w, e, s, ds, s', R0, ev, k⟩ := q
  obtain ⟨v1, s1, e1, ev⟩ := bd_inv ev
  obtain ⟨v2, s2, e2, ev⟩ := bd_inv ev
  refine ⟨w, e, s, v1, s1, R0, e1, fun w1 x H1 R1 l1 r1 => ⟨w1, e, s1, v2, s2, R1, e2, fun w2 y H2 R2 l2 r2 => ?_⟩⟩
  obtain ⟨d1, t1, ev⟩ := pk R2 (r1.mono l2) ev
  obtain ⟨d2, t2, ev⟩ := pk R2 r2 ev
  cases d1 with
  | int i =>
    cases d2 with
    | int j =>
      obtain ⟨e3, e4⟩ := ofO_inv (show ofO (rngD i j) s2 = some (ds, s') from ev)
      subst e4
      unfold rngD at e3
      split at e3
      · rename_i hb
        cases e3
        cases (show x = .int i from t1)
        cases (show y = .int j from t2)
        exact ⟨i, j, rfl, hb, k w2 _ H2 R2 (l1.trans l2) Wk.range⟩
      · cases e3
    | _ => cases ev
  | _ => cases ev
theorem i_enum (hw : w0.nu = []) (hg : Gl X "enumerate") (hm : X.mg "enumerate" = none) (ha : PE X a (tE X.K w0 H0 ma)) (hs : starEach [a] X.env = [(false, eval a X.env)]) (hs1 : starEach [a] X.env = (false, eval a X.env) :: starEach [] X.env) :
    PI X (.Tuple elts kk tpos) (.Call (.Name "enumerate" p) [a] [] pos) (tI X.K w0 H0 fun e => bd (ma e) fun v => bd (keep v) fun x => bd (ofO (itemsD x)) fun xs => rt (enumD 0 xs)) :=
  pi_imp (pi_enumS hg hm (pa_cons ha pa_nil hs1) hs) fun σ H R q => by
  obtain ⟨w, e, s, ds, s', R0, ev, k⟩ := q
  obtain ⟨v1, s1, e1, ev⟩ := bd_inv ev
  obtain ⟨x1, s2, e2, ev⟩ := bd_inv ev
  obtain ⟨es, s3, e3, ev⟩ := bd_inv ev
  obtain ⟨e3', e4⟩ := ofO_inv e3
  obtain ⟨e5, e6⟩ := rt_inv ev
  subst e4 e5 e6
  refine ⟨w, e, s, v1, s1, R0, e1, fun w1 x H1 R1 l1 r1 => ?_⟩
  obtain ⟨w2, R2, l2, r2⟩ := keep_ok hw R1 r1 e2
  obtain ⟨b, c, xs, ex, h1, h2⟩ := src_of (H := H1) r2 e3'
  subst ex
  have hl := rpA_len h1
  refine ⟨b, c, xs, rfl, h2 H1 R2.fh, k w2 _ H1 R2 (l1.trans l2) ⟨fun i H hi sb => ⟨by rw [enumD_len, hl] at hi; exact hi, h2 H sb⟩, fun H sb => ⟨by rw [enumD_len, hl], h2 H sb⟩, fun i H v H' hi y sb => .inr ?_⟩⟩
  obtain ⟨T, ys, ev', hT, eH, z, hz, ey⟩ := y
  subst ey
  obtain ⟨d, hd, rd⟩ := (rpA_iff.mp h1).atR hz
  refine ⟨T, _, [.int (i : Nat), d], ev', hT, eH, by rw [enumD_at, hd, Nat.zero_add]; rfl, ?_⟩
  unfold RpA
  exact ⟨_, _, rfl, rp_int, by unfold RpA; exact ⟨_, _, rfl, rd, by unfold RpA; rfl⟩⟩
theorem i_zip (hw : w0.nu = []) (hg : Gl X "zip") (hm : X.mg "zip" = none) (ha : PE X a (tE X.K w0 H0 ma)) (hb : PE X b (tE X.K w0 H0 mb)) (hs : starEach [a, b] X.env = (false, eval a X.env) :: starEach [b] X.env) (hs1 : starEach [b] X.env = (false, eval b X.env) :: starEach [] X.env)
    (hpl : (backTo pos (starEach [b] X.env)).any (·.1) = false) :
    PI X (.Tuple elts kk tpos) (.Call (.Name "zip" p) [a, b] [] pos) (tI X.K w0 H0 fun e => bd (ma e) fun v => bd (mb e) fun u => bd (keep v) fun x => bd (keep u) fun y => bd (ofO (itemsD x)) fun xs => bd (ofO (itemsD y)) fun ys =>
      if false && xs.length != ys.length then no else rt (zipD xs ys)) :=
  pi_imp (pi_zipS hg hm (pa_cons ha (pa_cons hb pa_nil hs1) hs) hs hpl) fun σ H R q => by
  obtain ⟨w, e, s, ds, s', R0, ev, k⟩ := q
  obtain ⟨v1, s1, e1, ev⟩ := bd_inv ev
  obtain ⟨v2, s2, e2, ev⟩ := bd_inv ev
  obtain ⟨x1, s3, e3, ev⟩ := bd_inv ev
  obtain ⟨y1, s4, e4, ev⟩ := bd_inv ev
  obtain ⟨es, s5, e5, ev⟩ := bd_inv ev
  obtain ⟨fs, s6, e6, ev⟩ := bd_inv ev
  obtain ⟨e5', e7⟩ := ofO_inv e5
  obtain ⟨e6', e8⟩ := ofO_inv e6
  obtain ⟨e9, e10⟩ := rt_inv (show rt (zipD es fs) s6 = some (ds, s') from ev)
  subst e7 e8 e9 e10
  refine ⟨w, e, s, v1, s1, R0, e1, fun w1 x H1 R1 l1 r1 => ⟨w1, e, s1, v2, s2, R1, e2, fun w2 y H2 R2 l2 r2 => ?_⟩⟩
  obtain ⟨w3, R3, l3, r3⟩ := keep_ok hw R2 (r1.mono l2) e3
  obtain ⟨w4, R4, l4, r4⟩ := keep_ok hw R3 (r2.mono l3) e4
  obtain ⟨b1, c, xs, ex, h1, h2⟩ := src_of (H := H2) (Rp.mono l4.f _ r3) e5'
  obtain ⟨b2, d, ys, ey, h3, h4⟩ := src_of (H := H2) r4 e6'
  subst ex ey
  have hl := rpA_len h1
  have hl2 := rpA_len h3
  refine ⟨b1, b2, c, d, xs, ys, rfl, h2 H2 R4.fh, h4 H2 R4.fh, k w4 _ H2 R4 (((l1.trans l2).trans l3).trans l4) ⟨fun i H hi sb => ⟨by rw [zipD_len, hl, hl2] at hi; exact hi, h2 H sb, h4 H sb⟩, fun H sb => ⟨by rw [zipD_len, hl, hl2], h2 H sb, h4 H sb⟩, fun i H v H' hi y sb => .inr ?_⟩⟩
  obtain ⟨T, vs, ev', hT, eH, z1, z2, hz1, hz2, ey⟩ := y
  subst ey
  obtain ⟨d1, hd1, rd1⟩ := (rpA_iff.mp h1).atR hz1
  obtain ⟨d2, hd2, rd2⟩ := (rpA_iff.mp h3).atR hz2
  refine ⟨T, _, [d1, d2], ev', hT, eH, zipD_at _ _ _ _ _ hd1 hd2, ?_⟩
  unfold RpA
  exact ⟨_, _, rfl, rd1, by unfold RpA; exact ⟨_, _, rfl, rd2, by unfold RpA; rfl⟩⟩
end
end Ev

/-! targets, comprehensions -/
namespace Ev
open PySem PySem.Spec PyProof.Rows L2
mutual
def tgIn : Tg → List Nat → Bool
  | .nm i, vs => vs.contains i
  | .tp ts, vs => tgsIn ts vs
def tgsIn : Tgs → List Nat → Bool
  | .nil, _ => true
  | .cons t ts, vs => tgIn t vs && tgsIn ts vs
end
def tG (K : PySem.W.Frag) (w0 : Wd) (H0 : Hp) (tg : Tg) : TG := fun x σ H Q => ∃ w e s v e1, Rl K w0 H0 w e s σ H ∧ Rv K w v x ∧ asgT tg v e = some e1 ∧
  ∀ σ', Rl K w0 H0 w e1 s σ' H → (∀ vs, tgIn tg vs = true → wipe σ' vs = wipe σ vs) → Q σ' H
def tGs (K : PySem.W.Frag) (w0 : Wd) (H0 : Hp) (tg : Tgs) : TGs := fun xs σ H Q => ∃ w e s ds e1, Rl K w0 H0 w e s σ H ∧ RpA K w.F ds xs ∧ asgTs tg ds e = some e1 ∧
  ∀ σ', Rl K w0 H0 w e1 s σ' H → (∀ vs, tgsIn tg vs = true → wipe σ' vs = wipe σ vs) → Q σ' H
section
variable {K : PySem.W.Frag} {w0 w : Wd} {H0 H : Hp} {e e1 : Lv} {s : Sto} {σ σ' : L2.St}
theorem Rl.setE (R : Rl K w0 H0 w e s σ H) {i : Nat} {v : Val} {x : V} (r : Rv K w v x) : Rl K w0 H0 w (e.set i (some v)) s (σ.set i (some x)) H :=
  ⟨R.le, R.fh, R.nd, R.tr, R.G, R.L, R.env.set (fun u q => by cases q; exact ⟨x, rfl, r⟩) i⟩
theorem Rl.reenv (R : Rl K w0 H0 w e s σ H) (h : All2 (fun o p => ∀ v, o = some v → ∃ x, p = some x ∧ Rv K w v x) e1 σ') : Rl K w0 H0 w e1 s σ' H := ⟨R.le, R.fh, R.nd, R.tr, R.G, R.L, h⟩
theorem env_wipe (h : All2 (fun o p => ∀ v, o = some v → ∃ x, p = some x ∧ Rv K w v x) e σ) : ∀ vs : List Nat, All2 (fun o p => ∀ v, o = some v → ∃ x, p = some x ∧ Rv K w v x) (wipeL e vs) (wipe σ vs)
  | [] => h
  | v :: vs => (env_wipe h vs).set (fun u q => by cases q) v
theorem wipe_set {σ : L2.St} {i : Nat} {o : Option V} : ∀ {vs : List Nat}, i ∈ vs → wipe (σ.set i o) vs = wipe σ vs
  | v :: vs, h => by
    unfold wipe
    by_cases hv : i ∈ vs
    · rw [wipe_set hv]
    · have e : v = i := by
        rcases List.mem_cons.mp h with z | z
        · exact z.symm
        · exact absurd z hv
      subst e
      have key : ∀ (ws : List Nat), v ∉ ws → (wipe (σ.set v o) ws) = (wipe σ ws).set v o := fun ws => by
        induction ws with
        | nil => intro _; rfl
        | cons w ws ih =>
          intro hn
          unfold wipe
          rw [ih fun z => hn (List.mem_cons_of_mem _ z), List.set_comm]
          exact fun z => hn (z ▸ List.mem_cons_self)
      rw [key vs hv, List.set_set]
theorem wipe_wipe (σ : L2.St) : ∀ {vs us : List Nat}, (∀ i ∈ us, i ∈ vs) → wipe (wipe σ us) vs = wipe σ vs
  | vs, [], _ => rfl
  | vs, u :: us, h => by
    show wipe ((wipe σ us).set u none) vs = _
    rw [wipe_set (h u List.mem_cons_self)]
    exact wipe_wipe σ fun i hi => h i (List.mem_cons_of_mem _ hi)
end
section
variable {X : Cx} {w0 : Wd} {H0 : Hp} {pos : Pos}
theorem pg_imp {e : Expr} {t t' : TG} (h : PG X e t) (f : ∀ v σ H Q, t' v σ H Q → t v σ H Q) : PG X e t' := ⟨fun pins s σ H v u Q I r q => h.run pins s σ H v u Q I r (f v σ H Q q)⟩
theorem pgs_imp {es : List Expr} {t t' : TGs} (h : PGs X es t) (f : ∀ v σ H Q, t' v σ H Q → t v σ H Q) : PGs X es t' := ⟨fun pins s σ H v u Q I r q => h.run pins s σ H v u Q I r (f v σ H Q q)⟩
theorem g_name {i : Nat} {x : Str} (hN : X.N.Nodup) (hi : X.N[i]? = some x) (hx : Loc X.env.scope x) (hf : X.fn x = true ∨ X.env.scope.names.lookup x = some .local) : PG X (.Name x pos) (tG X.K w0 H0 (.nm i)) :=
  pg_imp (pg_name hN hi hx hf) fun v σ H Q h => by
  obtain ⟨w, e, s, u, e1, R, r, ha, k⟩ := h
  cases (show some (e.set i (some u)) = some e1 from ha)
  exact k _ (R.setE r) fun vs hv => wipe_set (by simpa [tgIn] using hv)
theorem gs_nil : PGs X [] (tGs X.K w0 H0 .nil) := pgs_imp pgs_nil fun v σ H Q h => by
  obtain ⟨w, e, s, ds, e1, R, r, ha, k⟩ := h
  cases ds with
  | cons d ds => cases ha
  | nil =>
    cases (show some e = some e1 from ha)
    unfold RpA at r
    exact ⟨r, k σ R fun _ _ => rfl⟩
theorem gs_cons {a : Expr} {as : List Expr} {t : Tg} {ts : Tgs} (h1 : PG X a (tG X.K w0 H0 t)) (h2 : PGs X as (tGs X.K w0 H0 ts)) (hs : (assignEach (a :: as) X.env).map (·.2) = assign a X.env :: (assignEach as X.env).map (·.2)) :
    PGs X (a :: as) (tGs X.K w0 H0 (.cons t ts)) := pgs_imp (pgs_cons h1 h2 hs) fun vs σ H Q h => by
  obtain ⟨w, e, s, ds, e1, R, r, ha, k⟩ := h
  cases ds with
  | nil => cases ha
  | cons d ds =>
    unfold RpA at r
    obtain ⟨x, xs, ev, r1, r2⟩ := r
    subst ev
    obtain ⟨e2, h3, h4⟩ := Option.bind_eq_some_iff.mp (show (asgT t (.d d) e).bind (fun e1 => asgTs ts ds e1) = some e1 from ha)
    refine ⟨x, xs, rfl, w, e, s, .d d, e2, R, r1, h3, fun σ1 R1 z1 => ⟨w, e2, s, ds, e1, R1, r2, h4, fun σ2 R2 z2 => k σ2 R2 fun vs hv => ?_⟩⟩
    have hv : tgIn t vs = true ∧ tgsIn ts vs = true := by simpa [tgsIn] using hv
    rw [z2 vs hv.2, z1 vs hv.1]
theorem g_tup {as : List Expr} {kk n : Nat} {ts : Tgs} (hc : X.calm = true) (h : PGs X as (tGs X.K w0 H0 ts)) (hl : ∀ ds e e1, asgTs ts ds e = some e1 → ds.length = n) (hn : (assignEach as X.env).length = n) (hst : (assignEach as X.env).findIdx? (·.1) = none) :
    PG X (.Tuple as kk pos) (tG X.K w0 H0 (.tp ts)) := pg_imp (pg_tup hc h hn hst) fun v σ H Q h => by
  obtain ⟨w, e, s, u, e1, R, r, ha, k⟩ := h
  cases u with
  | d x =>
    cases x with
    | tuple ds =>
      have ha : asgTs ts ds e = some e1 := ha
      have r : Rp X.K w.F (.tuple ds) v := r
      unfold Rp at r
      obtain ⟨a, xs, ev, h1, h2⟩ := r
      exact ⟨a, xs, ev, sqT_mono R.fh h1, (rpA_len h2).symm.trans (hl ds e e1 ha), w, e, s, ds, e1, R, h2, ha, k⟩
    | _ => cases ha
  | _ => cases ha
/-! ### [.. for .. in ..] -/
theorem compF_inv {wh : Wh} {tgt : Tg} {own : List Nat} {mc : Lv → M Bool} {me : Lv → M Val} {e : Lv} {x : PyData} {s s' : Sto} {o : Option Val} (h : compF wh tgt own mc me e x s = some (o, s')) :
    ∃ e1, asgT tgt (.d x) (wipeL e own) = some e1 ∧ bd (mc e1) (fun k => if k then bd (me e1) fun v => (match wh with | .pure => bd (keep v) fun x => rt (some (.d x)) | _ => rt (some v)) else rt none) s = some (o, s') := by
  unfold compF at h
  cases q : asgT tgt (.d x) (wipeL e own) with
  | none => rw [q] at h; cases h
  | some e1 => rw [q] at h; exact ⟨e1, rfl, h⟩
theorem lc_imp {wh : Wh} {tgt : Tg} {mi : Lv → M (List PyData)} {mc : Lv → M Bool} {me : Lv → M Val} {own : List Nat} {K : PySem.W.Frag} (hw : w0.nu = []) (hin : tgIn tgt own = true) {σ : L2.St} {H : Hp} {Q : VK}
    (h : tE K w0 H0 (fun e => bd (mi e) fun xs => bd (compL (compF wh tgt own mc me e) xs) fun vs => if vs.length ≤ 16777216 then place wh vs else no) σ H Q) :
    tLc (tI K w0 H0 mi) (tG K w0 H0 tgt) (tT K w0 H0 mc) (tE K w0 H0 me) own σ H Q := by
  obtain ⟨w, e, s, v, s', R, ev, k⟩ := h
  obtain ⟨ds, s1, e1, ev⟩ := bd_inv ev
  obtain ⟨vs, s2, e2, ev⟩ := bd_inv ev
  refine ⟨w, e, s, ds, s1, R, e1, fun w1 J H1 R1 l1 wk D hD => ?_⟩
  split at ev
  case isFalse => cases ev
  case isTrue hz =>
  have hD0 : H0 D = none := R1.le.back hD
  refine ⟨fun i m H => m = ds.length - i ∧ i ≤ ds.length ∧ ∃ w2 s3 acc us rest, Rl K w0 H0 w2 e s3 σ H ∧ Le w1 H1 w2 H ∧ H D = some (.lst acc) ∧ w2.F D = none ∧ D ∉ w2.mu ++ w2.nu ∧ All2 (Rv K w2) us acc ∧
    compL (compF wh tgt own mc me e) (ds.drop i) s3 = some (rest, s2) ∧ us ++ rest = vs, ⟨ds.length, by simp, Nat.zero_le _, w1, s1, [], [], vs, R1.scratch hD0 (R1.freshF hD) (R1.freshS hD), Le.scratch .refl hD, upd_same, R1.freshF hD, R1.freshS hD, .nil, by simpa using e2, rfl⟩, ?_⟩
  rintro i m H2 ⟨rfl, hi, w2, s3, acc, us, rest, R2, l2, hA, hF, hS, ra, hcm, hvs⟩
  by_cases hlt : i < ds.length
  · have hdr : ds.drop i = ds[i] :: ds.drop (i + 1) := List.drop_eq_getElem_cons hlt
    rw [hdr] at hcm
    obtain ⟨o, s4, e4, hcm⟩ := bd_inv (show bd (compF wh tgt own mc me e ds[i]) (fun o => bd (compL (compF wh tgt own mc me e) (ds.drop (i + 1))) fun vs => rt (match o with | some v => v :: vs | none => vs)) s3 = some (rest, s2) from hcm)
    obtain ⟨rest2, s5, e5, hcm⟩ := bd_inv hcm
    obtain ⟨e6, e7⟩ := rt_inv hcm
    subst e7
    obtain ⟨ee, hee, e4⟩ := compF_inv e4
    obtain ⟨kb, s6, e8, e4⟩ := bd_inv e4
    refine .inr ⟨wk.goes i H2 hlt (l2.f.trans R2.fh), fun H' => ∃ w3 s7 acc us, Rl K w0 H0 w3 e s7 σ H' ∧ Le w1 H1 w3 H' ∧ H' D = some (.lst acc) ∧ w3.F D = none ∧ D ∉ w3.mu ++ w3.nu ∧ All2 (Rv K w3) us acc ∧
      ∃ rest, compL (compF wh tgt own mc me e) (ds.drop (i + 1)) s7 = some (rest, s2) ∧ us ++ rest = vs, fun H' ⟨w3, s7, acc', us', R3, l3, h1, h2, h3, h4, rest', h5, h6⟩ => ⟨_, by omega, rfl, hlt, w3, s7, acc', us', rest', R3, l3, h1, h2, h3, h4, h5, h6⟩, fun x H3 y => ?_⟩
    obtain ⟨w3, d, hd, R3, l3, rd⟩ := wk.turn R2 l2.f hlt y
    have ed : ds[i] = d := by
      have := hd
      rw [List.getElem?_eq_getElem hlt] at this
      exact Option.some.inj this
    subst ed
    have hA3 : H3 D = some (.lst acc) := l3.same D _ hA (fun z => hS (List.mem_append_left _ z)) fun z => hS (List.mem_append_right _ z)
    refine ⟨w3, wipeL e own, s3, .d ds[i], ee, R3.reenv (env_wipe R3.env own), rd, hee, fun σ4 R4 z4 => ⟨?_, w3, ee, s3, kb, s6, R4, e8, fun w5 H5 R5 l5 => ?_⟩⟩
    · rw [z4 own hin]
      exact wipe_wipe σ fun _ h => h
    have hF3 := freshF_of l3 hF hS hA
    have hS3 := freshS_of l3 hS hA
    have hA5 : H5 D = some (.lst acc) := l5.same D _ hA3 (fun z => hS3 (List.mem_append_left _ z)) fun z => hS3 (List.mem_append_right _ z)
    have hF5 := freshF_of l5 hF3 hS3 hA3
    have hS5 := freshS_of l5 hS3 hA3
    have L5 : Le w1 H1 w5 H5 := (l2.trans l3).trans l5
    have env5 : All2 (fun o p => ∀ v, o = some v → ∃ x, p = some x ∧ Rv K w5 v x) e σ := R2.mono_env (l3.trans l5)
    cases kb with
    | false =>
      obtain ⟨e9, e10⟩ := rt_inv (show rt none s6 = some (o, s4) from e4)
      subst e9 e10
      show (if false = true then _ else _)
      rw [if_neg Bool.false_ne_true]
      exact ⟨w5, _, acc, us, R5.reenv env5, L5, hA5, hF5, hS5, Rvs.mono (l3.trans l5) ra, rest2, e5, by rw [← hvs, e6]⟩
    | true =>
      obtain ⟨v6, s7, e9, e4⟩ := bd_inv (show bd (me ee) (fun v => (match wh with | .pure => bd (keep v) fun x => rt (some (Val.d x)) | _ => rt (some v))) s6 = some (o, s4) from e4)
      show (if true = true then _ else _)
      rw [if_pos rfl]
      refine ⟨w5, ee, s6, v6, s7, R5, e9, fun w7 yv H7 R7 l7 r7 => ?_⟩
      have hA7 : H7 D = some (.lst acc) := l7.same D _ hA5 (fun z => hS5 (List.mem_append_left _ z)) fun z => hS5 (List.mem_append_right _ z)
      have hF7 := freshF_of l7 hF5 hS5 hA5
      have hS7 := freshS_of l7 hS5 hA5
      have fin : ∀ {w8 : Wd} {u : Val} {s8 : Sto}, Rl K w0 H0 w8 ee s8 σ4 H7 → Le w7 H7 w8 H7 → Rv K w8 u yv → o = some u → s8 = s4 → ∃ acc, H7 D = some (.lst acc) ∧ acc.length < sizeLine ∧ ∃ w3 s7 acc' us, Rl K w0 H0 w3 e s7 σ (upd H7 D (.lst (acc ++ [yv]))) ∧ Le w1 H1 w3 (upd H7 D (.lst (acc ++ [yv]))) ∧ (upd H7 D (.lst (acc ++ [yv]))) D = some (.lst acc') ∧ w3.F D = none ∧ D ∉ w3.mu ++ w3.nu ∧ All2 (Rv K w3) us acc' ∧
          ∃ rest, compL (compF wh tgt own mc me e) (ds.drop (i + 1)) s7 = some (rest, s2) ∧ us ++ rest = vs := fun {w8 u s8} R8 l8 r8 eo es => by
        subst eo es
        have e6 : rest = u :: rest2 := e6
        subst e6
        have hF8 := freshF_of l8 hF7 hS7 hA7
        have hS8 := freshS_of l8 hS7 hA7
        have env8 : All2 (fun o p => ∀ v, o = some v → ∃ x, p = some x ∧ Rv K w8 v x) e σ := R2.mono_env (((l3.trans l5).trans l7).trans l8)
        have R9 := (R8.reenv env8).scratch (o := .lst (acc ++ [yv])) hD0 hF8 hS8
        refine ⟨acc, hA7, ?_, w8, _, _, us ++ [u], R9, ((L5.trans l7).trans l8).scratch hD, upd_same, hF8, hS8, (Rvs.mono (((l3.trans l5).trans l7).trans l8) ra).app (.cons r8 .nil), rest2, e5, by rw [← hvs]; simp⟩
        have z1 : us.length + (rest2.length + 1) = vs.length := by rw [← hvs]; simp
        rw [size_line, ← ra.len]
        omega
      cases wh with
      | pure =>
        obtain ⟨x8, s8, e10, e4⟩ := bd_inv (show bd (keep v6) (fun x => rt (some (Val.d x))) s7 = some (o, s4) from e4)
        obtain ⟨e11, e12⟩ := rt_inv e4
        obtain ⟨w8, R8, l8, r8⟩ := keep_ok hw R7 r7 e10
        exact fin (u := .d x8) R8 l8 r8 e11 e12.symm
      | loc =>
        obtain ⟨e11, e12⟩ := rt_inv (show rt (some v6) s7 = some (o, s4) from e4)
        exact fin R7 .refl r7 e11 e12.symm
      | glob =>
        obtain ⟨e11, e12⟩ := rt_inv (show rt (some v6) s7 = some (o, s4) from e4)
        exact fin R7 .refl r7 e11 e12.symm
  · have hi2 : i = ds.length := by omega
    subst hi2
    rw [List.drop_length] at hcm
    obtain ⟨e4, e5⟩ := rt_inv (show rt [] s3 = some (rest, s2) from hcm)
    subst e4 e5
    rw [List.append_nil] at hvs
    subst hvs
    refine .inl ⟨wk.stops H2 (l2.f.trans R2.fh), ?_⟩
    obtain ⟨w3, R3, l3, r3⟩ := lay_ok hw R2 l2 hD hD0 hF hS hA ra ev
    exact k w3 _ H2 R3 (l1.trans l3) r3
theorem e_comp {wh : Wh} {tgt : Tg} {mi : Lv → M (List PyData)} {mc : Lv → M Bool} {me : Lv → M Val} {elt tg iter : Expr} {ifs : List Expr} {scope : Scope} {own : List (Str × Nat)} (hw : w0.nu = []) (hc : X.calm = true) (hN : X.N.Nodup) (hi : PI X tg iter (tI X.K w0 H0 mi)) (ok : BlkOk X.N X.env.scope scope own)
    (hg : ∀ (s : Shared) (H : Hp) (C : Addr) (cl : List (Str × Addr)) (fp : List Addr), PG (X.blk s H scope (compEnvC scope cl C X.env) fp) tg (tG X.K w0 H0 tgt)) (ht : ∀ (s : Shared) (H : Hp) (C : Addr) (cl : List (Str × Addr)) (fp : List Addr), PTs (X.blk s H scope (compEnvC scope cl C X.env) fp) ifs (tT X.K w0 H0 mc))
    (he : ∀ (s : Shared) (H : Hp) (C : Addr) (cl : List (Str × Addr)) (fp : List Addr), PE (X.blk s H scope (compEnvC scope cl C X.env) fp) elt (tE X.K w0 H0 me)) (hs : ∀ x, foldedSetIterable iter X.env x = pure x) (hin : tgIn tgt (own.map (·.2)) = true) :
    PE X (.ListComp elt [⟨tg, iter, ifs, 0⟩] scope pos) (tE X.K w0 H0 fun e => bd (mi e) fun xs => bd (compL (compF wh tgt (own.map (·.2)) mc me e) xs) fun vs => if vs.length ≤ 16777216 then place wh vs else no) :=
  pe_imp (pe_lc hc hN hi ok hg ht he hs) fun σ H Q h => lc_imp hw hin h
theorem c_none : PTs X [] (tT X.K w0 H0 fun _ => rt true) := ⟨fun pins s σ H Q I h => by
  obtain ⟨w, e, s, v, s', R, ev, k⟩ := h
  obtain ⟨e1, e2⟩ := rt_inv ev
  subst e1 e2
  exact pts_nil.run pins _ σ H Q I (k w H R .refl)⟩
end
end Ev

/-! statements -/
namespace Ev
open PySem PySem.Spec PyProof.Rows L2
def Fin (K : PySem.W.Frag) (w : Wd) (D : Ends) (σ : L2.St) (H : Hp) : Flow → Prop
  | .nx => D.nx σ H
  | .bk => D.bk σ H
  | .ct => D.ct σ H
  | .rt v => ∀ z, Rv K w v z → D.rt z H
def tS (K : PySem.W.Frag) (w0 : Wd) (H0 : Hp) (m : Lv → Sto → Out) : TS := fun D σ H => ∃ w e s fl e1 s1, Rl K w0 H0 w e s σ H ∧ m e s = some (fl, e1, s1) ∧
  ∀ w1 σ1 H1, Rl K w0 H0 w1 e1 s1 σ1 H1 → Le w H w1 H1 → Fin K w1 D σ1 H1 fl
theorem stp_inv {α : Type} {m : M α} {f : α → Sto → Out} {s : Sto} {o : Flow × Lv × Sto} (h : stp m f s = some o) : ∃ a s1, m s = some (a, s1) ∧ f a s1 = some o := by
  unfold stp at h
  split at h
  · cases h
  · rename_i a s1 e
    exact ⟨a, s1, e, h⟩
theorem map_inv {α β : Type} {o : Option α} {f : α → β} {b : β} (h : o.map f = some b) : ∃ a, o = some a ∧ f a = b := Option.map_eq_some_iff.mp h
section
variable {X : Cx} {w0 : Wd} {H0 : Hp} {pos : Pos} {ma mb mc : Lv → M Val} {a b c : Expr}
theorem ps_imp {st : Stmt} {t t' : TS} (h : PS X st t) (f : ∀ D σ H, t' D σ H → t D σ H) : PS X st t' := ⟨fun pins s σ H D I q => h.run pins s σ H D I (f D σ H q)⟩
theorem pss_imp {st : List Stmt} {t t' : TS} (h : PSs X st t) (f : ∀ D σ H, t' D σ H → t D σ H) : PSs X st t' := ⟨fun pins s σ H D I q => h.run pins s σ H D I (f D σ H q)⟩
theorem s_nil : PSs X [] (tS X.K w0 H0 fun e s => some (.nx, e, s)) := pss_imp pss_nil fun D σ H h => by
  obtain ⟨w, e, s, fl, e1, s1, R, ev, k⟩ := h
  cases ev
  exact k w σ H R .refl
theorem s_cons {st : Stmt} {rest : List Stmt} {m1 m2 : Lv → Sto → Out} (h1 : PS X st (tS X.K w0 H0 m1)) (h2 : PSs X rest (tS X.K w0 H0 m2)) : PSs X (st :: rest) (tS X.K w0 H0 fun e s => sq (m1 e s) m2) := pss_imp (pss_cons h1 h2) fun D σ H h => by
  obtain ⟨w, e, s, fl, e1, s1, R, ev, k⟩ := h
  have ev : sq (m1 e s) m2 = some (fl, e1, s1) := ev
  cases q : m1 e s with
  | none => rw [q] at ev; cases ev
  | some o =>
    obtain ⟨f2, e2, s2⟩ := o
    rw [q] at ev
    refine ⟨w, e, s, f2, e2, s2, R, q, fun w1 σ1 H1 R1 l1 => ?_⟩
    cases f2 with
    | nx => exact ⟨w1, e2, s2, fl, e1, s1, R1, ev, fun w2 σ2 H2 R2 l2 => k w2 σ2 H2 R2 (l1.trans l2)⟩
    | bk => cases (show some (Flow.bk, e2, s2) = some (fl, e1, s1) from ev); exact k w1 σ1 H1 R1 l1
    | ct => cases (show some (Flow.ct, e2, s2) = some (fl, e1, s1) from ev); exact k w1 σ1 H1 R1 l1
    | rt v => cases (show some (Flow.rt v, e2, s2) = some (fl, e1, s1) from ev); exact k w1 σ1 H1 R1 l1
theorem s_pass : PS X (.Pass pos) (tS X.K w0 H0 fun e s => some (.nx, e, s)) := ps_imp ps_pass fun D σ H h => by
  obtain ⟨w, e, s, fl, e1, s1, R, ev, k⟩ := h
  cases ev
  exact k w σ H R .refl
theorem s_ex (ha : PE X a (tE X.K w0 H0 ma)) (hs : swapsWith a none pos.line X.env = pure false) : PS X (.Expr a pos) (tS X.K w0 H0 fun e s => stp (ma e) (fun _ s => some (.nx, e, s)) s) := ps_imp (ps_expr ha hs) fun D σ H h => by
  obtain ⟨w, e, s, fl, e1, s1, R, ev, k⟩ := h
  obtain ⟨v, s2, e2, ev⟩ := stp_inv ev
  cases ev
  exact ⟨w, e, s, v, _, R, e2, fun w1 x H1 R1 l1 r1 => k w1 σ H1 R1 l1⟩
theorem s_ret (hw : w0.nu = []) (ha : PE X a (tE X.K w0 H0 ma)) : PS X (.Return (some a) pos) (tS X.K w0 H0 fun e s => stp (ma e) (fun v s => stp (keepV v) (fun w s => some (.rt w, e, s)) s) s) := ps_imp (ps_ret ha) fun D σ H h => by
  obtain ⟨w, e, s, fl, e1, s1, R, ev, k⟩ := h
  obtain ⟨v, s2, e2, ev⟩ := stp_inv ev
  obtain ⟨v3, s3, e3, ev⟩ := stp_inv ev
  cases ev
  refine ⟨w, e, s, v, s2, R, e2, fun w1 x H1 R1 l1 r1 => ?_⟩
  obtain ⟨w2, R2, l2, r2, _⟩ := keepV_ok hw R1 r1 e3
  exact k w2 σ H1 R2 (l1.trans l2) x r2
theorem s_ret0 : PS X (.Return none pos) (tS X.K w0 H0 fun e s => some (.rt (.d .none), e, s)) := ps_imp ps_retN fun D σ H h => by
  obtain ⟨w, e, s, fl, e1, s1, R, ev, k⟩ := h
  cases ev
  exact k w σ H R .refl .non (show Rp _ _ _ _ from rp_none)
theorem s_if {c : Expr} {A B : List Stmt} {m : Lv → M Bool} {m1 m2 : Lv → Sto → Out} (hc : PT X c (tT X.K w0 H0 m)) (h1 : PSs X A (tS X.K w0 H0 m1)) (h2 : PSs X B (tS X.K w0 H0 m2)) :
    PS X (.If c A B pos) (tS X.K w0 H0 fun e s => stp (m e) (fun k s => if k then m1 e s else m2 e s) s) := ps_imp (ps_if hc h1 h2) fun D σ H h => by
  obtain ⟨w, e, s, fl, e1, s1, R, ev, k⟩ := h
  obtain ⟨v, s2, e2, ev⟩ := stp_inv ev
  refine ⟨w, e, s, v, s2, R, e2, fun w1 H1 R1 l1 => ?_⟩
  cases v with
  | true => exact ⟨w1, e, s2, fl, e1, s1, R1, ev, fun w2 σ2 H2 R2 l2 => k w2 σ2 H2 R2 (l1.trans l2)⟩
  | false => exact ⟨w1, e, s2, fl, e1, s1, R1, ev, fun w2 σ2 H2 R2 l2 => k w2 σ2 H2 R2 (l1.trans l2)⟩
/-! ### stores -/
theorem s_set {i : Nat} {st : Stmt} (h : PS X st (tAsg (tE X.K w0 H0 ma) (gName i))) : PS X st (tS X.K w0 H0 fun e s => stp (ma e) (fun v s => some (.nx, e.set i (some v), s)) s) := ps_imp h fun D σ H h => by
  obtain ⟨w, e, s, fl, e1, s1, R, ev, k⟩ := h
  obtain ⟨v, s2, e2, ev⟩ := stp_inv ev
  cases ev
  exact ⟨w, e, s, v, _, R, e2, fun w1 x H1 R1 l1 r1 => k w1 _ H1 (R1.setE r1) l1⟩
theorem s_setL {i : Nat} {st : Stmt} {wh : Wh} {tgt : Tg} {mi : Lv → M (List PyData)} {mc : Lv → M Bool} {me : Lv → M Val} {own : List Nat} (hw : w0.nu = []) (hin : tgIn tgt own = true)
    (h : PS X st (tAsg (tLc (tI X.K w0 H0 mi) (tG X.K w0 H0 tgt) (tT X.K w0 H0 mc) (tE X.K w0 H0 me) own) (gName i))) :
    PS X st (tS X.K w0 H0 fun e s => stp (bd (mi e) fun xs => bd (compL (compF wh tgt own mc me e) xs) fun vs => if vs.length ≤ 16777216 then place wh vs else no) (fun v s => some (.nx, e.set i (some v), s)) s) := ps_imp h fun D σ H h => by
  obtain ⟨w, e, s, fl, e1, s1, R, ev, k⟩ := h
  obtain ⟨v, s2, e2, ev⟩ := stp_inv ev
  cases ev
  exact lc_imp hw hin ⟨w, e, s, v, _, R, e2, fun w1 x H1 R1 l1 r1 => k w1 _ H1 (R1.setE r1) l1⟩
theorem s_asg {tgt : Tg} {st : Stmt} (h : PS X st (tAsg (tE X.K w0 H0 ma) (tG X.K w0 H0 tgt))) : PS X st (tS X.K w0 H0 fun e s => stp (ma e) (fun v s => (asgT tgt v e).map fun e1 => (.nx, e1, s)) s) := ps_imp h fun D σ H h => by
  obtain ⟨w, e, s, fl, e1, s1, R, ev, k⟩ := h
  obtain ⟨v, s2, e2, ev⟩ := stp_inv ev
  obtain ⟨e3, h3, h4⟩ := map_inv ev
  cases h4
  exact ⟨w, e, s, v, _, R, e2, fun w1 x H1 R1 l1 r1 => ⟨w1, e, _, v, _, R1, r1, h3, fun σ1 R2 _ => k w1 σ1 H1 R2 l1⟩⟩
theorem s_par {i j : Nat} {st : Stmt} (h : PS X st (tPar i j (tCons (tE X.K w0 H0 ma) (tCons (tE X.K w0 H0 mb) tNil)))) :
    PS X st (tS X.K w0 H0 fun e s => stp (ma e) (fun v s => stp (mb e) (fun u s => some (.nx, (e.set i (some v)).set j (some u), s)) s) s) := ps_imp h fun D σ H h => by
  obtain ⟨w, e, s, fl, e1, s1, R, ev, k⟩ := h
  obtain ⟨v, s2, e2, ev⟩ := stp_inv ev
  obtain ⟨u, s3, e3, ev⟩ := stp_inv ev
  cases ev
  exact ⟨w, e, s, v, s2, R, e2, fun w1 x H1 R1 l1 r1 => ⟨w1, e, _, u, _, R1, e3, fun w2 y H2 R2 l2 r2 => ⟨x, y, rfl, k w2 _ H2 ((R2.setE (r1.mono l2)).setE r2) (l1.trans l2)⟩⟩⟩
theorem s_par3 {i j l : Nat} {st : Stmt} (h : PS X st (tPar3 i j l (tCons (tE X.K w0 H0 ma) (tCons (tE X.K w0 H0 mb) (tCons (tE X.K w0 H0 mc) tNil))))) :
    PS X st (tS X.K w0 H0 fun e s => stp (ma e) (fun v s => stp (mb e) (fun u s => stp (mc e) (fun x s => some (.nx, ((e.set i (some v)).set j (some u)).set l (some x), s)) s) s) s) := ps_imp h fun D σ H h => by
  obtain ⟨w, e, s, fl, e1, s1, R, ev, k⟩ := h
  obtain ⟨v, s2, e2, ev⟩ := stp_inv ev
  obtain ⟨u, s3, e3, ev⟩ := stp_inv ev
  obtain ⟨t, s4, e4, ev⟩ := stp_inv ev
  cases ev
  exact ⟨w, e, s, v, s2, R, e2, fun w1 x H1 R1 l1 r1 => ⟨w1, e, s2, u, s3, R1, e3, fun w2 y H2 R2 l2 r2 => ⟨w2, e, _, t, _, R2, e4, fun w3 z H3 R3 l3 r3 =>
    ⟨x, y, z, rfl, k w3 _ H3 (((R3.setE ((r1.mono l2).mono l3)).setE (r2.mono l3)).setE r3) ((l1.trans l2).trans l3)⟩⟩⟩⟩
def semSet (X : Cx) : TSet := fun o i v H Q => ∀ (pins : List (Addr × Obj)) (sh : Shared) (si : L2.St) (ov iv u : Value), L2.Inv X pins si H sh → RelV o ov → RelV i iv → RelV v u → wpAny (model X.prog X.w) X.A (setItem ov iv u) (fun _ s' => ∃ H', L2.Inv X pins si H' s' ∧ Q H') X.xe sh
theorem set_sem : PSet X (semSet X) := fun pins s σ H o i v ov iv u Q I r1 r2 r3 h => h pins s σ ov iv u I r1 r2 r3
theorem s_sub {st : Stmt} (C : Cn X) (hw : w0.nu = []) (h : PS X st (tAsg (tE X.K w0 H0 mc) (gSub (tE X.K w0 H0 ma) (tE X.K w0 H0 mb) (semSet X)))) :
    PS X st (tS X.K w0 H0 fun e s => stp (mc e) (fun x s => stp (ma e) (fun c s => stp (mb e) (fun k s => stp (setV c k x) (fun _ s => some (.nx, e, s)) s) s) s) s) := ps_imp h fun D σ H h => by
  obtain ⟨w, e, s, fl, e1, s1, R, ev, k⟩ := h
  obtain ⟨v, s2, e2, ev⟩ := stp_inv ev
  obtain ⟨o, s3, e3, ev⟩ := stp_inv ev
  obtain ⟨i, s4, e4, ev⟩ := stp_inv ev
  obtain ⟨u, s5, e5, ev⟩ := stp_inv ev
  cases ev
  exact ⟨w, e, s, v, s2, R, e2, fun w1 x H1 R1 l1 r1 => ⟨w1, e, s2, o, s3, R1, e3, fun w2 y H2 R2 l2 r2 => ⟨w2, e, s3, i, s4, R2, e4, fun w3 z H3 R3 l3 r3 =>
    fun pins sh si ov iv uv I r4 r5 r6 => set_ok C hw I r4 r5 r6 R3 (r2.mono l3) r3 ((r1.mono l2).mono l3) e5 fun w' H' R' l' => k w' σ H' R' (((l1.trans l2).trans l3).trans l')⟩⟩⟩
def semGet (X : Cx) : V → V → Hp → VK → Prop := fun o i H Q => ∀ (pins : List (Addr × Obj)) (sh : Shared) (si : L2.St) (ov iv : Value), L2.Inv X pins si H sh → RelV o ov → RelV i iv → wpAny (model X.prog X.w) X.A (getItem ov iv) (EP X pins si Q) X.xe sh
theorem get_sem : PGet X (semGet X) := fun pins s σ H o i ov iv Q I r1 r2 h => h pins s σ ov iv I r1 r2
theorem s_augs {st : Stmt} {f : Int → Int → Int} {o : Operator} (hf : ∀ i j, binD o (.int i) (.int j) = some (.int (f i j))) (C : Cn X) (hw : w0.nu = []) (h : PS X st (tAugS (tE X.K w0 H0 ma) (tE X.K w0 H0 mb) (tE X.K w0 H0 mc) (semGet X) (ipI f) (semSet X))) :
    PS X st (tS X.K w0 H0 fun e s => stp (ma e) (fun cv s => stp (mb e) (fun iv s => stp (augG cv iv) (fun v s => stp (mc e) (fun u s => stp (bd (peek v) fun x => bd (peek u) fun y => ofO (augI o x y)) (fun w s =>
      stp (setV cv iv w) (fun _ s => some (.nx, e, s)) s) s) s) s) s) s) := ps_imp h fun D σ H h => by
  obtain ⟨w, e, s, fl, e1, s1, R, ev, k⟩ := h
  obtain ⟨v, s2, e2, ev⟩ := stp_inv ev
  obtain ⟨i, s3, e3, ev⟩ := stp_inv ev
  obtain ⟨g, s4, e4, ev⟩ := stp_inv ev
  obtain ⟨u, s5, e5, ev⟩ := stp_inv ev
  obtain ⟨n, s6, e6, ev⟩ := stp_inv ev
  obtain ⟨t, s7, e7, ev⟩ := stp_inv ev
  cases ev
  refine ⟨w, e, s, v, s2, R, e2, fun w1 x H1 R1 l1 r1 => ⟨w1, e, s2, i, s3, R1, e3, fun w2 y H2 R2 l2 r2 => fun pins sh si ov iv I rx ry => ?_⟩⟩
  obtain ⟨kd, tk, e4'⟩ := pk R2 r2 e4
  cases q : getO v s3 with
  | none => rw [q] at e4'; cases e4'
  | some so =>
    obtain ⟨p, ep, ro⟩ := R2.obj (r1.mono l2) q
    subst ep
    rw [q] at e4'
    cases so with
    | lst vs =>
      obtain ⟨_, xs, hp, hr⟩ := ro
      cases kd with
      | int j =>
        have e4' : (if 0 ≤ j then (vs[j.toNat]?).map fun v => (v, s3) else none) = some (g, s4) := e4'
        split at e4'
        · rename_i hj
          obtain ⟨gv, h3, h4⟩ := map_inv e4'
          cases h4
          obtain ⟨z, h5, h6⟩ := hr.at_ h3
          obtain ⟨its, rv, pl, hz⟩ := I.list (SqL.of hp)
          obtain ⟨zv, h7, h8⟩ := rv.get h5
          cases rx
          cases (show y = .int j from tk)
          obtain ⟨tt, et⟩ := ry
          subst et
          have hl := rv.length
          have hlt : j.toNat < xs.length := (List.getElem?_eq_some_iff.mp h5).1
          have h63 := line63
          refine wpAny_getItem_list pl.isList hj (by omega) (by simpa using h7) ⟨z, H2, I, h8, w2, e, s3, u, s5, R2, e5, fun w3 y3 H3 R3 l3 r3 => ?_⟩
          obtain ⟨d1, td1, e6'⟩ := pk R3 (h6.mono l3) e6
          obtain ⟨d2, td2, e6''⟩ := pk R3 r3 e6'
          obtain ⟨e8, e9⟩ := ofO_inv e6''
          subst e9
          cases d1 with
          | int a1 =>
            cases d2 with
            | int a2 =>
              have e8 : (binD o (.int a1) (.int a2)).map Val.d = some n := e8
              rw [hf] at e8
              cases e8
              refine ⟨a1, a2, td1, td2, fun pins sh si ov iv uv I r4 r5 r6 => ?_⟩
              exact set_ok C hw I r4 r5 r6 R3 ((r1.mono l2).mono l3) (r2.mono l3) (show Rv X.K w3 (.d (.int (f a1 a2))) (.int (f a1 a2)) from (show Rp _ _ _ _ from rp_int)) e7 fun w' H' R' l' => k w' σ H' R' (((l1.trans l2).trans l3).trans l')
            | _ => cases e8
          | _ => cases e8
        · cases e4'
      | _ => cases e4'
    | _ => cases e4'
/-! ### loops -/
theorem s_for {tg iter : Expr} {body : List Stmt} {tgt : Tg} {mi : Lv → M (List PyData)} {m : Lv → Sto → Out} (hp : PassesOwn (model X.prog X.w) X.A X.env X.xe) (hc : X.calm = true) (hi : PI X tg iter (tI X.K w0 H0 mi)) (hg : PG X tg (tG X.K w0 H0 tgt)) (hb : PSs X body (tS X.K w0 H0 m))
    (hs : ∀ x, foldedSetIterable iter X.env x = pure x) : PS X (.For tg iter body [] pos) (tS X.K w0 H0 fun e s => stp (mi e) (fun xs s => forL (forF tgt m) xs e s) s) := ps_imp (ps_for hp hc hi hg hb hs) fun D σ H h => by
  obtain ⟨w, e, s, fl, e1, s1, R, ev, k⟩ := h
  obtain ⟨ds, s2, e2, ev⟩ := stp_inv ev
  refine ⟨w, e, s, ds, s2, R, e2, fun w1 J H1 R1 l1 wk => ⟨fun i m' σ' H' => m' = ds.length - i ∧ i ≤ ds.length ∧ ∃ w2 e2 s2, Rl X.K w0 H0 w2 e2 s2 σ' H' ∧ Le w1 H1 w2 H' ∧ forL (forF tgt m) (ds.drop i) e2 s2 = some (fl, e1, s1), ⟨ds.length, by simp, Nat.zero_le _, w1, e, s2, R1, .refl, ev⟩, ?_⟩⟩
  rintro i m' σ' H' ⟨rfl, hi, w2, e3, s3, R2, l2, hf⟩
  by_cases hlt : i < ds.length
  · rw [List.drop_eq_getElem_cons hlt] at hf
    have hf : loopN (forL (forF tgt m) (ds.drop (i + 1))) (forF tgt m ds[i] e3 s3) = some (fl, e1, s1) := hf
    refine .inr ⟨wk.goes i H' hlt (l2.f.trans R2.fh), fun σ'' H'' => ∃ w3 e4 s4, Rl X.K w0 H0 w3 e4 s4 σ'' H'' ∧ Le w1 H1 w3 H'' ∧ forL (forF tgt m) (ds.drop (i + 1)) e4 s4 = some (fl, e1, s1),
      fun σ'' H'' ⟨w3, e4, s4, h1, h2, h3⟩ => ⟨_, by omega, rfl, hlt, w3, e4, s4, h1, h2, h3⟩, fun x H3 y => ?_⟩
    obtain ⟨w3, d, hd, R3, l3, rd⟩ := wk.turn R2 l2.f hlt y
    have ed : ds[i] = d := by
      rw [List.getElem?_eq_getElem hlt] at hd
      exact Option.some.inj hd
    subst ed
    have L3 := l2.trans l3
    cases ha : asgT tgt (.d ds[i]) e3 with
    | none => unfold forF at hf; rw [ha] at hf; cases hf
    | some ee =>
      have eF : forF tgt m ds[i] e3 s3 = m ee s3 := by unfold forF; rw [ha]
      rw [eF] at hf
      refine ⟨w3, e3, s3, .d ds[i], ee, R3, rd, ha, fun σ4 R4 _ => ?_⟩
      cases hm : m ee s3 with
      | none => rw [hm] at hf; cases hf
      | some o =>
        obtain ⟨f5, e5, s5⟩ := o
        rw [hm] at hf
        refine ⟨w3, ee, s3, f5, e5, s5, R4, hm, fun w5 σ5 H5 R5 l5 => ?_⟩
        cases f5 with
        | nx => exact ⟨w5, e5, s5, R5, L3.trans l5, hf⟩
        | ct => exact ⟨w5, e5, s5, R5, L3.trans l5, hf⟩
        | bk =>
          cases (show some (Flow.nx, e5, s5) = some (fl, e1, s1) from hf)
          exact k w5 σ5 H5 R5 ((l1.trans L3).trans l5)
        | rt v =>
          cases (show some (Flow.rt v, e5, s5) = some (fl, e1, s1) from hf)
          exact k w5 σ5 H5 R5 ((l1.trans L3).trans l5)
  · have hi2 : i = ds.length := by omega
    subst hi2
    rw [List.drop_length] at hf
    cases (show some (Flow.nx, e3, s3) = some (fl, e1, s1) from hf)
    exact .inl ⟨wk.stops H' (l2.f.trans R2.fh), k w2 σ' H' R2 (l1.trans l2)⟩
theorem s_whl {body : List Stmt} {c : Expr} {n : Nat} {mc : Lv → M Bool} {m : Lv → Sto → Out} (hp : PassesOwn (model X.prog X.w) X.A X.env X.xe) (hc : PT X c (tT X.K w0 H0 mc)) (hb : PSs X body (tS X.K w0 H0 m)) :
    PS X (.While c body [] pos) (tS X.K w0 H0 fun e s => whlL mc m n e s) := ps_imp (ps_while hp hc hb) fun D σ H h => by
  obtain ⟨w, e, s, fl, e1, s1, R, ev, k⟩ := h
  refine ⟨fun n σ' H' => ∃ w2 e2 s2, Rl X.K w0 H0 w2 e2 s2 σ' H' ∧ Le w H w2 H' ∧ whlL mc m n e2 s2 = some (fl, e1, s1), ⟨n, w, e, s, R, .refl, ev⟩, ?_⟩
  rintro n σ' H' ⟨w2, e2, s2, R2, l2, hf⟩
  cases n with
  | zero => cases hf
  | succ n =>
    obtain ⟨b, s3, e3, hf⟩ := stp_inv (show stp (mc e2) (fun k s => if k then loopN (whlL mc m n) (m e2 s) else some (.nx, e2, s)) s2 = some (fl, e1, s1) from hf)
    refine ⟨w2, e2, s2, b, s3, R2, e3, fun w3 H3 R3 l3 => ?_⟩
    have L3 := l2.trans l3
    cases b with
    | false =>
      cases (show some (Flow.nx, e2, s3) = some (fl, e1, s1) from hf)
      show (if false = true then _ else _)
      rw [if_neg Bool.false_ne_true]
      exact k w3 σ' H3 R3 L3
    | true =>
      show (if true = true then _ else _)
      rw [if_pos rfl]
      refine ⟨fun σ'' H'' => ∃ w2 e2 s2, Rl X.K w0 H0 w2 e2 s2 σ'' H'' ∧ Le w H w2 H'' ∧ whlL mc m n e2 s2 = some (fl, e1, s1), fun σ'' H'' h => ⟨n, Nat.lt_succ_self n, h⟩, ?_⟩
      have hf : loopN (whlL mc m n) (m e2 s3) = some (fl, e1, s1) := hf
      cases hm : m e2 s3 with
      | none => rw [hm] at hf; cases hf
      | some o =>
        obtain ⟨f5, e5, s5⟩ := o
        rw [hm] at hf
        refine ⟨w3, e2, s3, f5, e5, s5, R3, hm, fun w5 σ5 H5 R5 l5 => ?_⟩
        cases f5 with
        | nx => exact ⟨w5, e5, s5, R5, L3.trans l5, hf⟩
        | ct => exact ⟨w5, e5, s5, R5, L3.trans l5, hf⟩
        | bk =>
          cases (show some (Flow.nx, e5, s5) = some (fl, e1, s1) from hf)
          exact k w5 σ5 H5 R5 (L3.trans l5)
        | rt v =>
          cases (show some (Flow.rt v, e5, s5) = some (fl, e1, s1) from hf)
          exact k w5 σ5 H5 R5 (L3.trans l5)
end
end Ev

/-! the evaluator's text against the program's -/
namespace Ev
open PySem PySem.Spec PyProof.Rows L2
structure Pm where
  N : List Str
  sc : Scope
  fnB : Str → Bool
  cn : List Str
  fs : List (Str × Nat)
def visB (sc : Scope) (x : Str) : Bool := match sc.names.lookup x with
  | some .local => true
  | some .cell => true
  | some .free => true
  | _ => false
def locB (sc : Scope) (x : Str) : Bool := match sc.names.lookup x with
  | some .local => true
  | some .cell => true
  | _ => false
def glB (sc : Scope) (x : Str) : Bool := decide (sc.names.lookup x = some .globalImplicit)
def litB : PyData → Const → Bool
  | .none, .none => true
  | .bool b, .bool c => decide (b = c)
  | .int i, .int j => decide (i = j)
  | .str x, .str y => decide (x = y)
  | _, _ => false
def noStar : Expr → Bool
  | .Starred .. => false
  | _ => true
def noSlice : Expr → Bool
  | .Slice .. => false
  | _ => true
def noSet : Expr → Bool
  | .Set .. => false
  | _ => true
def noComp : Expr → Bool
  | .ListComp .. => false
  | .SetComp .. => false
  | .DictComp .. => false
  | _ => true
def plainBase : Expr → Bool
  | .Call (.Name ..) [] [] _ => false
  | _ => true
def isMinus1 : Expr → Bool
  | .UnaryOp .USub (.Constant (.int i) _ _) _ => decide (i = 1)
  | _ => false
def b1N : B1 → String
  | .len => "len"
  | .sum => "sum"
  | .all => "all"
  | .any => "any"
  | .abs => "abs"
  | .sorted => "sorted"
  | .tuple => "tuple"
  | .list => "list"
  | .intb => "int"
  | _ => ""
def b1S : B1 → Bool
  | .len => true
  | .sum => true
  | .all => true
  | .any => true
  | .abs => true
  | .sorted => true
  | .tuple => true
  | .list => true
  | .intb => true
  | _ => false
def b2N : B2 → String
  | .max => "max"
  | .min => "min"
def ownP (N : List Str) (own : List Nat) : List (Str × Nat) := own.map fun i => (N.getD i "", i)
def Pm.blk (P : Pm) (scope : Scope) : Pm := { P with sc := relS scope P.sc, fnB := fun x => scope.names.lookup x == some .cell }
def bltB (P : Pm) (x : Str) (n : String) : Bool := decide (x = Str.ofString n) && glB P.sc x
mutual
def chkG (P : Pm) : Tg → Expr → Bool
  | .nm i, x => (match x with
    | .Name y _ => decide (P.N[i]? = some y) && locB P.sc y && (P.fnB y || decide (P.sc.names.lookup y = some .local))
    | _ => false)
  | .tp ts, x => (match x with
    | .Tuple ys _ _ => chkGs P ts ys
    | _ => false)
  termination_by structural a => a
def chkGs (P : Pm) : Tgs → List Expr → Bool
  | .nil, xs => (match xs with
    | [] => true
    | _ => false)
  | .cons t ts, xs => (match xs with
    | y :: ys => noStar y && chkG P t y && chkGs P ts ys
    | _ => false)
  termination_by structural a => a
end
mutual
def chkE : Ex → Pm → Expr → Bool
  | .var i, P, x => (match x with
    | .Name y _ => decide (P.N[i]? = some y) && visB P.sc y && !(y == ("__debug__" : Str)) && !(y == ("__classdict__" : Str))
    | _ => false)
  | .lit d, P, x => (match x with
    | .Constant c _ _ => litB d c
    | _ => false)
  | .glo k, P, x => (match x with
    | .Name y _ => decide (P.cn[k]? = some y) && glB P.sc y && !(y == ("__debug__" : Str))
    | _ => false)
  | .bin o a b, P, x => (match x with
    | .BinOp y p z _ => decide (p = o) && chkE a P y && chkE b P z
    | _ => false)
  | .neg a, P, x => (match x with
    | .UnaryOp .USub y _ => chkE a P y
    | _ => false)
  | .cmp o a b, P, x => (match x with
    | .Compare y [p] [z] _ => decide (p = o) && chkE a P y && chkE b P z && !(behindInMarks o z)
    | _ => false)
  | .chn o1 o2 a b c, P, x => (match x with
    | .Compare y [p, q] [z, u] _ => decide (p = o1) && decide (q = o2) && chkE a P y && chkE b P z && chkE c P u && !(lastMarks [o1, o2] [z, u])
    | _ => false)
  | .and es, P, x => (match x with
    | .BoolOp .And ys _ => chkB es P ys
    | _ => false)
  | .or es, P, x => (match x with
    | .BoolOp .Or ys _ => chkB es P ys
    | _ => false)
  | .not a, P, x => (match x with
    | .UnaryOp .Not y _ => chkE a P y
    | _ => false)
  | .ife c a b, P, x => (match x with
    | .IfExp t y z _ => chkT c P t && chkE a P y && chkE b P z
    | _ => false)
  | .tup es, P, x => (match x with
    | .Tuple ys _ _ => chkEs es P ys
    | _ => false)
  | .lst _ es, P, x => (match x with
    | .List ys _ => chkEs es P ys
    | _ => false)
  | .dct0, P, x => (match x with
    | .Dict [] [] _ => true
    | _ => false)
  | .idx a b, P, x => (match x with
    | .Subscript y z _ => chkE a P y && chkE b P z && noSlice z
    | _ => false)
  | .slc a lo hi, P, x => (match x with
    | .Subscript y (.Slice l h none _) _ => chkE a P y && chkP lo P l && chkP hi P h
    | _ => false)
  | .rev a, P, x => (match x with
    | .Subscript y (.Slice none none (some s) _) _ => chkE a P y && isMinus1 s
    | _ => false)
  | .call f es, P, x => (match x with
    | .Call (.Name y _) (z :: zs) [] _ => decide (P.fs[f]? = some (y, (z :: zs).length)) && glB P.sc y && !(y == ("__debug__" : Str)) && chkEs es P (z :: zs)
    | _ => false)
  | .b1 f a, P, x => (match x with
    | .Call (.Name y _) [z] [] _ => b1S f && bltB P y (b1N f) && chkE a P z && noStar z
    | _ => false)
  | .b2 f a b, P, x => (match x with
    | .Call (.Name y _) [z, u] [] _ => bltB P y (b2N f) && chkE a P z && chkE b P u && noStar z && noStar u
    | _ => false)
  | .isi a t, P, x => (match x with
    | .Call (.Name y _) [z, .Name u _] [] _ => bltB P y "isinstance" && bltB P u (tyN t) && chkE a P z && noStar z
    | _ => false)
  | .get d k y, P, x => (match x with
    | .Call (.Attribute o m ap) [z, u] [] cp => decide (m = Str.ofString "get") && (ap.endLine == cp.line) && plainBase o && chkE d P o && chkE k P z && chkE y P u && noStar z && noStar u
    | _ => false)
  | .app o a, P, x => (match x with
    | .Call (.Attribute p m ap) [z] [] cp => decide (m = Str.ofString "append") && (ap.endLine == cp.line) && plainBase p && chkE o P p && chkE a P z && noStar z
    | _ => false)
  | .comp _ elt tg it cd own, P, x => (match x with
    | .ListComp y [⟨t, i, ifs, z⟩] scope _ => decide (z = 0) && blkC P.N P.sc scope (ownP P.N own) && chkI it P t i && tgIn tg own && chkG (P.blk scope) tg t && chkC cd (P.blk scope) ifs && chkE elt (P.blk scope) y
    | _ => false)
  | .dcomp _ _ _ _ _ _, _, _ => false
  termination_by structural a => a
def chkEs : Exs → Pm → List Expr → Bool
  | .nil, P, xs => (match xs with
    | [] => true
    | _ => false)
  | .cons a es, P, xs => (match xs with
    | y :: ys => noStar y && chkE a P y && chkEs es P ys
    | _ => false)
  termination_by structural a => a
def chkB : Exs → Pm → List Expr → Bool
  | .nil, P, xs => false
  | .cons a es, P, xs => (match xs with
    | [] => false
    | [y] => chkE a P y && (match es with
      | .nil => true
      | _ => false)
    | y :: ys => chkE a P y && chkB es P ys)
  termination_by structural a => a
def chkP : Xo → Pm → Option Expr → Bool
  | .none, P, x => (match x with
    | none => true
    | _ => false)
  | .some a, P, x => (match x with
    | some y => chkE a P y
    | _ => false)
  termination_by structural a => a
def chkT : Ct → Pm → Expr → Bool
  | .v a, P, x => chkE a P x && (match x with
    | .UnaryOp .Not _ _ => false
    | .BoolOp .. => false
    | .IfExp .. => false
    | _ => true)
  | .not a, P, x => (match x with
    | .UnaryOp .Not y _ => chkT a P y
    | _ => false)
  | .and cs, P, x => (match x with
    | .BoolOp .And ys _ => chkTs cs P ys
    | _ => false)
  | .or cs, P, x => (match x with
    | .BoolOp .Or ys _ => chkTs cs P ys
    | _ => false)
  | .ife _ _ _, _, _ => false
  termination_by structural a => a
def chkTs : Cts → Pm → List Expr → Bool
  | .nil, P, xs => false
  | .cons a cs, P, xs => (match xs with
    | [] => false
    | [y] => chkT a P y && (match cs with
      | .nil => true
      | _ => false)
    | y :: ys => chkT a P y && chkTs cs P ys)
  termination_by structural a => a
def chkC : Co → Pm → List Expr → Bool
  | .none, P, xs => (match xs with
    | [] => true
    | _ => false)
  | .some c, P, xs => (match xs with
    | [y] => chkT c P y
    | _ => false)
  termination_by structural a => a
def chkI : Ix → Pm → Expr → Expr → Bool
  | .seq a, P, _, x => chkE a P x && noSet x
  | .rng1 a, P, _, x => (match x with
    | .Call (.Name y _) [z] [] _ => bltB P y "range" && chkE a P z && noStar z
    | _ => false)
  | .rng2 a b, P, _, x => (match x with
    | .Call (.Name y _) [z, u] [] _ => bltB P y "range" && chkE a P z && chkE b P u && noStar z && noStar u
    | _ => false)
  | .enum a, P, t, x => (match t, x with
    | .Tuple .., .Call (.Name y _) [z] [] _ => bltB P y "enumerate" && chkE a P z && noStar z
    | _, _ => false)
  | .zip st a b, P, t, x => (match t, x with
    | .Tuple .., .Call (.Name y _) [z, u] [] _ => !st && bltB P y "zip" && chkE a P z && chkE b P u && noStar z && noStar u
    | _, _ => false)
  termination_by structural a => a
end
/-- the par-assignments' look -/
def parB (P : Pm) (i : Nat) (x : Str) : Bool := decide (P.N[i]? = some x) && decide (P.sc.names.lookup x = some .local)
def folded (vs : List Expr) : Bool := vs.all (foldedForSure 8)
/-- no stores exchanged -/
def parNo (t v : Expr) : Bool := match v with
  | .Tuple vs _ _ => (match t with
    | .Tuple [.Name _ _, .Tuple _ _ _] _ _ => true
    | .Tuple [.Name _ _, .Name _ _] _ _ => folded vs && vs.all noStar
    | _ => false)
  | _ => true
def compSw (P : Pm) (x : Str) (p : Pos) : Expr → Bool
  | .ListComp _ _ s vp => (match P.sc.kind with
    | .function => true
    | _ => false) && decide (P.sc.names.lookup x = some .local) && (p.line == vp.line) && !(s.names.any fun y => y.1 == x && (y.2 == .local || y.2 == .cell))
  | _ => false
def isFun (P : Pm) : Bool := match P.sc.kind with
  | .function => true
  | _ => false
def notConst (vs : List Expr) : Bool := !(vs.all (foldedForSure 8)) && !(vs.all (constantsAlone 8))
mutual
def chkS : St → Pm → Stmt → Bool
  | .ex a, P, x => (match x with
    | .Expr y _ => chkE a P y && noComp y
    | _ => false)
  | .set i a, P, x => (match x with
    | .Assign [.Name y p] v _ => isFun P && decide (P.N[i]? = some y) && locB P.sc y && (P.fnB y || decide (P.sc.names.lookup y = some .local)) && chkE a P v
    | _ => false)
  | .par i j a b, P, x => (match x with
    | .Assign [.Tuple [.Name y yp, .Name z zp] _ _] (.Tuple [u, v] _ _) _ => isFun P && parB P i y && parB P j z && decide (i ≠ j) && !(z == y) && (yp.line == zp.line) && notConst [u, v] && noStar u && noStar v && chkE a P u && chkE b P v
    | _ => false)
  | .par3 i j k a b c, P, x => (match x with
    | .Assign [.Tuple [.Name y yp, .Name z zp, .Name t tp] _ _] (.Tuple [u, v, w] _ _) _ => isFun P && parB P i y && parB P j z && parB P k t && decide (i ≠ j) && decide (i ≠ k) && decide (j ≠ k) && !(z == y) && !(t == y) && !(t == z) && (yp.line == zp.line) && (yp.line == tp.line) &&
        notConst [u, v, w] && noStar u && noStar v && noStar w && chkE a P u && chkE b P v && chkE c P w
    | _ => false)
  | .asg tg a, P, x => (match x with
    | .Assign [.Tuple ts k p] v _ => parNo (.Tuple ts k p) v && chkG P tg (.Tuple ts k p) && chkE a P v && isFun P
    | _ => false)
  | .sub o i a, P, x => (match x with
    | .Assign [.Subscript y z _] v _ => chkE o P y && chkE i P z && chkE a P v && noSlice z
    | _ => false)
  | .augs c i o a, P, x => (match x with
    | .AugAssign (.Subscript y z _) q v _ => decide (q = o) && (match o with
      | .Add => true
      | .Sub => true
      | _ => false) && chkE c P y && chkE i P z && chkE a P v && noSlice z
    | _ => false)
  | .iff c a b, P, x => (match x with
    | .If t y z _ => chkT c P t && chkSs a P y && chkSs b P z
    | _ => false)
  | .forr tg it body, P, x => (match x with
    | .For t i y [] _ => chkI it P t i && chkG P tg t && chkSs body P y
    | _ => false)
  | .whl _ c body, P, x => (match x with
    | .While t y [] _ => chkT c P t && chkSs body P y
    | _ => false)
  | .ret a, P, x => (match x with
    | .Return (some y) _ => chkE a P y
    | _ => false)
  | .ret0, P, x => (match x with
    | .Return none _ => true
    | _ => false)
  | .rse, _, _ => true
  | .pass, P, x => (match x with
    | .Pass _ => true
    | _ => false)
  termination_by structural a => a
def chkSs : Sts → Pm → List Stmt → Bool
  | .nil, P, xs => (match xs with
    | [] => true
    | _ => false)
  | .cons a as, P, xs => (match xs with
    | y :: ys => chkS a P y && chkSs as P ys
    | _ => false)
  termination_by structural a => a
end
end Ev

/-! expressions that pass the look are what the evaluator says -/
namespace Ev
open PySem PySem.Spec PyProof.Rows L2
def blNames : List String := ["len", "sum", "all", "any", "abs", "sorted", "tuple", "list", "int", "max", "min", "isinstance", "bool", "str", "dict", "range", "enumerate", "zip"]
/-- the context is as the look was told -/
structure Fit (P : Pm) (T : Tx) (X : Cx) : Prop where
  cn : Cn X
  nn : X.N = P.N
  nd : P.N.Nodup
  sc : X.env.scope = P.sc
  fn : ∀ x, P.fnB x = true → X.fn x = true
  bl : ∀ x ∈ blNames, X.mg (Str.ofString x) = none
  cs : ∀ k x, P.cn[k]? = some x → ∃ u v, X.mg x = some u ∧ RelV v u ∧ ∀ d, T.cs k = some d → ∀ F, Rp X.K F d v
  fs : ∀ f x n, P.fs[f]? = some (x, n) → ∃ k j, C8.Cal X.prog X.w X.K X.mg X.base k x (spE X.K (T.fn f) n) [] ∧ Room j X.A ∧ k ≤ j
section
variable {P : Pm} {T : Tx} {X : Cx}
theorem Fit.blk (F : Fit P T X) {scope : Scope} {s : Shared} {H : Hp} {C : Addr} {cl : List (Str × Addr)} {fp : List Addr} : Fit (P.blk scope) T (X.blk s H scope (compEnvC scope cl C X.env) fp) where
  cn := ⟨F.cn.calm, F.cn.un⟩
  nn := F.nn
  nd := F.nd
  sc := by
    show relS scope X.env.scope = relS scope P.sc
    rw [F.sc]
  fn := fun x h => h
  bl := F.bl
  cs := F.cs
  fs := F.fs
theorem vis_of {sc : Scope} {x : Str} (h : visB sc x = true) : Vis sc x := by
  unfold visB at h
  unfold Vis
  split at h <;> first | exact absurd h Bool.false_ne_true | simp [*]
theorem loc_of {sc : Scope} {x : Str} (h : locB sc x = true) : L2.Loc sc x := by
  unfold locB at h
  unfold L2.Loc
  split at h <;> first | exact absurd h Bool.false_ne_true | simp [*]
theorem Fit.vis (F : Fit P T X) {x : Str} (h : visB P.sc x = true) : Vis X.env.scope x := F.sc ▸ vis_of h
theorem Fit.loc (F : Fit P T X) {x : Str} (h : locB P.sc x = true) : L2.Loc X.env.scope x := F.sc ▸ loc_of h
theorem Fit.gl (F : Fit P T X) {x : Str} (h : glB P.sc x = true) : Gl X x := by
  unfold Gl Env.kindOf
  rw [F.sc]
  unfold glB at h
  simpa using h
theorem Fit.at_ (F : Fit P T X) {i : Nat} {x : Str} (h : P.N[i]? = some x) : X.N[i]? = some x := by rw [F.nn]; exact h
theorem Fit.nod (F : Fit P T X) : X.N.Nodup := by rw [F.nn]; exact F.nd
theorem star_cons {a : Expr} {es : List Expr} {env : Env} (h : noStar a = true) : starEach (a :: es) env = (false, eval a env) :: starEach es env := by
  cases a <;> first | rfl | exact absurd h Bool.false_ne_true
theorem star_one {a : Expr} {env : Env} (h : noStar a = true) : starEach [a] env = [(false, eval a env)] := star_cons h
theorem any_star {env : Env} {pos : Pos} : ∀ {es : List Expr}, es.all noStar = true → (backTo pos (starEach es env)).any (·.1) = false
  | [], _ => rfl
  | a :: es, h => by
    simp only [List.all_cons, Bool.and_eq_true] at h
    rw [star_cons h.1]
    show (false || (backTo pos (starEach es env)).any (·.1)) = false
    rw [any_star h.2]; rfl
theorem slice_of {a : Expr} (h : noSlice a = true) : PlainIx a := by
  intro o i
  cases a <;> first | rfl | exact absurd h Bool.false_ne_true
theorem set_of {a : Expr} {env : Env} (h : noSet a = true) : ∀ x, foldedSetIterable a env x = pure x := by
  intro x
  cases a <;> first | rfl | exact absurd h Bool.false_ne_true
theorem base_of {o : Expr} {m : Str} {env : Env} (h : plainBase o = true) : attributeBase o m env (eval o env) = eval o env := by
  unfold attributeBase
  split
  · cases h
  · rfl
theorem true_of {a : Expr} {env : Env} (h : (match a with
    | .UnaryOp .Not _ _ => false
    | .BoolOp .. => false
    | .IfExp .. => false
    | _ => true) = true) (hc : ∀ x os cs p, a ≠ .Compare x os cs p) : ∀ whole, isTrue a env whole = (do let v ← whole; standAt a.pos; holding [v] (truthy v)) := by
  intro whole
  cases a with
  | UnaryOp o x p => cases o <;> first | rfl | cases h
  | BoolOp => cases h
  | IfExp => cases h
  | Compare x os cs p => exact absurd rfl (hc x os cs p)
  | _ => rfl
theorem evEs_len {T : Tx} : ∀ (es : Exs) (P : Pm) (xs : List Expr) (lv : Lv) (s : Sto) (vs : List Val) (s' : Sto), chkEs es P xs = true → evEs T es lv s = some (vs, s') → vs.length = xs.length
  | .nil, P, xs, lv, s, vs, s', h, ev => by
    obtain ⟨e1, _⟩ := rt_inv (show rt [] s = some (vs, s') from ev)
    subst e1
    cases xs with
    | nil => rfl
    | cons _ _ => cases h
  | .cons a es, P, xs, lv, s, vs, s', h, ev => by
    cases xs with
    | nil => cases h
    | cons y ys =>
      have h : (noStar y && chkE a P y && chkEs es P ys) = true := h
      simp only [Bool.and_eq_true] at h
      obtain ⟨v, s1, _, ev⟩ := bd_inv (show bd (evE T a lv) (fun v => bd (evEs T es lv) fun vs => rt (v :: vs)) s = some (vs, s') from ev)
      obtain ⟨us, s2, e2, ev⟩ := bd_inv ev
      obtain ⟨e3, _⟩ := rt_inv ev
      subst e3
      simp [evEs_len es P ys lv s1 us s2 h.2 e2]
theorem chkEs_star : ∀ (es : Exs) (P : Pm) (xs : List Expr), chkEs es P xs = true → xs.all noStar = true
  | .nil, P, xs, h => by
    cases xs with
    | nil => rfl
    | cons _ _ => cases h
  | .cons a es, P, xs, h => by
    cases xs with
    | nil => cases h
    | cons y ys =>
      have h : (noStar y && chkE a P y && chkEs es P ys) = true := h
      simp only [Bool.and_eq_true] at h
      simp [h.1.1, chkEs_star es P ys h.2]
theorem blt_of {x : Str} {n : String} (h : bltB P x n = true) : x = Str.ofString n ∧ glB P.sc x = true := by
  unfold bltB at h
  simpa using h
theorem ownP_snd (N : List Str) (own : List Nat) : (ownP N own).map (·.2) = own := by
  unfold ownP
  rw [List.map_map]
  exact List.map_id _
/-! ### targets -/
theorem asgTs_len : ∀ (ts : Tgs) (P : Pm) (ys : List Expr), chkGs P ts ys = true → ∀ ds e e1, asgTs ts ds e = some e1 → ds.length = ys.length
  | .nil, P, ys, h, ds, e, e1, ha => by
    cases ys with
    | cons _ _ => cases h
    | nil => cases ds with
      | nil => rfl
      | cons _ _ => cases ha
  | .cons t ts, P, ys, h, ds, e, e1, ha => by
    cases ys with
    | nil => cases h
    | cons y ys =>
      have h : (noStar y && chkG P t y && chkGs P ts ys) = true := h
      simp only [Bool.and_eq_true] at h
      cases ds with
      | nil => cases ha
      | cons d ds =>
        obtain ⟨e2, _, h4⟩ := Option.bind_eq_some_iff.mp (show (asgT t (.d d) e).bind (fun e1 => asgTs ts ds e1) = some e1 from ha)
        simp [asgTs_len ts P ys h.2 ds e2 e1 h4]
theorem assign_snd {y : Expr} {ys : List Expr} {env : Env} : (assignEach (y :: ys) env).map (·.2) = (match y with | .Starred t _ => assign t env | _ => assign y env) :: (assignEach ys env).map (·.2) := by
  cases y <;> rfl
theorem assign_snd' {y : Expr} {ys : List Expr} {env : Env} (h : noStar y = true) : (assignEach (y :: ys) env).map (·.2) = assign y env :: (assignEach ys env).map (·.2) := by
  cases y <;> first | rfl | exact absurd h Bool.false_ne_true
theorem assign_len {env : Env} : ∀ {ys : List Expr}, (assignEach ys env).length = ys.length
  | [] => rfl
  | y :: ys => by
    have ih := assign_len (env := env) (ys := ys)
    cases y <;> (show (assignEach ys env).length + 1 = ys.length + 1; rw [ih])
theorem assign_find {env : Env} : ∀ {ys : List Expr}, ys.all noStar = true → (assignEach ys env).findIdx? (·.1) = none
  | [], _ => rfl
  | y :: ys, h => by
    simp only [List.all_cons, Bool.and_eq_true] at h
    have ih := assign_find (env := env) h.2
    have e : assignEach (y :: ys) env = (false, assign y env) :: assignEach ys env := by
      cases y <;> first | rfl | exact absurd h.1 Bool.false_ne_true
    rw [e, List.findIdx?_cons]
    simp [ih]
theorem chkGs_star : ∀ (ts : Tgs) (P : Pm) (ys : List Expr), chkGs P ts ys = true → ys.all noStar = true
  | .nil, P, xs, h => by
    cases xs with
    | nil => rfl
    | cons _ _ => cases h
  | .cons a es, P, xs, h => by
    cases xs with
    | nil => cases h
    | cons y ys =>
      have h : (noStar y && chkG P a y && chkGs P es ys) = true := h
      simp only [Bool.and_eq_true] at h
      simp [h.1.1, chkGs_star es P ys h.2]
mutual
theorem okG {w0 : Wd} {H0 : Hp} : ∀ (t : Tg) {P : Pm} {X : Cx} {x : Expr}, Fit P T X → chkG P t x = true → PG X x (tG X.K w0 H0 t)
  | .nm i, P, X, x, F, h => by
    cases x with
    | Name y p =>
      have h : (decide (P.N[i]? = some y) && locB P.sc y && (P.fnB y || decide (P.sc.names.lookup y = some .local))) = true := h
      simp only [Bool.and_eq_true, Bool.or_eq_true, decide_eq_true_eq] at h
      obtain ⟨⟨h1, h2⟩, h3⟩ := h
      refine g_name F.nod (F.at_ h1) (F.loc h2) ?_
      rcases h3 with h3 | h3
      · exact .inl (F.fn _ h3)
      · exact .inr (by rw [F.sc]; exact h3)
    | _ => cases h
  | .tp ts, P, X, x, F, h => by
    cases x with
    | Tuple ys k p =>
      have h : chkGs P ts ys = true := h
      exact g_tup F.cn.calm (okGs ts F h) (asgTs_len ts P ys h) assign_len (assign_find (chkGs_star ts P ys h))
    | _ => cases h
theorem okGs {w0 : Wd} {H0 : Hp} : ∀ (ts : Tgs) {P : Pm} {X : Cx} {xs : List Expr}, Fit P T X → chkGs P ts xs = true → PGs X xs (tGs X.K w0 H0 ts)
  | .nil, P, X, xs, F, h => by
    cases xs with
    | nil => exact gs_nil
    | cons _ _ => cases h
  | .cons t ts, P, X, xs, F, h => by
    cases xs with
    | nil => cases h
    | cons y ys =>
      have h : (noStar y && chkG P t y && chkGs P ts ys) = true := h
      simp only [Bool.and_eq_true] at h
      exact gs_cons (okG t F h.1.2) (okGs ts F h.2) (assign_snd' h.1.1)
end
/-! ### built-in names -/
theorem Fit.b1 (F : Fit P T X) {f : B1} {y : Str} {z : Expr} {p pos : Pos} {t : TE} (hf : b1S f = true) (hb : bltB P y (b1N f) = true) (hz : PE X z t) (hs : noStar z = true) : PE X (.Call (.Name y p) [z] [] pos) (tCB (semC X (b1F f)) (tCons t tNil)) := by
  obtain ⟨e, hg⟩ := blt_of hb
  subst e
  have hm : ∀ n ∈ blNames, X.mg (Str.ofString n) = none := F.bl
  have hg := F.gl hg
  have ha : PA X [z] (tCons t tNil) := pa_cons hz pa_nil (star_cons hs)
  cases f <;> first
    | exact absurd hf Bool.false_ne_true
    | exact pe_callB (call_sem _) hg (hm _ (by decide)) (by decide +kernel) ha (by decide) (by decide) (star_cons hs) rfl
    | exact pe_callTy (call_sem _) hg (hm _ (by decide)) (by decide +kernel) ha (by decide) (by decide) (star_cons hs) rfl
theorem Fit.b2 (F : Fit P T X) {f : B2} {y : Str} {z u : Expr} {p pos : Pos} {t t' : TE} (hb : bltB P y (b2N f) = true) (hz : PE X z t) (hu : PE X u t') (hs : noStar z = true) (hs' : noStar u = true) :
    PE X (.Call (.Name y p) [z, u] [] pos) (tCB (semC X (b2F f)) (tCons t (tCons t' tNil))) := by
  obtain ⟨e, hg⟩ := blt_of hb
  subst e
  have hm : ∀ n ∈ blNames, X.mg (Str.ofString n) = none := F.bl
  have hg := F.gl hg
  have ha : PA X [z, u] (tCons t (tCons t' tNil)) := pa_cons hz (pa_cons hu pa_nil (star_cons hs')) (star_cons hs)
  cases f <;> exact pe_callB (call_sem _) hg (hm _ (by decide)) (by decide +kernel) ha (by decide) (by decide) (star_cons hs) (any_star (by simp [hs']))
theorem Fit.isi (F : Fit P T X) {ty : Ty} {y u : Str} {z : Expr} {p pos pu : Pos} {t : TE} (hb : bltB P y "isinstance" = true) (hu : bltB P u (tyN ty) = true) (hz : PE X z t) (hs : noStar z = true) :
    PE X (.Call (.Name y p) [z, .Name u pu] [] pos) (tCB (semC X (.builtin "isinstance")) (tCons t (tCons (tC (.ty (tyN ty))) tNil))) := by
  obtain ⟨e, hg⟩ := blt_of hb
  subst e
  obtain ⟨e, hgu⟩ := blt_of hu
  subst e
  have hm : ∀ n ∈ blNames, X.mg (Str.ofString n) = none := F.bl
  have hg := F.gl hg
  have hgu := F.gl hgu
  have ht : PE X (.Name (Str.ofString (tyN ty)) pu) (tC (.ty (tyN ty))) := by
    cases ty <;> exact pe_bltn hgu (hm _ (by decide)) (by decide +kernel) rfl (by decide) (by decide)
  exact pe_callB (call_sem _) hg (hm _ (by decide)) (by decide +kernel) (pa_cons hz (pa_cons ht pa_nil rfl) (star_cons hs)) (by decide) (by decide) (star_cons hs) rfl
end
end Ev

/-! expressions that pass the look are what the evaluator says -/
namespace Ev
open PySem PySem.Spec PyProof.Rows L2
theorem lit_ok {X : Cx} {d : PyData} {c : Const} {k : Nat} {pos : Pos} {w0 : Wd} {H0 : Hp} (h : litB d c = true) : PE X (.Constant c k pos) (tE X.K w0 H0 fun _ => rt (.d d)) := by
  unfold litB at h
  split at h
  · exact e_con pe_non fun F => rp_none
  · rename_i a b
    cases (of_decide_eq_true h)
    exact e_con pe_bl fun F => rp_bool
  · rename_i a b
    cases (of_decide_eq_true h)
    exact e_con pe_int fun F => rp_int
  · rename_i a b
    cases (of_decide_eq_true h)
    exact e_con pe_str fun F => rp_str
  · cases h
section
variable {T : Tx} {w0 : Wd} {H0 : Hp} (hw : w0.nu = [])
include hw
mutual
theorem okE : ∀ (a : Ex) {P : Pm} {X : Cx} {x : Expr}, Fit P T X → chkE a P x = true → PE X x (tE X.K w0 H0 (evE T a))
  | .var i, P, X, x, F, h => by
    have h : (match (generalizing := false) x with
      | .Name y _ => decide (P.N[i]? = some y) && visB P.sc y && !(y == ("__debug__" : Str)) && !(y == ("__classdict__" : Str))
      | _ => false) = true := h
    split at h
    · simp only [Bool.and_eq_true, decide_eq_true_eq, Bool.not_eq_true'] at h
      obtain ⟨⟨⟨h1, h2⟩, h3⟩, h4⟩ := h
      exact e_var (F.at_ h1) (F.vis h2) h3 h4
    · cases h
  | .lit d, P, X, x, F, h => by
    have h : (match (generalizing := false) x with
      | .Constant c _ _ => litB d c
      | _ => false) = true := h
    split at h
    · exact lit_ok h
    · cases h
  | .glo k, P, X, x, F, h => by
    have h : (match (generalizing := false) x with
      | .Name y _ => decide (P.cn[k]? = some y) && glB P.sc y && !(y == ("__debug__" : Str))
      | _ => false) = true := h
    split at h
    · simp only [Bool.and_eq_true, decide_eq_true_eq, Bool.not_eq_true'] at h
      obtain ⟨⟨h1, h2⟩, h3⟩ := h
      obtain ⟨u, v, hm, r, hd⟩ := F.cs k _ h1
      refine pe_imp (pe_glob (F.gl h2) hm r h3) fun σ H Q q => ?_
      obtain ⟨w, e, s, z, s', R, ev, kk⟩ := q
      obtain ⟨d, e1, e2, e3⟩ := of_map (show ofO ((T.cs k).map Val.d) s = some (z, s') from ev)
      subst e2 e3
      exact kk w v H R .refl (hd d e1 w.F)
    · cases h
  | .bin o a b, P, X, x, F, h => by
    have h : (match (generalizing := false) x with
      | .BinOp y p z _ => decide (p = o) && chkE a P y && chkE b P z
      | _ => false) = true := h
    split at h
    · simp only [Bool.and_eq_true, decide_eq_true_eq] at h
      obtain ⟨⟨h1, h2⟩, h3⟩ := h
      subst h1
      exact e_bin F.cn (okE a F h2) (okE b F h3)
    · cases h
  | .neg a, P, X, x, F, h => by
    have h : (match (generalizing := false) x with
      | .UnaryOp .USub y _ => chkE a P y
      | _ => false) = true := h
    split at h
    · exact e_neg (okE a F h)
    · cases h
  | .cmp o a b, P, X, x, F, h => by
    have h : (match (generalizing := false) x with
      | .Compare y [p] [z] _ => decide (p = o) && chkE a P y && chkE b P z && !(behindInMarks o z)
      | _ => false) = true := h
    split at h
    · simp only [Bool.and_eq_true, decide_eq_true_eq, Bool.not_eq_true'] at h
      obtain ⟨⟨⟨h1, h2⟩, h3⟩, h4⟩ := h
      subst h1
      exact e_cmp F.cn (okE a F h2) (okE b F h3) h4
    · cases h
  | .chn o1 o2 a b c, P, X, x, F, h => by
    have h : (match (generalizing := false) x with
      | .Compare y [p, q] [z, u] _ => decide (p = o1) && decide (q = o2) && chkE a P y && chkE b P z && chkE c P u && !(lastMarks [o1, o2] [z, u])
      | _ => false) = true := h
    split at h
    · simp only [Bool.and_eq_true, decide_eq_true_eq, Bool.not_eq_true'] at h
      obtain ⟨⟨⟨⟨⟨h1, h2⟩, h3⟩, h4⟩, h5⟩, h6⟩ := h
      subst h1 h2
      exact e_chn F.cn (okE a F h3) (okE b F h4) (okE c F h5) h6
    · cases h
  | .and es, P, X, x, F, h => by
    have h : (match (generalizing := false) x with
      | .BoolOp .And ys _ => chkB es P ys
      | _ => false) = true := h
    split at h
    · exact okA es F h
    · cases h
  | .or es, P, X, x, F, h => by
    have h : (match (generalizing := false) x with
      | .BoolOp .Or ys _ => chkB es P ys
      | _ => false) = true := h
    split at h
    · exact okO es F h
    · cases h
  | .not a, P, X, x, F, h => by
    have h : (match (generalizing := false) x with
      | .UnaryOp .Not y _ => chkE a P y
      | _ => false) = true := h
    split at h
    · exact e_not (okE a F h)
    · cases h
  | .ife c a b, P, X, x, F, h => by
    have h : (match (generalizing := false) x with
      | .IfExp t y z _ => chkT c P t && chkE a P y && chkE b P z
      | _ => false) = true := h
    split at h
    · simp only [Bool.and_eq_true] at h
      exact e_ife (okT c F h.1.1) (okE a F h.1.2) (okE b F h.2)
    · cases h
  | .tup es, P, X, x, F, h => by
    have h : (match (generalizing := false) x with
      | .Tuple ys _ _ => chkEs es P ys
      | _ => false) = true := h
    split at h
    · exact e_tup hw (okEs es F h)
    · cases h
  | .lst w es, P, X, x, F, h => by
    have h : (match (generalizing := false) x with
      | .List ys _ => chkEs es P ys
      | _ => false) = true := h
    split at h
    · exact e_lst hw (okEs es F h)
    · cases h
  | .dct0, P, X, x, F, h => by
    have h : (match (generalizing := false) x with
      | .Dict [] [] _ => true
      | _ => false) = true := h
    split at h
    · exact e_dct0
    · cases h
  | .idx a b, P, X, x, F, h => by
    have h : (match (generalizing := false) x with
      | .Subscript y z _ => chkE a P y && chkE b P z && noSlice z
      | _ => false) = true := h
    split at h
    · simp only [Bool.and_eq_true] at h
      exact e_idx F.cn (okE a F h.1.1) (okE b F h.1.2) (slice_of h.2)
    · cases h
  | .slc a lo hi, P, X, x, F, h => by
    have h : (match (generalizing := false) x with
      | .Subscript y (.Slice l h none _) _ => chkE a P y && chkP lo P l && chkP hi P h
      | _ => false) = true := h
    split at h
    · simp only [Bool.and_eq_true] at h
      exact e_slc (okE a F h.1.1) (okP lo F h.1.2) (okP hi F h.2)
    · cases h
  | .rev a, P, X, x, F, h => by
    have h : (match (generalizing := false) x with
      | .Subscript y (.Slice none none (some s) _) _ => chkE a P y && isMinus1 s
      | _ => false) = true := h
    split at h
    · simp only [Bool.and_eq_true] at h
      obtain ⟨h1, h2⟩ := h
      unfold isMinus1 at h2
      split at h2
      · cases (of_decide_eq_true h2)
        exact e_rev (okE a F h1)
      · cases h2
    · cases h
  | .call f es, P, X, x, F, h => by
    have h : (match (generalizing := false) x with
      | .Call (.Name y _) (z :: zs) [] _ => decide (P.fs[f]? = some (y, (z :: zs).length)) && glB P.sc y && !(y == ("__debug__" : Str)) && chkEs es P (z :: zs)
      | _ => false) = true := h
    split at h
    · simp only [Bool.and_eq_true, decide_eq_true_eq, Bool.not_eq_true'] at h
      obtain ⟨⟨⟨h1, h2⟩, h3⟩, h4⟩ := h
      obtain ⟨k, j, c, r, hk⟩ := F.fs f _ _ h1
      have hst := chkEs_star es P _ h4
      simp only [List.all_cons, Bool.and_eq_true] at hst
      exact e_call hw (fun lv s vs s' ev => evEs_len es P _ lv s vs s' h4 ev) (C8.pe_c c r hk (F.gl h2) (okEs es F h4) h3 (star_cons hst.1) (any_star hst.2))
    · cases h
  | .b1 f a, P, X, x, F, h => by
    have h : (match (generalizing := false) x with
      | .Call (.Name y _) [z] [] _ => b1S f && bltB P y (b1N f) && chkE a P z && noStar z
      | _ => false) = true := h
    split at h
    · simp only [Bool.and_eq_true] at h
      exact e_b1 F.cn (F.b1 h.1.1.1 h.1.1.2 (okE a F h.1.2) h.2)
    · cases h
  | .b2 f a b, P, X, x, F, h => by
    have h : (match (generalizing := false) x with
      | .Call (.Name y _) [z, u] [] _ => bltB P y (b2N f) && chkE a P z && chkE b P u && noStar z && noStar u
      | _ => false) = true := h
    split at h
    · simp only [Bool.and_eq_true] at h
      exact e_b2 F.cn (F.b2 h.1.1.1.1 (okE a F h.1.1.1.2) (okE b F h.1.1.2) h.1.2 h.2)
    · cases h
  | .isi a t, P, X, x, F, h => by
    have h : (match (generalizing := false) x with
      | .Call (.Name y _) [z, .Name u _] [] _ => bltB P y "isinstance" && bltB P u (tyN t) && chkE a P z && noStar z
      | _ => false) = true := h
    split at h
    · simp only [Bool.and_eq_true] at h
      exact e_isi (F.isi h.1.1.1 h.1.1.2 (okE a F h.1.2) h.2)
    · cases h
  | .get d k y, P, X, x, F, h => by
    have h : (match (generalizing := false) x with
      | .Call (.Attribute o m ap) [z, u] [] cp => decide (m = Str.ofString "get") && (ap.endLine == cp.line) && plainBase o && chkE d P o && chkE k P z && chkE y P u && noStar z && noStar u
      | _ => false) = true := h
    split at h
    · simp only [Bool.and_eq_true, decide_eq_true_eq] at h
      obtain ⟨⟨⟨⟨⟨⟨⟨h1, h2⟩, h3⟩, h4⟩, h5⟩, h6⟩, h7⟩, h8⟩ := h
      subst h1
      refine e_get F.cn hw (pe_dget2 (room1 F.cn) (okE d F h4) (okE k F h5) (okE y F h6) ⟨base_of h3, ?_, h2, ?_⟩)
      · rw [star_cons h7, star_cons h8]; rfl
      · rw [star_cons h7, star_cons h8]; rfl
    · cases h
  | .app o a, P, X, x, F, h => by
    have h : (match (generalizing := false) x with
      | .Call (.Attribute p m ap) [z] [] cp => decide (m = Str.ofString "append") && (ap.endLine == cp.line) && plainBase p && chkE o P p && chkE a P z && noStar z
      | _ => false) = true := h
    split at h
    · simp only [Bool.and_eq_true, decide_eq_true_eq] at h
      obtain ⟨⟨⟨⟨⟨h1, h2⟩, h3⟩, h4⟩, h5⟩, h6⟩ := h
      subst h1
      refine e_app F.cn hw (pe_bm PySem.F.plainAttrs_list PySem.F.slot_list_append PySem.F.type_list_append (mt_sem _) (okE o F h4) (pa_cons (okE a F h5) pa_nil (star_cons h6)) (base_of h3) ?_ h2 (star_cons h6) rfl)
      rw [star_cons h6]; rfl
    · cases h
  | .comp w elt tg it cd own, P, X, x, F, h => by
    have h : (match (generalizing := false) x with
      | .ListComp y [⟨t, i, ifs, z⟩] scope _ => decide (z = 0) && blkC P.N P.sc scope (ownP P.N own) && chkI it P t i && tgIn tg own && chkG (P.blk scope) tg t && chkC cd (P.blk scope) ifs && chkE elt (P.blk scope) y
      | _ => false) = true := h
    split at h
    · rename_i pos' hx
      simp only [Bool.and_eq_true, decide_eq_true_eq] at h
      obtain ⟨⟨⟨⟨⟨⟨h1, h2⟩, h3⟩, h4⟩, h5⟩, h6⟩, h7⟩ := h
      subst h1
      obtain ⟨hi, hs⟩ := okI it F h3
      have e := ownP_snd P.N own
      have q := e_comp (pos := pos') (wh := w) (w0 := w0) (H0 := H0) (tgt := tg) (own := ownP P.N own) hw F.cn.calm F.nod hi (by rw [F.nn, F.sc]; exact blkOk_by h2) (fun s H C cl fp => okG tg F.blk h5) (fun s H C cl fp => okC cd F.blk h6) (fun s H C cl fp => okE elt F.blk h7) hs (by rw [e]; exact h4)
      rw [e] at q
      exact q
    · cases h
  | .dcomp _ _ _ _ _ _, P, X, x, F, h => by cases h
theorem okEs : ∀ (es : Exs) {P : Pm} {X : Cx} {xs : List Expr}, Fit P T X → chkEs es P xs = true → PA X xs (tA X.K w0 H0 (evEs T es))
  | .nil, P, X, xs, F, h => by
    cases xs with
    | nil => exact a_nil
    | cons _ _ => cases h
  | .cons a es, P, X, xs, F, h => by
    cases xs with
    | nil => cases h
    | cons y ys =>
      have h : (noStar y && chkE a P y && chkEs es P ys) = true := h
      simp only [Bool.and_eq_true] at h
      exact a_cons (okE a F h.1.2) (okEs es F h.2) (star_cons h.1.1)
theorem okA : ∀ (es : Exs) {P : Pm} {X : Cx} {xs : List Expr} {pos : Pos}, Fit P T X → chkB es P xs = true → PE X (.BoolOp .And xs pos) (tE X.K w0 H0 (evA T es))
  | .nil, P, X, xs, pos, F, h => by cases h
  | .cons a .nil, P, X, xs, pos, F, h => by
    match xs, h with
    | [], h => cases h
    | [y], h =>
      have h : (chkE a P y && true) = true := h
      rw [Bool.and_true] at h
      exact pe_one (okE a F h)
    | y :: z :: ys, h =>
      have h : (chkE a P y && false) = true := h
      rw [Bool.and_false] at h
      cases h
  | .cons a (.cons b bs), P, X, xs, pos, F, h => by
    match xs, h with
    | [], h => cases h
    | [y], h =>
      have h : (chkE a P y && false) = true := h
      rw [Bool.and_false] at h
      cases h
    | y :: z :: ys, h =>
      have h : (chkE a P y && chkB (.cons b bs) P (z :: ys)) = true := h
      simp only [Bool.and_eq_true] at h
      exact e_and (okE a F h.1) (okA (.cons b bs) F h.2)
theorem okO : ∀ (es : Exs) {P : Pm} {X : Cx} {xs : List Expr} {pos : Pos}, Fit P T X → chkB es P xs = true → PE X (.BoolOp .Or xs pos) (tE X.K w0 H0 (evO T es))
  | .nil, P, X, xs, pos, F, h => by cases h
  | .cons a .nil, P, X, xs, pos, F, h => by
    match xs, h with
    | [], h => cases h
    | [y], h =>
      have h : (chkE a P y && true) = true := h
      rw [Bool.and_true] at h
      exact pe_one (okE a F h)
    | y :: z :: ys, h =>
      have h : (chkE a P y && false) = true := h
      rw [Bool.and_false] at h
      cases h
  | .cons a (.cons b bs), P, X, xs, pos, F, h => by
    match xs, h with
    | [], h => cases h
    | [y], h =>
      have h : (chkE a P y && false) = true := h
      rw [Bool.and_false] at h
      cases h
    | y :: z :: ys, h =>
      have h : (chkE a P y && chkB (.cons b bs) P (z :: ys)) = true := h
      simp only [Bool.and_eq_true] at h
      exact e_or (okE a F h.1) (okO (.cons b bs) F h.2)
theorem okP : ∀ (o : Xo) {P : Pm} {X : Cx} {x : Option Expr}, Fit P T X → chkP o P x = true → PO X x (tO X.K w0 H0 (evP T o))
  | .none, P, X, x, F, h => by
    cases x with
    | none => exact o_none
    | some _ => cases h
  | .some a, P, X, x, F, h => by
    cases x with
    | none => cases h
    | some y => exact o_some (okE a F h)
theorem okT : ∀ (c : Ct) {P : Pm} {X : Cx} {x : Expr}, Fit P T X → chkT c P x = true → PT X x (tT X.K w0 H0 (evT T c))
  | .v a, P, X, x, F, h => by
    have h : (chkE a P x && (match (generalizing := false) x with
      | .UnaryOp .Not _ _ => false
      | .BoolOp .. => false
      | .IfExp .. => false
      | _ => true)) = true := h
    rw [Bool.and_eq_true] at h
    obtain ⟨h1, h2⟩ := h
    have q := okE a F h1
    by_cases hc : ∃ y os cs p, x = .Compare y os cs p
    · obtain ⟨y, os, cs, p, e⟩ := hc
      subst e
      cases a with
      | cmp o a b =>
        have hh : (match (Expr.Compare y os cs p) with
          | .Compare y [p] [z] _ => decide (p = o) && chkE a P y && chkE b P z && !(behindInMarks o z)
          | _ => false) = true := h1
        split at hh
        · rename_i e
          cases e
          simp only [Bool.and_eq_true, decide_eq_true_eq, Bool.not_eq_true'] at hh
          obtain ⟨⟨⟨h1, h2⟩, h3⟩, h4⟩ := hh
          subst h1
          exact t_cmp F.cn (okE a F h2) (okE b F h3) h4
        · cases hh
      | chn o1 o2 a b c =>
        have hh : (match (Expr.Compare y os cs p) with
          | .Compare y [p, q] [z, u] _ => decide (p = o1) && decide (q = o2) && chkE a P y && chkE b P z && chkE c P u && !(lastMarks [o1, o2] [z, u])
          | _ => false) = true := h1
        split at hh
        · rename_i e
          cases e
          simp only [Bool.and_eq_true, decide_eq_true_eq, Bool.not_eq_true'] at hh
          obtain ⟨⟨⟨⟨⟨h1, h2⟩, h3⟩, h4⟩, h5⟩, h6⟩ := hh
          subst h1 h2
          exact t_chn F.cn (okE a F h3) (okE b F h4) (okE c F h5) h6
        · cases hh
      | _ => cases h1
    · exact t_val q (true_of h2 fun y os cs p e => hc ⟨y, os, cs, p, e⟩)
  | .not a, P, X, x, F, h => by
    have h : (match (generalizing := false) x with
      | .UnaryOp .Not y _ => chkT a P y
      | _ => false) = true := h
    split at h
    · exact t_not (okT a F h)
    · cases h
  | .and cs, P, X, x, F, h => by
    have h : (match (generalizing := false) x with
      | .BoolOp .And ys _ => chkTs cs P ys
      | _ => false) = true := h
    split at h
    · exact (okTA cs F h).pt
    · cases h
  | .or cs, P, X, x, F, h => by
    have h : (match (generalizing := false) x with
      | .BoolOp .Or ys _ => chkTs cs P ys
      | _ => false) = true := h
    split at h
    · exact (okTO cs F h).pt
    · cases h
  | .ife _ _ _, P, X, x, F, h => by cases h
theorem okTA : ∀ (cs : Cts) {P : Pm} {X : Cx} {xs : List Expr} {pos : Pos}, Fit P T X → chkTs cs P xs = true → PW X (.BoolOp .And xs pos) (tT X.K w0 H0 (evTA T cs))
  | .nil, P, X, xs, pos, F, h => by cases h
  | .cons a .nil, P, X, xs, pos, F, h => by
    match xs, h with
    | [], h => cases h
    | [y], h =>
      have h : (chkT a P y && true) = true := h
      rw [Bool.and_true] at h
      exact w_and1 (okT a F h)
    | y :: z :: ys, h =>
      have h : (chkT a P y && false) = true := h
      rw [Bool.and_false] at h
      cases h
  | .cons a (.cons b bs), P, X, xs, pos, F, h => by
    match xs, h with
    | [], h => cases h
    | [y], h =>
      have h : (chkT a P y && false) = true := h
      rw [Bool.and_false] at h
      cases h
    | y :: z :: ys, h =>
      have h : (chkT a P y && chkTs (.cons b bs) P (z :: ys)) = true := h
      simp only [Bool.and_eq_true] at h
      exact w_and (okT a F h.1) (okTA (.cons b bs) F h.2)
theorem okTO : ∀ (cs : Cts) {P : Pm} {X : Cx} {xs : List Expr} {pos : Pos}, Fit P T X → chkTs cs P xs = true → PW X (.BoolOp .Or xs pos) (tT X.K w0 H0 (evTO T cs))
  | .nil, P, X, xs, pos, F, h => by cases h
  | .cons a .nil, P, X, xs, pos, F, h => by
    match xs, h with
    | [], h => cases h
    | [y], h =>
      have h : (chkT a P y && true) = true := h
      rw [Bool.and_true] at h
      exact w_or1 (okT a F h)
    | y :: z :: ys, h =>
      have h : (chkT a P y && false) = true := h
      rw [Bool.and_false] at h
      cases h
  | .cons a (.cons b bs), P, X, xs, pos, F, h => by
    match xs, h with
    | [], h => cases h
    | [y], h =>
      have h : (chkT a P y && false) = true := h
      rw [Bool.and_false] at h
      cases h
    | y :: z :: ys, h =>
      have h : (chkT a P y && chkTs (.cons b bs) P (z :: ys)) = true := h
      simp only [Bool.and_eq_true] at h
      exact w_or (okT a F h.1) (okTO (.cons b bs) F h.2)
theorem okC : ∀ (c : Co) {P : Pm} {X : Cx} {xs : List Expr}, Fit P T X → chkC c P xs = true → PTs X xs (tT X.K w0 H0 (evC T c))
  | .none, P, X, xs, F, h => by
    cases xs with
    | nil => exact c_none
    | cons _ _ => cases h
  | .some c, P, X, xs, F, h => by
    match xs, h with
    | [], h => cases h
    | [y], h => exact pts_one (okT c F h)
    | _ :: _ :: _, h => cases h
theorem okI : ∀ (it : Ix) {P : Pm} {X : Cx} {t x : Expr}, Fit P T X → chkI it P t x = true → PI X t x (tI X.K w0 H0 (evI T it)) ∧ ∀ u, foldedSetIterable x X.env u = pure u
  | .seq a, P, X, t, x, F, h => by
    have h : (chkE a P x && noSet x) = true := h
    rw [Bool.and_eq_true] at h
    exact ⟨i_seq hw (okE a F h.1), set_of h.2⟩
  | .rng1 a, P, X, t, x, F, h => by
    have h : (match (generalizing := false) x with
      | .Call (.Name y _) [z] [] _ => bltB P y "range" && chkE a P z && noStar z
      | _ => false) = true := h
    split at h
    · simp only [Bool.and_eq_true] at h
      obtain ⟨e, hg⟩ := blt_of h.1.1
      subst e
      exact ⟨i_rng1 (pi_range1 (F.gl hg) (F.bl _ (by decide)) (pa_cons (okE a F h.1.2) pa_nil (star_cons h.2)) (star_one h.2)), fun _ => rfl⟩
    · cases h
  | .rng2 a b, P, X, t, x, F, h => by
    have h : (match (generalizing := false) x with
      | .Call (.Name y _) [z, u] [] _ => bltB P y "range" && chkE a P z && chkE b P u && noStar z && noStar u
      | _ => false) = true := h
    split at h
    · simp only [Bool.and_eq_true] at h
      obtain ⟨⟨⟨⟨h1, h2⟩, h3⟩, h4⟩, h5⟩ := h
      obtain ⟨e, hg⟩ := blt_of h1
      subst e
      exact ⟨i_rng2 (pi_range2 (F.gl hg) (F.bl _ (by decide)) (pa_cons (okE a F h2) (pa_cons (okE b F h3) pa_nil (star_cons h5)) (star_cons h4)) (by rw [star_cons h4, star_one h5]) (star_one h5)), fun _ => rfl⟩
    · cases h
  | .enum a, P, X, t, x, F, h => by
    have h : (match (generalizing := false) t, x with
      | .Tuple .., .Call (.Name y _) [z] [] _ => bltB P y "enumerate" && chkE a P z && noStar z
      | _, _ => false) = true := h
    split at h
    · simp only [Bool.and_eq_true] at h
      obtain ⟨e, hg⟩ := blt_of h.1.1
      subst e
      exact ⟨i_enum hw (F.gl hg) (F.bl _ (by decide)) (okE a F h.1.2) (star_one h.2) (star_cons h.2), fun _ => rfl⟩
    · cases h
  | .zip st a b, P, X, t, x, F, h => by
    have h : (match (generalizing := false) t, x with
      | .Tuple .., .Call (.Name y _) [z, u] [] _ => !st && bltB P y "zip" && chkE a P z && chkE b P u && noStar z && noStar u
      | _, _ => false) = true := h
    split at h
    · simp only [Bool.and_eq_true, Bool.not_eq_true'] at h
      obtain ⟨⟨⟨⟨⟨h0, h1⟩, h2⟩, h3⟩, h4⟩, h5⟩ := h
      obtain ⟨e, hg⟩ := blt_of h1
      subst e h0
      exact ⟨i_zip hw (F.gl hg) (F.bl _ (by decide)) (okE a F h2) (okE b F h3) (star_cons h4) (star_cons h5) (any_star (by simp [h5])), fun _ => rfl⟩
    · cases h
end
end
end Ev

namespace Ev
open PySem PySem.Spec PyProof.Rows L2
theorem not_star_any {vs : List Expr} (h : vs.all noStar = true) : (vs.any fun | .Starred .. => true | _ => false) = false := by
  rw [List.any_eq_false]
  intro x hx
  have := List.all_eq_true.mp h x hx
  cases x <;> first | exact Bool.false_ne_true | exact absurd this Bool.false_ne_true
theorem not_star {u : Expr} (h : noStar u = true) {b : Prop} (hb : (match (generalizing := false) u with | .Starred .. => true | _ => false) = true) : b := by
  cases u <;> first | exact absurd hb Bool.false_ne_true | exact absurd h Bool.false_ne_true
theorem par2_sw {env : Env} {y z : Str} {yp zp p p2 : Pos} {k k2 : Nat} {u v : Expr} (hb : env.blockKind = .function) (hy : env.kindOf y = some .local) (hz : env.kindOf z = some .local) (ne : (z == y) = false) (hl : yp.line = zp.line) (hc : notConst [u, v] = true) (hu : noStar u = true) (hv : noStar v = true) :
    swappedStores [.Tuple [.Name y yp, .Name z zp] k p] (.Tuple [u, v] k2 p2) env = pure (some [y, z]) := by
  unfold notConst at hc
  simp only [Bool.and_eq_true, Bool.not_eq_true'] at hc
  unfold swappedStores
  simp only [hc.1, hc.2, hb]
  simp [List.filterMap, hy, hz, hl, Expr.pos, List.eraseDups, List.eraseDupsBy, List.eraseDupsBy.loop, ne]
  intro h
  rcases h with h | h
  · exact not_star hu h
  · exact not_star hv h
theorem par3_sw {env : Env} {y z t : Str} {yp zp tp p p2 : Pos} {k k2 : Nat} {u v w : Expr} (hb : env.blockKind = .function) (hy : env.kindOf y = some .local) (hz : env.kindOf z = some .local) (ht : env.kindOf t = some .local) (ne : (z == y) = false) (ne2 : (t == y) = false) (ne3 : (t == z) = false) (hl : yp.line = zp.line) (hl2 : yp.line = tp.line)
    (hc : notConst [u, v, w] = true) (hu : noStar u = true) (hv : noStar v = true) (hw : noStar w = true) :
    swappedStores [.Tuple [.Name y yp, .Name z zp, .Name t tp] k p] (.Tuple [u, v, w] k2 p2) env = pure (some [y, z, t]) := by
  unfold notConst at hc
  simp only [Bool.and_eq_true, Bool.not_eq_true'] at hc
  unfold swappedStores
  simp only [hc.1, hc.2, hb]
  simp [List.filterMap, hy, hz, ht, ← hl, ← hl2, Expr.pos, List.eraseDups, List.eraseDupsBy, List.eraseDupsBy.loop, ne, ne2, ne3]
  intro h
  rcases h with h | h | h
  · exact not_star hu h
  · exact not_star hv h
  · exact not_star hw h
theorem nest_sw {env : Env} {y : Str} {yp tp p : Pos} {k kt : Nat} {ts : List Expr} {v : Expr} : swappedStores [.Tuple [.Name y yp, .Tuple ts kt tp] k p] v env = pure none := by
  unfold swappedStores
  cases v with
  | Tuple vs k2 p2 =>
    simp only []
    split
    · rfl
    · split
      · rfl
      · rw [if_pos]
        cases h : (env.kindOf y == some .local) <;> simp [List.filterMap, h, Expr.pos]
  | _ => rfl
theorem fold_sw {env : Env} {ts vs : List Expr} {k k2 : Nat} {p p2 : Pos} (hf : folded vs = true) : swappedStores [.Tuple ts k p] (.Tuple vs k2 p2) env = pure none := by
  unfold folded at hf
  unfold swappedStores
  simp only [hf]
  split
  · rfl
  · split
    · rfl
    · split
      · rfl
      · rfl
theorem other_sw {env : Env} {ts : List Expr} {k : Nat} {p : Pos} {v : Expr} (h : ∀ vs k2 p2, v ≠ .Tuple vs k2 p2) : swappedStores [.Tuple ts k p] v env = pure none := by
  unfold swappedStores
  cases v with
  | Tuple vs k2 p2 => exact absurd rfl (h vs k2 p2)
  | _ => rfl
theorem kind_fun {P : Pm} {T : Tx} {X : Cx} (F : Fit P T X) (h : isFun P = true) : X.env.scope.kind = .function := by
  rw [F.sc]
  unfold isFun at h
  split at h
  · assumption
  · cases h
theorem blk_fun {env : Env} (h : env.scope.kind = .function) : env.blockKind = .function := by
  unfold Env.blockKind
  rw [h]; rfl
theorem sw_name {P : Pm} {T : Tx} {X : Cx} (F : Fit P T X) (hk : isFun P = true) {y : Str} {p : Pos} {v : Expr} {l : Nat} (h1 : ∀ e g s q, v ≠ .SetComp e g s q) (h2 : ∀ k e g s q, v ≠ .DictComp k e g s q) (h : compSw P y p v = false) : swapsWith v (some (.Name y p)) l X.env = pure false := by
  have hf := kind_fun F hk
  cases v with
  | ListComp e g s vp =>
    have h : ((match P.sc.kind with
      | .function => true
      | _ => false) && decide (P.sc.names.lookup y = some .local) && (p.line == vp.line) && !(s.names.any fun z => z.1 == y && (z.2 == .local || z.2 == .cell))) = false := h
    have e1 : (match P.sc.kind with
      | .function => true
      | _ => false) = true := hk
    rw [e1, Bool.true_and] at h
    show (pure (X.env.blockKind == .function && X.env.kindOf y == some .local && p.line == vp.line && !(s.names.any fun z => z.1 == y && (z.2 == .local || z.2 == .cell))) : Sem Bool) = pure false
    congr 1
    rw [blk_fun hf]
    have e2 : (X.env.kindOf y == some .local) = decide (P.sc.names.lookup y = some .local) := by
      unfold Env.kindOf
      rw [F.sc, Bool.eq_iff_iff]
      simp
    rw [e2]
    exact h
  | SetComp e g s q => exact absurd rfl (h1 e g s q)
  | DictComp k e g s q => exact absurd rfl (h2 k e g s q)
  | _ => rfl
theorem sw_none {v : Expr} {l : Nat} {env : Env} (h : noComp v = true) : swapsWith v none l env = pure false := by
  cases v <;> first | rfl | exact absurd h Bool.false_ne_true
theorem sw_other {v t : Expr} {l : Nat} {env : Env} (h : ∀ y p, t ≠ .Name y p) : swapsWith v (some t) l env = pure false := by
  cases t with
  | Name y p => exact absurd rfl (h y p)
  | _ => cases v <;> rfl
theorem chkE_comp {a : Ex} {P : Pm} {e : Expr} {g : List Comprehension} {s : Scope} {q : Pos} (h : chkE a P (.ListComp e g s q) = true) : ∃ w elt tg it cd own, a = .comp w elt tg it cd own := by
  cases a with
  | comp w elt tg it cd own => exact ⟨w, elt, tg, it, cd, own, rfl⟩
  | _ => cases h
theorem chkE_set {a : Ex} {P : Pm} {e : Expr} {g : List Comprehension} {s : Scope} {q : Pos} : chkE a P (.SetComp e g s q) = false := by
  cases a <;> rfl
theorem chkE_dict {a : Ex} {P : Pm} {k e : Expr} {g : List Comprehension} {s : Scope} {q : Pos} : chkE a P (.DictComp k e g s q) = false := by
  cases a <;> rfl
theorem slice_asg {o i : Expr} {pos : Pos} {env : Env} (h : noSlice i = true) : ∀ v, assign (.Subscript o i pos) env v = (do
      let ov ← holding [v] (eval o env)
      let iv ← holding [v, ov] (eval i env)
      standAt pos
      holding [v, ov, iv] (setItem ov iv v)
      release [v, ov, iv] []) := by
  intro v
  cases i <;> first | rfl | exact absurd h Bool.false_ne_true
theorem slice_aug {i : Expr} (h : noSlice i = true) : ∀ ov iv new, augStore i ov iv new = (do holding [new, ov, iv] (setItem ov iv new); release [new, ov, iv] []; pure .next) := by
  intro ov iv new
  cases i <;> first | rfl | exact absurd h Bool.false_ne_true
section
variable {T : Tx} {w0 : Wd} {H0 : Hp} (hw : w0.nu = [])
include hw
theorem set_ok2 {i : Nat} {a : Ex} {P : Pm} {X : Cx} {y : Str} {p pos : Pos} {v : Expr} (F : Fit P T X) (hk : isFun P = true) (hi : P.N[i]? = some y) (hl : locB P.sc y = true) (hf : P.fnB y = true ∨ P.sc.names.lookup y = some .local) (h : chkE a P v = true) :
    PS X (.Assign [.Name y p] v pos) (tS X.K w0 H0 (evS T (.set i a))) := by
  have hf' : X.fn y = true ∨ X.env.scope.names.lookup y = some .local := hf.imp (F.fn y) fun z => by rw [F.sc]; exact z
  cases hc : compSw P y p v with
  | false =>
    refine s_set (ps_set F.nod (F.at_ hi) (F.loc hl) (okE hw a F h) (sw_name F hk (fun e g s q z => ?_) (fun k e g s q z => ?_) hc) hf')
    · subst z; rw [chkE_set] at h; cases h
    · subst z; rw [chkE_dict] at h; cases h
  | true =>
    cases v with
    | ListComp e g s vp =>
      obtain ⟨wh, elt, tg, it, cd, own, ea⟩ := chkE_comp h
      subst ea
      have hc : ((match P.sc.kind with
        | .function => true
        | _ => false) && decide (P.sc.names.lookup y = some .local) && (p.line == vp.line) && !(s.names.any fun z => z.1 == y && (z.2 == .local || z.2 == .cell))) = true := hc
      simp only [Bool.and_eq_true, decide_eq_true_eq, Bool.not_eq_true'] at hc
      obtain ⟨⟨⟨_, c2⟩, c3⟩, c4⟩ := hc
      have hyl : X.env.scope.names.lookup y = some .local := by rw [F.sc]; exact c2
      have h : (match (Expr.ListComp e g s vp) with
        | .ListComp y [⟨t, i, ifs, z⟩] scope _ => decide (z = 0) && blkC P.N P.sc scope (ownP P.N own) && chkI it P t i && tgIn tg own && chkG (P.blk scope) tg t && chkC cd (P.blk scope) ifs && chkE elt (P.blk scope) y
        | _ => false) = true := h
      split at h
      · rename_i y' t i' ifs z sc' q' eq
        cases eq
        simp only [Bool.and_eq_true, decide_eq_true_eq] at h
        obtain ⟨⟨⟨⟨⟨⟨h1, h2⟩, h3⟩, h4⟩, h5⟩, h6⟩, h7⟩ := h
        subst h1
        obtain ⟨hi', hs⟩ := okI hw it F h3
        have e := ownP_snd P.N own
        have q := ps_setLc (g := tG X.K w0 H0 tg) (tt := tT X.K w0 H0 (evC T cd)) (te := tE X.K w0 H0 (evE T elt)) (own := ownP P.N own) (spos := pos) (py := p) F.cn.calm F.nod (F.at_ hi) hyl (sw_true (kind_fun F hk) hyl c3 c4) hi' (by rw [F.nn, F.sc]; exact blkOk_by h2) (fun s H C cl fp => okG (w0 := w0) (H0 := H0) tg F.blk h5) (fun s H C cl fp => okC (w0 := w0) (H0 := H0) hw cd F.blk h6) (fun s H C cl fp => okE (w0 := w0) (H0 := H0) hw elt F.blk h7) hs
        rw [e] at q
        exact s_setL (wh := wh) hw h4 q
      · cases h
    | _ => cases hc
end
end Ev

/-! statements and defs that pass the look -/
namespace Ev
open PySem PySem.Spec PyProof.Rows L2
def noName : Expr → Bool
  | .Name .. => false
  | _ => true
theorem sole_other {v t : Expr} {l : Nat} {env : Env} (h : noName t = true) : swapsWithSole [t] v l env = pure false :=
  sw_other (t := t) fun y p e => by subst e; cases h
section
variable {T : Tx} {w0 : Wd} {H0 : Hp} (hw : w0.nu = [])
include hw
mutual
theorem okS : ∀ (a : St) {P : Pm} {X : Cx} {x : Stmt}, Fit P T X → PassesOwn (model X.prog X.w) X.A X.env X.xe → chkS a P x = true → PS X x (tS X.K w0 H0 (evS T a))
  | .ex a, P, X, x, F, hp, h => by
    have h : (match (generalizing := false) x with
      | .Expr y _ => chkE a P y && noComp y
      | _ => false) = true := h
    split at h
    · rw [Bool.and_eq_true] at h
      exact s_ex (okE hw a F h.1) (sw_none h.2)
    · cases h
  | .set i a, P, X, x, F, hp, h => by
    have h : (match (generalizing := false) x with
      | .Assign [.Name y p] v _ => isFun P && decide (P.N[i]? = some y) && locB P.sc y && (P.fnB y || decide (P.sc.names.lookup y = some .local)) && chkE a P v
      | _ => false) = true := h
    split at h
    · simp only [Bool.and_eq_true, Bool.or_eq_true, decide_eq_true_eq] at h
      obtain ⟨⟨⟨⟨h1, h2⟩, h3⟩, h4⟩, h5⟩ := h
      exact set_ok2 hw F h1 h2 h3 h4 h5
    · cases h
  | .par i j a b, P, X, x, F, hp, h => by
    have h : (match (generalizing := false) x with
      | .Assign [.Tuple [.Name y yp, .Name z zp] _ _] (.Tuple [u, v] _ _) _ => isFun P && parB P i y && parB P j z && decide (i ≠ j) && !(z == y) && (yp.line == zp.line) && notConst [u, v] && noStar u && noStar v && chkE a P u && chkE b P v
      | _ => false) = true := h
    split at h
    · simp only [Bool.and_eq_true, decide_eq_true_eq, Bool.not_eq_true', parB, beq_iff_eq (α := Nat)] at h
      obtain ⟨⟨⟨⟨⟨⟨⟨⟨⟨⟨h1, h2⟩, h3⟩, h4⟩, h5⟩, h6⟩, h7⟩, h8⟩, h9⟩, h10⟩, h11⟩ := h
      have hb := blk_fun (kind_fun F h1)
      have k1 : X.env.scope.names.lookup _ = some .local := F.sc ▸ h2.2
      have k2 : X.env.scope.names.lookup _ = some .local := F.sc ▸ h3.2
      exact s_par (ps_par F.cn.calm F.nod (F.at_ h2.1) (F.at_ h3.1) h4 k1 k2 (pa_cons (okE hw a F h10) (pa_cons (okE hw b F h11) pa_nil (star_cons h9)) (star_cons h8)) (par2_sw hb k1 k2 h5 h6 h7 h8 h9) rfl)
    · cases h
  | .par3 i j k a b c, P, X, x, F, hp, h => by
    have h : (match (generalizing := false) x with
      | .Assign [.Tuple [.Name y yp, .Name z zp, .Name t tp] _ _] (.Tuple [u, v, w] _ _) _ => isFun P && parB P i y && parB P j z && parB P k t && decide (i ≠ j) && decide (i ≠ k) && decide (j ≠ k) && !(z == y) && !(t == y) && !(t == z) && (yp.line == zp.line) && (yp.line == tp.line) &&
        notConst [u, v, w] && noStar u && noStar v && noStar w && chkE a P u && chkE b P v && chkE c P w
      | _ => false) = true := h
    split at h
    · simp only [Bool.and_eq_true, decide_eq_true_eq, Bool.not_eq_true', parB, beq_iff_eq (α := Nat)] at h
      obtain ⟨⟨⟨⟨⟨⟨⟨⟨⟨⟨⟨⟨⟨⟨⟨⟨⟨⟨h1, h2⟩, h3⟩, h4⟩, h5⟩, h6⟩, h7⟩, h8⟩, h9⟩, h10⟩, h11⟩, h12⟩, h13⟩, h14⟩, h15⟩, h16⟩, h17⟩, h18⟩, h19⟩ := h
      have hb := blk_fun (kind_fun F h1)
      have k1 : X.env.scope.names.lookup _ = some .local := F.sc ▸ h2.2
      have k2 : X.env.scope.names.lookup _ = some .local := F.sc ▸ h3.2
      have k3 : X.env.scope.names.lookup _ = some .local := F.sc ▸ h4.2
      exact s_par3 (ps_par3 F.cn.calm F.nod (F.at_ h2.1) (F.at_ h3.1) (F.at_ h4.1) h5 h6 h7 k1 k2 k3 (pa_cons (okE hw a F h17) (pa_cons (okE hw b F h18) (pa_cons (okE hw c F h19) pa_nil (star_cons h16)) (star_cons h15)) (star_cons h14)) (par3_sw hb k1 k2 k3 h8 h9 h10 h11 h12 h13 h14 h15 h16) rfl)
    · cases h
  | .asg tg a, P, X, x, F, hp, h => by
    have h : (match (generalizing := false) x with
      | .Assign [.Tuple ts k p] v _ => parNo (.Tuple ts k p) v && chkG P tg (.Tuple ts k p) && chkE a P v && isFun P
      | _ => false) = true := h
    split at h
    · rename_i ts k p v pos _
      simp only [Bool.and_eq_true] at h
      obtain ⟨⟨⟨h1, h2⟩, h3⟩, h4⟩ := h
      refine s_asg (ps_asg (okE hw a F h3) (okG tg F h2) (sole_other rfl) ?_ rfl)
      have hh : (match (generalizing := false) v with
        | .Tuple vs _ _ => (match (generalizing := false) (Expr.Tuple ts k p) with
          | .Tuple [.Name _ _, .Tuple _ _ _] _ _ => true
          | .Tuple [.Name _ _, .Name _ _] _ _ => folded vs && vs.all noStar
          | _ => false)
        | _ => true) = true := h1
      split at hh
      · split at hh
        · rename_i e
          cases e
          exact nest_sw
        · rename_i e
          cases e
          rw [Bool.and_eq_true] at hh
          exact fold_sw hh.1
        · cases hh
      · rename_i hn
        exact other_sw fun vs k2 p2 e => hn vs k2 p2 e
    · cases h
  | .sub o i a, P, X, x, F, hp, h => by
    have h : (match (generalizing := false) x with
      | .Assign [.Subscript y z _] v _ => chkE o P y && chkE i P z && chkE a P v && noSlice z
      | _ => false) = true := h
    split at h
    · simp only [Bool.and_eq_true] at h
      obtain ⟨⟨⟨h1, h2⟩, h3⟩, h4⟩ := h
      exact s_sub F.cn hw (ps_asg (okE hw a F h3) (pg_sub (okE hw o F h1) (okE hw i F h2) set_sem (slice_asg h4)) (sole_other rfl) rfl rfl)
    · cases h
  | .augs c i o a, P, X, x, F, hp, h => by
    have h : (match (generalizing := false) x with
      | .AugAssign (.Subscript y z _) q v _ => decide (q = o) && (match (generalizing := false) o with
        | .Add => true
        | .Sub => true
        | _ => false) && chkE c P y && chkE i P z && chkE a P v && noSlice z
      | _ => false) = true := h
    split at h
    · simp only [Bool.and_eq_true, decide_eq_true_eq] at h
      obtain ⟨⟨⟨⟨⟨h1, h2⟩, h3⟩, h4⟩, h5⟩, h6⟩ := h
      subst h1
      split at h2
      · exact s_augs (fun i j => rfl) F.cn hw (ps_augS (okE hw c F h3) (okE hw i F h4) get_sem (okE hw a F h5) ip_add set_sem (slice_aug h6))
      · exact s_augs (fun i j => rfl) F.cn hw (ps_augS (okE hw c F h3) (okE hw i F h4) get_sem (okE hw a F h5) ip_sub set_sem (slice_aug h6))
      · cases h2
    · cases h
  | .iff c a b, P, X, x, F, hp, h => by
    have h : (match (generalizing := false) x with
      | .If t y z _ => chkT c P t && chkSs a P y && chkSs b P z
      | _ => false) = true := h
    split at h
    · simp only [Bool.and_eq_true] at h
      exact s_if (okT hw c F h.1.1) (okSs a F hp h.1.2) (okSs b F hp h.2)
    · cases h
  | .forr tg it body, P, X, x, F, hp, h => by
    have h : (match (generalizing := false) x with
      | .For t i y [] _ => chkI it P t i && chkG P tg t && chkSs body P y
      | _ => false) = true := h
    split at h
    · simp only [Bool.and_eq_true] at h
      obtain ⟨hi, hs⟩ := okI hw it F h.1.1
      exact s_for hp F.cn.calm hi (okG tg F h.1.2) (okSs body F hp h.2) hs
    · cases h
  | .whl n c body, P, X, x, F, hp, h => by
    have h : (match (generalizing := false) x with
      | .While t y [] _ => chkT c P t && chkSs body P y
      | _ => false) = true := h
    split at h
    · simp only [Bool.and_eq_true] at h
      exact s_whl hp (okT hw c F h.1) (okSs body F hp h.2)
    · cases h
  | .ret a, P, X, x, F, hp, h => by
    have h : (match (generalizing := false) x with
      | .Return (some y) _ => chkE a P y
      | _ => false) = true := h
    split at h
    · exact s_ret hw (okE hw a F h)
    · cases h
  | .ret0, P, X, x, F, hp, h => by
    have h : (match (generalizing := false) x with
      | .Return none _ => true
      | _ => false) = true := h
    split at h
    · exact s_ret0
    · cases h
  | .rse, P, X, x, F, hp, h => ps_imp ps_never fun D σ H q => by
    obtain ⟨w, e, s, fl, e1, s1, R, ev, k⟩ := q
    cases (show (none : Out) = some (fl, e1, s1) from ev)
  | .pass, P, X, x, F, hp, h => by
    have h : (match (generalizing := false) x with
      | .Pass _ => true
      | _ => false) = true := h
    split at h
    · exact s_pass
    · cases h
theorem okSs : ∀ (as : Sts) {P : Pm} {X : Cx} {xs : List Stmt}, Fit P T X → PassesOwn (model X.prog X.w) X.A X.env X.xe → chkSs as P xs = true → PSs X xs (tS X.K w0 H0 (evSs T as))
  | .nil, P, X, xs, F, hp, h => by
    cases xs with
    | nil => exact s_nil
    | cons _ _ => cases h
  | .cons a as, P, X, xs, F, hp, h => by
    cases xs with
    | nil => cases h
    | cons y ys =>
      have h : (chkS a P y && chkSs as P ys) = true := h
      rw [Bool.and_eq_true] at h
      exact s_cons (okS a F hp h.1) (okSs as F hp h.2)
end
end
/-! ### defs -/
theorem start_env {K : PySem.W.Frag} {w : Wd} : ∀ {vs : List Val} {xs : List V} {m : Nat}, All2 (Rv K w) vs xs → All2 (fun (o : Option Val) (p : Option V) => ∀ v, o = some v → ∃ x, p = some x ∧ Rv K w v x) (vs.map some ++ List.replicate m none) (xs.map some ++ List.replicate m none)
  | [], _, 0, .nil => .nil
  | [], _, m + 1, .nil => by
    rw [List.replicate_succ, List.replicate_succ]
    exact .cons (fun v h => by cases h) (start_env (m := m) .nil)
  | v :: vs, x :: xs, m, .cons r rs => .cons (fun u h => by cases h; exact ⟨x, rfl, r⟩) (start_env rs)
theorem endD_inv {o : Out} {r : Val} {G : List SO} (h : endD o = some (r, G)) : ∃ fl e s, o = some (fl, e, s) ∧ noG s.G = true ∧ G = s.G ∧ ((fl = .rt r ∧ noV [r] = true) ∨ (fl = .nx ∧ r = .d .none)) := by
  unfold endD at h
  split at h
  · rename_i v e s
    split at h
    · rename_i hg
      cases h
      rw [Bool.and_eq_true] at hg
      exact ⟨_, e, s, rfl, hg.1, rfl, .inl ⟨rfl, hg.2⟩⟩
    · cases h
  · rename_i e s
    split at h
    · rename_i hg
      cases h
      exact ⟨_, e, s, rfl, hg, rfl, .inr ⟨rfl, rfl⟩⟩
    · cases h
  · cases h
/-- a def keeps its promise, those that it calls theirs -/
theorem fn_run {Pg : Program} {W : World} {K : PySem.W.Frag} {mg : Str → Option Value} {base : Heap} {x : Str} {pr : Arguments} {bd : List Stmt} {sc : Scope} {f : Addr} {fd : FuncData} {P : Pm} {ps : List Str} {k : Nat} {T : Tx} {d : Df}
    (F : FunD K x x pr bd sc [] [] f fd) (gx : mg x = some (.ref f)) (b : Binds K fd ps []) (S : FnScope P.N ps sc) (hps : ps.length = d.ar) (hN : P.N.length = d.sl) (hsc : P.sc = sc)
    (hbl : ∀ x ∈ blNames, mg (Str.ofString x) = none) (hcs : ∀ k x, P.cn[k]? = some x → ∃ u v, mg x = some u ∧ RelV v u ∧ ∀ d, T.cs k = some d → ∀ F, Rp K F d v)
    (hfs : ∀ f x n, P.fs[f]? = some (x, n) → C8.Cal Pg W K mg base k x (spE K (T.fn f) n) [])
    (hc : chkSs d.body P bd = true) : FnOk Pg W K mg base C8.CX0 (k + 1) f fd ps (spE K (runD T d) d.ar) := by
  refine F.ok S (fun vs H Q E q => q.1.trans hps.symm) fun cdv A outer s H xs Q E r q => ?_
  obtain ⟨hl, w, vs, G, rr, G', hn, R, rv, hr, kk⟩ := q
  generalize hX : (cxOf C8.CX0 Pg W K mg base P.N x sc f cdv A outer s H E).nox = X
  have Ft : Fit P T X := by
    subst hX
    exact ⟨⟨rfl, by
        have := r.un
        show (A.deeper _).units + 200 < cLine
        omega⟩, rfl, S.nd, hsc.symm, fun _ _ => rfl, hbl, hcs, fun f x n h => ⟨k, k, hfs f x n h, r, Nat.le_refl _⟩⟩
  have hp : PassesOwn (model X.prog X.w) X.A X.env X.xe := by
    subst hX
    exact PassesOwn.never
  have eK : X.K = K := by subst hX; rfl
  have run := okSs (w0 := w) (H0 := H) hn d.body Ft hp hc
  rw [eK] at run
  refine ⟨_, PSs.nox (hX ▸ run), ?_⟩
  have hv : vs.length = d.ar := rv.len.trans hl
  have hr : endD (evSs T d.body (startL d.ar d.sl vs) ⟨[], G⟩) = some (rr, G') := by
    have z : (if vs.length = d.ar then endD (evSs T d.body (startL d.ar d.sl vs) ⟨[], G⟩) else none) = some (rr, G') := hr
    rw [if_pos hv] at z
    exact z
  obtain ⟨fl, e1, s1, hev, hg, eG, hfl⟩ := endD_inv hr
  have env0 : All2 (fun (o : Option Val) (p : Option V) => ∀ v, o = some v → ∃ x, p = some x ∧ Rv K w v x) (startL d.ar d.sl vs) (L2.start P.N xs) := by
    have q := start_env (m := d.sl - d.ar) rv
    have e1 : L2.start P.N xs = xs.map some ++ List.replicate (d.sl - d.ar) none := by
      unfold L2.start
      rw [hN, ← hl]
    rw [e1]
    exact q
  have R0 : Rl K w H w (startL d.ar d.sl vs) ⟨[], G⟩ (L2.start P.N xs) H := R.reenv env0
  refine ⟨w, _, _, fl, e1, s1, R0, hev, fun w1 σ1 H1 R1 l1 => ?_⟩
  have L1 : Le w H { w1 with nu := [] } H1 := ⟨l1.f, l1.fn, l1.mu, ⟨[], by simp [hn], by simp⟩, l1.same, l1.trk⟩
  have R2 : Rl K w H { w1 with nu := [] } [] ⟨[], G'⟩ [] H1 := ⟨L1, R1.fh, by
    show (w1.mu ++ []).Nodup
    rw [List.append_nil]
    exact (List.nodup_append.mp R1.nd).1, fun a ha => R1.tr a (List.mem_append_left _ (by simpa using ha)), by rw [eG]; exact noG_ok hg R1.G, .nil, .nil⟩
  rcases hfl with ⟨e2, hv2⟩ | ⟨e2, e3⟩
  · subst e2
    intro z rz
    refine kk _ z H1 rfl R2 L1 ?_
    have := noV_ok (vs := [rr]) (xs := [z]) hv2 (.cons rz .nil)
    cases this with
    | cons a _ => exact a
  · subst e2 e3
    exact kk _ .non H1 rfl R2 L1 (show Rp _ _ _ _ from rp_none)
end Ev

/-! the defs of a row, by the head's facts -/
namespace Ev
open PySem PySem.Spec PyProof.Rows L2
/-- a def of the row: its statement, its parameters, its slots, its text here -/
structure Dr where
  st : Stmt
  name : Str
  ps : List Str
  N : List Str
  df : Df
def Dr.dd (d : Dr) : He.DefD := ⟨(d.name, none), d.name, d.name, defArgs d.st, defBody d.st, defScope d.st, [], []⟩
def Dr.pm (cn : List Str) (fs : List (Str × Nat)) (d : Dr) : Pm := ⟨d.N, defScope d.st, fun _ => true, cn, fs⟩
def Dr.ok (cn : List Str) (fs : List (Str × Nat)) (d : Dr) : Bool := chkSs d.df.body (d.pm cn fs) (defBody d.st) && C8.scC d.N d.ps (defScope d.st) && decide (d.ps.length = d.df.ar) && decide (d.N.length = d.df.sl)
def Dr.Bind (d : Dr) : Prop := ∀ (kV doc pm : Value) (an : Option Addr) (cdv ct : Value) (us : List Value), us.length = d.ps.length → bindArgs (PySem.W.fnOf d.name d.name (defArgs d.st) (defBody d.st) (defScope d.st) .none kV doc pm an cdv ct) ⟨us, []⟩ = pure (d.ps.zip us)
def cFa : Str × PyData → He.Fa
  | (x, .int i) => .int x i
  | (x, .str z) => .str x z
  | (x, _) => .free x
def cOk : PyData → Bool
  | .int _ => true
  | .str _ => true
  | _ => false
def factsOf (drs : List Dr) (cns : List (Str × PyData)) : List He.Fa := drs.map (fun d => .glo d.name) ++ (blNames.map (fun n => .free (Str.ofString n)) ++ cns.map cFa)
def fsOf (drs : List Dr) : List (Str × Nat) := drs.map fun d => (d.name, d.df.ar)
def csOf (cns : List (Str × PyData)) (k : Nat) : Option PyData := cns[k]?.map (·.2)
def phiOf (drs : List Dr) (cns : List (Str × PyData)) (n : Nat) : FT := phi (csOf cns) (drs.map fun d : Dr => d.df) n
theorem fact_mem {fa : List He.Fa} {fn : List He.DefD} {K : PySem.W.Frag} (c : He.SaysD fa fn K) {f : He.Fa} (h : f ∈ fa) : f.ok K = true := by
  obtain ⟨i, hi⟩ := List.getElem?_of_mem h
  exact c.fact i hi
section
variable {drs : List Dr} {cns : List (Str × PyData)} {K : PySem.W.Frag} {h base : Heap} {mg : Str → Option Value} {Pg : Program} {W : World}
theorem glo_of (X : K.In h) (G : h.Ns mainGlobals mg) (c : He.SaysD (factsOf drs cns) (drs.map Dr.dd) K) {d : Dr} (hd : d ∈ drs) : mg d.name = some (.ref (He.ga K d.name)) :=
  He.glo_ok X G (fact_mem c (List.mem_append_left _ (List.mem_map.mpr ⟨d, hd, rfl⟩)))
theorem fun_of (c : He.SaysD (factsOf drs cns) (drs.map Dr.dd) K) {i : Nat} {d : Dr} (hd : drs[i]? = some d) : ∃ fd, FunD K d.name d.name (defArgs d.st) (defBody d.st) (defScope d.st) [] [] (He.ga K d.name) fd :=
  c.def_ i (d := d.dd) (by rw [List.getElem?_map, hd]; rfl)
theorem fs_at {i : Nat} {x : Str} {n : Nat} (h : (fsOf drs)[i]? = some (x, n)) : ∃ d, drs[i]? = some d ∧ d.name = x ∧ d.df.ar = n := by
  unfold fsOf at h
  rw [List.getElem?_map] at h
  obtain ⟨d, h1, h2⟩ := Option.map_eq_some_iff.mp h
  cases h2
  exact ⟨d, h1, rfl, rfl⟩
theorem phi_succ {n i : Nat} {d : Dr} (hd : drs[i]? = some d) : phiOf drs cns (n + 1) i = runD ⟨csOf cns, phiOf drs cns n⟩ d.df := by
  funext vs g
  show (match (drs.map fun d : Dr => d.df)[i]? with
    | some d => runD ⟨csOf cns, phi (csOf cns) (drs.map fun d : Dr => d.df) n⟩ d vs g
    | none => none) = _
  rw [List.getElem?_map, hd]
  rfl
theorem fn_at (X : K.In h) (G : h.Ns mainGlobals mg) (c : He.SaysD (factsOf drs cns) (drs.map Dr.dd) K) (hok : drs.all (Dr.ok (cns.map (·.1)) (fsOf drs)) = true) (hcn : cns.all (fun q => cOk q.2) = true) (hb : ∀ d ∈ drs, d.Bind)
    {n i : Nat} {d : Dr} (hd : drs[i]? = some d) {fd : FuncData} (F : FunD K d.name d.name (defArgs d.st) (defBody d.st) (defScope d.st) [] [] (He.ga K d.name) fd)
    (ih : ∀ (j : Nat) (d' : Dr), drs[j]? = some d' → C8.Cal Pg W K mg base n d'.name (spE K (phiOf drs cns n j) d'.df.ar) []) :
    FnOk Pg W K mg base C8.CX0 (n + 1) (He.ga K d.name) fd d.ps (spE K (phiOf drs cns (n + 1) i) d.df.ar) := by
  have hm := List.mem_of_getElem? hd
  have ok := List.all_eq_true.mp hok d hm
  unfold Dr.ok at ok
  simp only [Bool.and_eq_true, decide_eq_true_eq] at ok
  obtain ⟨⟨⟨k1, k2⟩, k3⟩, k4⟩ := ok
  have S : FnScope d.N d.ps (defScope d.st) := by
    obtain ⟨a1, a2, a3, a4, a5, a6, a7⟩ := C8.fnScope_by k2
    exact ⟨a1, a2, a3, a4, a5, a6, a7⟩
  rw [phi_succ hd]
  refine fn_run (P := d.pm (cns.map (·.1)) (fsOf drs)) F (glo_of X G c hm) (F.bindsN (hb d hm)) S k3 k4 rfl (fun x hx => ?_) (fun k x hx => ?_) (fun f x m hf => ?_) k1
  · exact He.free_ok X G (fact_mem c (List.mem_append_right _ (List.mem_append_left _ (List.mem_map.mpr ⟨x, hx, rfl⟩))))
  · have hx : (cns.map (·.1))[k]? = some x := hx
    rw [List.getElem?_map] at hx
    obtain ⟨q, h1, h2⟩ := Option.map_eq_some_iff.mp hx
    obtain ⟨y, dd⟩ := q
    have h2 : y = x := h2
    subst h2
    have hf := fact_mem c (f := cFa (y, dd)) (List.mem_append_right _ (List.mem_append_right _ (List.mem_map.mpr ⟨_, List.mem_of_getElem? h1, rfl⟩)))
    have ho := List.all_eq_true.mp hcn _ (List.mem_of_getElem? h1)
    have hc : csOf cns k = some dd := by unfold csOf; rw [h1]; rfl
    cases dd with
    | int i =>
      obtain ⟨t, e⟩ := He.int_ok X G (x := y) (i := i) hf
      exact ⟨_, .int i, e, ⟨t, rfl⟩, fun d hd F => by
        have hd : csOf cns k = some d := hd
        rw [hc] at hd; cases hd; exact rp_int⟩
    | str z =>
      obtain ⟨t, e⟩ := He.str_ok X G (x := y) (z := z) hf
      exact ⟨_, .str z, e, ⟨t, rfl⟩, fun d hd F => by
        have hd : csOf cns k = some d := hd
        rw [hc] at hd; cases hd; exact rp_str⟩
    | _ => cases ho
  · obtain ⟨d', h1, h2, h3⟩ := fs_at hf
    subst h2 h3
    exact ih f d' h1
theorem all_cal (X : K.In h) (G : h.Ns mainGlobals mg) (c : He.SaysD (factsOf drs cns) (drs.map Dr.dd) K) (hok : drs.all (Dr.ok (cns.map (·.1)) (fsOf drs)) = true) (hcn : cns.all (fun q => cOk q.2) = true) (hb : ∀ d ∈ drs, d.Bind) :
    ∀ (n i : Nat) (d : Dr), drs[i]? = some d → C8.Cal Pg W K mg base n d.name (spE K (phiOf drs cns n i) d.df.ar) []
  | 0, i, d, hd => by
    obtain ⟨fd, F⟩ := fun_of c hd
    have hm := List.mem_of_getElem? hd
    have ok := List.all_eq_true.mp hok d hm
    unfold Dr.ok at ok
    simp only [Bool.and_eq_true, decide_eq_true_eq] at ok
    refine ⟨_, fd, d.ps, [], ⟨fun vs H Q E q => q.1.trans ok.1.2.symm, fun A outer s H args us vs Q E _ _ _ _ q => ?_⟩, glo_of X G c hm, F.kp, F.bindsN (hb d hm), .nil⟩
    obtain ⟨_, w, vs, G', r, G'', _, _, _, z, _⟩ := q
    cases (show (none : Option (Val × List SO)) = some (r, G'') from z)
  | n + 1, i, d, hd => by
    obtain ⟨fd, F⟩ := fun_of c hd
    have hm := List.mem_of_getElem? hd
    exact ⟨_, fd, d.ps, [], fn_at X G c hok hcn hb hd F (all_cal X G c hok hcn hb n), glo_of X G c hm, F.kp, F.bindsN (hb d hm), .nil⟩
/-- what walk_ofE asks of the law's def -/
theorem law_fn (X : K.In h) (G : h.Ns mainGlobals mg) (c : He.SaysD (factsOf drs cns) (drs.map Dr.dd) K) (hok : drs.all (Dr.ok (cns.map (·.1)) (fsOf drs)) = true) (hcn : cns.all (fun q => cOk q.2) = true) (hb : ∀ d ∈ drs, d.Bind)
    {n i m : Nat} {d : Dr} {x : Str} {fa : Addr} (hd : drs[i]? = some d) (hps : d.ps = [x]) (har : d.df.ar = 1) (hfa : mg d.name = some (.ref fa)) (law : ∀ ns : List Int, ns.length ≤ m → ∃ G, phiOf drs cns (n + 1) i [.s ns] [] = some (.d (.bool true), G)) :
    ∃ (fd : FuncData) (sp : Sp), (∀ (s : Shared) (u : Value), BindsTo s fd ⟨[u], []⟩ [(x, u)]) ∧
        (∀ (H : Hp) (a : Addr) (ns : List Int), ns.length ≤ m → SqL K H a (ns.map V.int) → sp [.ref a] H (fun v _ => v = .bl true) fun _ _ _ => False) ∧
        ∀ base : Heap, K.In base → base.Ns mainGlobals mg → FnOk Pg W K mg base CX0 (n + 1) fa fd [x] sp := by
  have hm := List.mem_of_getElem? hd
  obtain ⟨fd, F⟩ := fun_of c hd
  have e := hfa.symm.trans (glo_of X G c hm)
  have e : fa = He.ga K d.name := by cases e; rfl
  subst e
  refine ⟨fd, spE K (phiOf drs cns (n + 1) i) 1, fun s u => ?_, fun H a ns hl hS => ?_, fun base _ _ => ?_⟩
  · have q := F.bindsA (ps := d.ps) (hb d hm) s [u] (by rw [hps]; rfl)
    rw [hps] at q
    exact q
  · obtain ⟨G', hr⟩ := law ns hl
    refine ⟨rfl, ⟨H, [], []⟩, [.s ns], [], _, G', rfl, ⟨.refl, Sub.refl _, List.nodup_nil, (fun a ha => by cases ha), .nil, .nil, .nil⟩, .cons ⟨a, rfl, hS⟩ .nil, hr, fun w' z H' _ _ _ rz => ?_⟩
    exact rz
  · have q := fn_at (Pg := Pg) (W := W) (base := base) X G c hok hcn hb hd F (all_cal X G c hok hcn hb n)
    rw [hps, har] at q
    exact q
end
end Ev

/-! the evaluator, step by step -/
namespace Ev
open PySem
section
variable {α β : Type} {T : Tx} {e : Lv} {s : Sto}
@[simp] theorem bd_ap (m : M α) (f : α → M β) (s : Sto) : bd m f s = (m s).bind fun p => f p.1 p.2 := by
  unfold bd; cases m s <;> rfl
@[simp] theorem rt_ap (a : α) (s : Sto) : rt a s = some (a, s) := rfl
@[simp] theorem no_ap (s : Sto) : (no : M α) s = none := rfl
@[simp] theorem ofO_ap (o : Option α) (s : Sto) : ofO o s = o.map fun a => (a, s) := by cases o <;> rfl
@[simp] theorem stp_ap (m : M α) (f : α → Sto → Out) (s : Sto) : stp m f s = (m s).bind fun p => f p.1 p.2 := by
  unfold stp; cases m s <;> rfl
@[simp] theorem sq_nx (e : Lv) (s : Sto) (f : Lv → Sto → Out) : sq (some (.nx, e, s)) f = f e s := rfl
@[simp] theorem sq_rt (v : Val) (e : Lv) (s : Sto) (f : Lv → Sto → Out) : sq (some (.rt v, e, s)) f = some (.rt v, e, s) := rfl
@[simp] theorem sq_none (f : Lv → Sto → Out) : sq none f = none := rfl
@[simp] theorem ite_ap {c : Prop} [Decidable c] (m n : M α) (s : Sto) : (if c then m else n) s = if c then m s else n s := by
  split <;> rfl
@[simp] theorem peek_d (x : PyData) (s : Sto) : peek (.d x) s = some (x, s) := rfl
@[simp] theorem peek_g (n : Nat) (s : Sto) : peek (.g n) s = ((s.G[n]?).bind readO).map fun x => (x, s) := rfl
@[simp] theorem peek_l (n : Nat) (s : Sto) : peek (.l n) s = ((s.L[n]?).bind readO).map fun x => (x, s) := rfl
@[simp] theorem keep_d (x : PyData) (s : Sto) : keep (.d x) s = some (x, s) := rfl
@[simp] theorem keep_l (n : Nat) (s : Sto) : keep (.l n) s = ((s.L[n]?).bind readO).map fun x => (x, { s with L := s.L.set n (.frz x) }) := rfl
@[simp] theorem keepV_d (x : PyData) (s : Sto) : keepV (.d x) s = some (.d x, s) := rfl
@[simp] theorem keepV_g (n : Nat) (s : Sto) : keepV (.g n) s = some (.g n, s) := rfl
@[simp] theorem keepV_s (n : List Int) (s : Sto) : keepV (.s n) s = some (.s n, s) := rfl
@[simp] theorem keepV_l (n : Nat) (s : Sto) : keepV (.l n) s = ((s.L[n]?).bind readO).map fun x => (.d x, { s with L := s.L.set n (.frz x) }) := by
  show bd (keep (.l n)) (fun x => rt (Val.d x)) s = _
  rw [bd_ap, keep_l]
  cases (s.L[n]?).bind readO <;> rfl
@[simp] theorem keeps_nil (s : Sto) : keeps [] s = some ([], s) := rfl
@[simp] theorem keeps_cons (v : Val) (vs : List Val) (s : Sto) : keeps (v :: vs) s = (keep v s).bind fun p => (keeps vs p.2).map fun q => (p.1 :: q.1, q.2) := by
  show bd (keep v) (fun x => bd (keeps vs) fun xs => rt (x :: xs)) s = _
  simp only [bd_ap, rt_ap]
  cases keep v s with
  | none => rfl
  | some p => simp only [Option.bind_some]; cases keeps vs p.2 <;> rfl
@[simp] theorem keepVs_nil (s : Sto) : keepVs [] s = some ([], s) := rfl
@[simp] theorem keepVs_cons (v : Val) (vs : List Val) (s : Sto) : keepVs (v :: vs) s = (keepV v s).bind fun p => (keepVs vs p.2).map fun q => (p.1 :: q.1, q.2) := by
  show bd (keepV v) (fun x => bd (keepVs vs) fun xs => rt (x :: xs)) s = _
  simp only [bd_ap, rt_ap]
  cases keepV v s with
  | none => rfl
  | some p => simp only [Option.bind_some]; cases keepVs vs p.2 <;> rfl
@[simp] theorem readO_lst (vs : List Val) : readO (.lst vs) = (valsD vs).map .list := rfl
@[simp] theorem readO_frz (x : PyData) : readO (.frz x) = some x := rfl
@[simp] theorem readO_dct (x : List (PyData × PyData)) : readO (.dct x) = some (.dict x) := rfl
@[simp] theorem valsD_nil : valsD [] = some [] := rfl
@[simp] theorem valsD_d (x : PyData) (vs : List Val) : valsD (.d x :: vs) = (valsD vs).map (x :: ·) := by
  show (match valD (.d x), valsD vs with | some x, some xs => some (x :: xs) | _, _ => none) = _
  cases valsD vs <;> rfl
@[simp] theorem place_pure (vs : List Val) (s : Sto) : place .pure vs s = (keeps vs s).map fun p => (.d (.list p.1), p.2) := by
  show bd (keeps vs) (fun xs => rt (Val.d (.list xs))) s = _
  rw [bd_ap]; cases keeps vs s <;> rfl
@[simp] theorem place_loc (vs : List Val) (s : Sto) : place .loc vs s = some (.l s.L.length, { s with L := s.L ++ [.lst vs] }) := rfl
@[simp] theorem place_glob (vs : List Val) (s : Sto) : place .glob vs s = (keepVs vs s).map fun p => (.g p.2.G.length, { p.2 with G := p.2.G ++ [.lst p.1] }) := by
  show bd (keepVs vs) (fun vs => fun s => some (Val.g s.G.length, ({ s with G := s.G ++ [.lst vs] } : Sto))) s = _
  rw [bd_ap]; cases keepVs vs s <;> rfl
@[simp] theorem getO_g (n : Nat) (s : Sto) : getO (.g n) s = s.G[n]? := rfl
@[simp] theorem getO_l (n : Nat) (s : Sto) : getO (.l n) s = s.L[n]? := rfl
@[simp] theorem idxV_d (x : PyData) (i : Val) (s : Sto) : idxV (.d x) i s = (peek i s).bind fun p => (idxD x p.1).map fun y => (.d y, p.2) := by
  unfold idxV
  simp only [bd_ap]
  congr 1
  funext p
  simp only [ofO_ap, Option.map_map]
  rfl
@[simp] theorem idxV_s (ns : List Int) (j : Int) (s : Sto) : idxV (.s ns) (.d (.int j)) s = (atP ns j).map fun n => (.d (.int n), s) := by
  unfold idxV
  simp only [bd_ap, peek_d, Option.bind_some, ofO_ap, Option.map_map]
  rfl
theorem idxV_g {n : Nat} {j : Int} {s : Sto} {vs : List Val} (h : s.G[n]? = some (.lst vs)) : idxV (.g n) (.d (.int j)) s = (atP vs j).map fun v => (v, s) := by
  unfold idxV
  simp only [bd_ap, peek_d, Option.bind_some, getO_g, h]
theorem idxV_l {n : Nat} {j : Int} {s : Sto} {vs : List Val} (h : s.L[n]? = some (.lst vs)) : idxV (.l n) (.d (.int j)) s = (atP vs j).map fun v => (v, s) := by
  unfold idxV
  simp only [bd_ap, peek_d, Option.bind_some, getO_l, h]
theorem setV_g {n m : Nat} {j : Int} {s : Sto} {vs : List Val} {x : PyData} (h : s.G[n]? = some (.lst vs)) (hj : ixP vs.length j = some m) : setV (.g n) (.d (.int j)) (.d x) s = some ((), { s with G := s.G.set n (.lst (vs.set m (.d x))) }) := by
  unfold setV
  simp only [bd_ap, peek_d, Option.bind_some, keepV_d, getO_g, h, hj]
  rfl
@[simp] theorem b1V_d (f : B1) (x : PyData) (s : Sto) : b1V f (.d x) s = (b1D f x).map fun y => (.d y, s) := by
  show bd (peek (.d x)) (fun x => ofO ((b1D f x).map Val.d)) s = _
  simp only [bd_ap, peek_d, Option.bind_some, ofO_ap, Option.map_map]
  rfl
@[simp] theorem b1V_len (ns : List Int) (s : Sto) : b1V .len (.s ns) s = some (.d (.int ns.length), s) := rfl
@[simp] theorem callV_ap (f : Nat) (vs : List Val) (s : Sto) : callV T f vs s = if noG s.G then (T.fn f vs s.G).map fun p => (p.1, { s with G := p.2 }) else none := rfl
/-! the text -/
@[simp] theorem x_varE (i : Nat) : varE i e s = (e[i]?).bind fun o => o.map fun v => (v, s) := by
  unfold varE
  cases e[i]? with
  | none => rfl
  | some o => cases o <;> rfl
@[simp] theorem x_var (i : Nat) : evE T (.var i) e = varE i e := rfl
@[simp] theorem x_lit (x : PyData) : evE T (.lit x) e = rt (.d x) := rfl
@[simp] theorem x_glo (k : Nat) : evE T (.glo k) e = ofO ((T.cs k).map .d) := rfl
@[simp] theorem x_bin (o : Operator) (a b : Ex) : evE T (.bin o a b) e = bd (evE T a e) fun v => bd (evE T b e) fun u => bd (peek v) fun x => bd (peek u) fun y => ofO ((binD o x y).map .d) := rfl
@[simp] theorem x_neg (a : Ex) : evE T (.neg a) e = bd (evE T a e) fun v => bd (peek v) fun x => ofO ((negD x).map .d) := rfl
@[simp] theorem x_cmp (o : CmpOp) (a b : Ex) : evE T (.cmp o a b) e = bd (evE T a e) fun v => bd (evE T b e) fun u => bd (peek v) fun x => bd (peek u) fun y => ofO ((cmpD o x y).map fun c => .d (.bool c)) := rfl
@[simp] theorem x_chn (o1 o2 : CmpOp) (a b c : Ex) : evE T (.chn o1 o2 a b c) e = bd (evE T a e) fun v => bd (evE T b e) fun u => bd (peek v) fun x => bd (peek u) fun y => bd (ofO (cmpD o1 x y)) fun k =>
      if k then bd (evE T c e) fun w => bd (peek u) fun y => bd (peek w) fun z => ofO ((cmpD o2 y z).map fun c => .d (.bool c)) else rt (.d (.bool false)) := rfl
@[simp] theorem x_and (es : Exs) : evE T (.and es) e = evA T es e := rfl
@[simp] theorem x_or (es : Exs) : evE T (.or es) e = evO T es e := rfl
@[simp] theorem x_not (a : Ex) : evE T (.not a) e = bd (evE T a e) fun v => bd (peek v) fun x => bd (ofO (truthD x)) fun k => rt (.d (.bool !k)) := rfl
@[simp] theorem x_ife (c : Ct) (a b : Ex) : evE T (.ife c a b) e = bd (evT T c e) fun k => if k then evE T a e else evE T b e := rfl
@[simp] theorem x_tup (es : Exs) : evE T (.tup es) e = bd (evEs T es e) fun vs => bd (keeps vs) fun xs => if xs.length ≤ 16777216 then rt (.d (.tuple xs)) else no := rfl
@[simp] theorem x_lst (w : Wh) (es : Exs) : evE T (.lst w es) e = bd (evEs T es e) fun vs => if vs.length ≤ 16777216 then place w vs else no := rfl
@[simp] theorem x_dct0 : evE T .dct0 e s = some (.l s.L.length, { s with L := s.L ++ [.dct []] }) := rfl
@[simp] theorem x_idx (a b : Ex) : evE T (.idx a b) e = bd (evE T a e) fun v => bd (evE T b e) fun u => idxV v u := rfl
@[simp] theorem x_slc (a : Ex) (lo hi : Xo) : evE T (.slc a lo hi) e = bd (evE T a e) fun v => bd (evP T lo e) fun i => bd (evP T hi e) fun j => bd (peek v) fun x => ofO ((sliceD i j x).map .d) := rfl
@[simp] theorem x_rev (a : Ex) : evE T (.rev a) e = bd (evE T a e) fun v => bd (peek v) fun x => ofO ((revD x).map .d) := rfl
@[simp] theorem x_call (f : Nat) (es : Exs) : evE T (.call f es) e = bd (evEs T es e) fun vs => bd (keepVs vs) fun vs => callV T f vs := rfl
@[simp] theorem x_b1 (f : B1) (a : Ex) : evE T (.b1 f a) e = bd (evE T a e) fun v => b1V f v := rfl
@[simp] theorem x_b2 (f : B2) (a b : Ex) : evE T (.b2 f a b) e = bd (evE T a e) fun v => bd (evE T b e) fun u => bd (peek v) fun x => bd (peek u) fun y => ofO ((b2D f x y).map .d) := rfl
@[simp] theorem x_isi (a : Ex) (t : Ty) : evE T (.isi a t) e = bd (evE T a e) fun v => bd (peek v) fun x => rt (.d (.bool (isiD t x))) := rfl
@[simp] theorem x_get (d k x : Ex) : evE T (.get d k x) e = bd (evE T d e) fun d => bd (dctV d) fun _ => bd (evE T k e) fun k => bd (evE T x e) fun x => getV d k x := rfl
@[simp] theorem x_app (o a : Ex) : evE T (.app o a) e = bd (evE T o e) fun o => bd (lstV o) fun _ => bd (evE T a e) fun a => bd (appV o a) fun _ => rt (.d .none) := rfl
theorem x_comp (w : Wh) (elt : Ex) (tg : Tg) (it : Ix) (cd : Co) (own : List Nat) : evE T (.comp w elt tg it cd own) e = bd (evI T it e) fun xs => bd (compL (compF w tg own (evC T cd) (evE T elt) e) xs) fun vs => if vs.length ≤ 16777216 then place w vs else no := rfl
@[simp] theorem x_Es0 : evEs T .nil e = rt [] := rfl
@[simp] theorem x_Es (a : Ex) (es : Exs) : evEs T (.cons a es) e = bd (evE T a e) fun v => bd (evEs T es e) fun vs => rt (v :: vs) := rfl
@[simp] theorem x_A1 (a : Ex) : evA T (.cons a .nil) e = evE T a e := rfl
@[simp] theorem x_A (a b : Ex) (es : Exs) : evA T (.cons a (.cons b es)) e = bd (evE T a e) fun v => bd (peek v) fun x => bd (ofO (truthD x)) fun k => if k then evA T (.cons b es) e else rt v := rfl
@[simp] theorem x_O1 (a : Ex) : evO T (.cons a .nil) e = evE T a e := rfl
@[simp] theorem x_O (a b : Ex) (es : Exs) : evO T (.cons a (.cons b es)) e = bd (evE T a e) fun v => bd (peek v) fun x => bd (ofO (truthD x)) fun k => if k then rt v else evO T (.cons b es) e := rfl
@[simp] theorem x_P0 : evP T .none e = rt none := rfl
@[simp] theorem x_P (a : Ex) : evP T (.some a) e s = (evE T a e s).bind fun p => (peek p.1 p.2).bind fun q => (match q.1 with | .int i => some (some i, q.2) | _ => none) := by
  show bd (evE T a e) (fun v => bd (peek v) fun x => match x with | .int i => rt (some i) | _ => no) s = _
  simp only [bd_ap]
  congr 1
  funext p
  congr 1
  funext q
  cases q.1 <;> rfl
@[simp] theorem x_C0 : evC T .none e = rt true := rfl
@[simp] theorem x_C (c : Ct) : evC T (.some c) e = evT T c e := rfl
@[simp] theorem x_Tv (a : Ex) : evT T (.v a) e = bd (evE T a e) fun v => bd (peek v) fun x => ofO (truthD x) := rfl
@[simp] theorem x_Tn (a : Ct) : evT T (.not a) e = bd (evT T a e) fun k => rt !k := rfl
@[simp] theorem x_Ta (cs : Cts) : evT T (.and cs) e = evTA T cs e := rfl
@[simp] theorem x_To (cs : Cts) : evT T (.or cs) e = evTO T cs e := rfl
@[simp] theorem x_TA0 : evTA T .nil e = rt true := rfl
@[simp] theorem x_TA (a : Ct) (cs : Cts) : evTA T (.cons a cs) e = bd (evT T a e) fun k => if k then evTA T cs e else rt false := rfl
@[simp] theorem x_TO0 : evTO T .nil e = rt false := rfl
@[simp] theorem x_TO (a : Ct) (cs : Cts) : evTO T (.cons a cs) e = bd (evT T a e) fun k => if k then rt true else evTO T cs e := rfl
@[simp] theorem x_seq (a : Ex) : evI T (.seq a) e = bd (evE T a e) fun v => bd (keep v) fun x => ofO (itemsD x) := rfl
@[simp] theorem x_rng1 (a : Ex) : evI T (.rng1 a) e s = (evE T a e s).bind fun p => (peek p.1 p.2).bind fun q => (match q.1 with | .int j => (rngD 0 j).map fun d => (d, q.2) | _ => none) := by
  show bd (evE T a e) (fun v => bd (peek v) fun x => match x with | .int j => ofO (rngD 0 j) | _ => no) s = _
  simp only [bd_ap]
  congr 1
  funext p
  congr 1
  funext q
  cases q.1 <;> first | rfl | exact ofO_ap _ _
@[simp] theorem x_enum (a : Ex) : evI T (.enum a) e = bd (evE T a e) fun v => bd (keep v) fun x => bd (ofO (itemsD x)) fun xs => rt (enumD 0 xs) := rfl
@[simp] theorem x_zip (a b : Ex) : evI T (.zip false a b) e = bd (evE T a e) fun v => bd (evE T b e) fun u => bd (keep v) fun x => bd (keep u) fun y => bd (ofO (itemsD x)) fun xs => bd (ofO (itemsD y)) fun ys => rt (zipD xs ys) := rfl
@[simp] theorem x_ex (a : Ex) : evS T (.ex a) e s = stp (evE T a e) (fun _ s => some (.nx, e, s)) s := rfl
@[simp] theorem x_set (i : Nat) (a : Ex) : evS T (.set i a) e s = stp (evE T a e) (fun v s => some (.nx, e.set i (some v), s)) s := rfl
@[simp] theorem x_par (i j : Nat) (a b : Ex) : evS T (.par i j a b) e s = stp (evE T a e) (fun v s => stp (evE T b e) (fun u s => some (.nx, (e.set i (some v)).set j (some u), s)) s) s := rfl
@[simp] theorem x_par3 (i j k : Nat) (a b c : Ex) : evS T (.par3 i j k a b c) e s = stp (evE T a e) (fun v s => stp (evE T b e) (fun u s => stp (evE T c e) (fun w s => some (.nx, ((e.set i (some v)).set j (some u)).set k (some w), s)) s) s) s := rfl
@[simp] theorem x_asg (tg : Tg) (a : Ex) : evS T (.asg tg a) e s = stp (evE T a e) (fun v s => (asgT tg v e).map fun e1 => (.nx, e1, s)) s := rfl
@[simp] theorem x_sub (o i v : Ex) : evS T (.sub o i v) e s = stp (evE T v e) (fun x s => stp (evE T o e) (fun c s => stp (evE T i e) (fun k s => stp (setV c k x) (fun _ s => some (.nx, e, s)) s) s) s) s := rfl
@[simp] theorem x_iff (c : Ct) (a b : Sts) : evS T (.iff c a b) e s = stp (evT T c e) (fun k s => if k then evSs T a e s else evSs T b e s) s := rfl
theorem x_for (tg : Tg) (it : Ix) (b : Sts) : evS T (.forr tg it b) e s = stp (evI T it e) (fun xs s => forL (forF tg (evSs T b)) xs e s) s := rfl
@[simp] theorem x_whl (n : Nat) (c : Ct) (b : Sts) : evS T (.whl n c b) e s = whlL (evT T c) (evSs T b) n e s := rfl
@[simp] theorem x_ret (a : Ex) : evS T (.ret a) e s = stp (evE T a e) (fun v s => stp (keepV v) (fun w s => some (.rt w, e, s)) s) s := rfl
@[simp] theorem x_ret0 : evS T .ret0 e s = some (.rt (.d .none), e, s) := rfl
@[simp] theorem x_pass : evS T .pass e s = some (.nx, e, s) := rfl
@[simp] theorem x_Ss0 : evSs T .nil e s = some (.nx, e, s) := rfl
@[simp] theorem x_Ss (a : St) (as : Sts) : evSs T (.cons a as) e s = sq (evS T a e s) (evSs T as) := rfl
@[simp] theorem x_nm (i : Nat) (v : Val) : asgT (.nm i) v e = some (e.set i (some v)) := rfl
@[simp] theorem x_tp (ts : Tgs) (xs : List PyData) : asgT (.tp ts) (.d (.tuple xs)) e = asgTs ts xs e := rfl
@[simp] theorem x_tgs0 : asgTs .nil [] e = some e := rfl
@[simp] theorem x_tgs (t : Tg) (ts : Tgs) (x : PyData) (xs : List PyData) : asgTs (.cons t ts) (x :: xs) e = (asgT t (.d x) e).bind fun e1 => asgTs ts xs e1 := rfl
@[simp] theorem endD_rt (v : Val) (e : Lv) (s : Sto) : endD (some (.rt v, e, s)) = if noG s.G && noV [v] then some (v, s.G) else none := rfl
@[simp] theorem endD_nx (e : Lv) (s : Sto) : endD (some (.nx, e, s)) = if noG s.G then some (.d .none, s.G) else none := rfl
@[simp] theorem noV_d (x : PyData) : noV [.d x] = true := rfl
@[simp] theorem noV_g (n : Nat) : noV [.g n] = true := rfl
@[simp] theorem wipe_nil : wipeL e [] = e := rfl
@[simp] theorem wipe_cons (v : Nat) (vs : List Nat) : wipeL e (v :: vs) = (wipeL e vs).set v none := rfl
@[simp] theorem compL_nil (f : PyData → M (Option Val)) (s : Sto) : compL f [] s = some ([], s) := rfl
end
/-! pure data -/
@[simp] theorem add_i (a b : Int) : binD .Add (.int a) (.int b) = some (.int (a + b)) := rfl
@[simp] theorem sub_i (a b : Int) : binD .Sub (.int a) (.int b) = some (.int (a - b)) := rfl
@[simp] theorem add_t (a b : List PyData) : binD .Add (.tuple a) (.tuple b) = if a.length + b.length ≤ 16777216 then some (.tuple (a ++ b)) else none := rfl
theorem mul_i {a b : Int} (h : small a = true ∨ small b = true) : binD .Mult (.int a) (.int b) = some (.int (a * b)) := by
  show (if (small a || small b) = true then some (PyData.int (a * b)) else none) = _
  rw [if_pos]
  simpa [Bool.or_eq_true] using h
theorem fdiv_i {a b : Int} (h : 0 < b) (h2 : b < 1073741824) : binD .FloorDiv (.int a) (.int b) = some (.int (a / b)) := if_pos ⟨h, h2⟩
theorem mod_i {a b : Int} (h : 0 < b) : binD .Mod (.int a) (.int b) = some (.int (a % b)) := if_pos h
@[simp] theorem lt_i (a b : Int) : cmpD .Lt (.int a) (.int b) = some (decide (a < b)) := rfl
@[simp] theorem le_i (a b : Int) : cmpD .LtE (.int a) (.int b) = some (decide (a ≤ b)) := rfl
@[simp] theorem gt_i (a b : Int) : cmpD .Gt (.int a) (.int b) = some (decide (b < a)) := rfl
@[simp] theorem ge_i (a b : Int) : cmpD .GtE (.int a) (.int b) = some (decide (b ≤ a)) := rfl
@[simp] theorem eqD_i (a b : Int) : eqD (.int a) (.int b) = some (decide (a = b)) := by
  have h : ((PyData.int a).plain && (PyData.int b).plain && decide (min (PyData.int a).depth (PyData.int b).depth ≤ 64)) = true := by
    simp [PyData.plain, PyData.depth]
  unfold eqD
  rw [if_pos h]
  simp only [PyData.eqv]
  rfl
@[simp] theorem eq_any (a b : PyData) : cmpD .Eq a b = eqD a b := by cases a <;> cases b <;> rfl
@[simp] theorem ne_any (a b : PyData) : cmpD .NotEq a b = (eqD a b).map (!·) := by cases a <;> cases b <;> rfl
@[simp] theorem in_any (a b : PyData) : cmpD .In a b = inD a b := by cases a <;> cases b <;> rfl
@[simp] theorem notin_any (a b : PyData) : cmpD .NotIn a b = (inD a b).map (!·) := by cases a <;> cases b <;> rfl
@[simp] theorem truth_b (b : Bool) : truthD (.bool b) = some b := rfl
@[simp] theorem truth_i (i : Int) : truthD (.int i) = some (i != 0) := rfl
@[simp] theorem len_t (xs : List PyData) : b1D .len (.tuple xs) = some (.int xs.length) := rfl
@[simp] theorem len_l (xs : List PyData) : b1D .len (.list xs) = some (.int xs.length) := rfl
@[simp] theorem tup_l (xs : List PyData) : b1D .tuple (.list xs) = some (.tuple xs) := rfl
@[simp] theorem tup_t (xs : List PyData) : b1D .tuple (.tuple xs) = some (.tuple xs) := rfl
@[simp] theorem lst_t (xs : List PyData) : b1D .list (.tuple xs) = some (.list xs) := rfl
@[simp] theorem lst_l (xs : List PyData) : b1D .list (.list xs) = some (.list xs) := rfl
@[simp] theorem abs_i (i : Int) : b1D .abs (.int i) = some (.int (if i < 0 then -i else i)) := rfl
@[simp] theorem all_l (xs : List PyData) : b1D .all (.list xs) = (bools? xs).map fun bs => .bool (bs.all id) := rfl
@[simp] theorem any_l (xs : List PyData) : b1D .any (.list xs) = (bools? xs).map fun bs => .bool (bs.any id) := rfl
@[simp] theorem sum_t (xs : List PyData) : b1D .sum (.tuple xs) = (ints? xs).map fun ns => .int ns.sum := rfl
@[simp] theorem sum_l (xs : List PyData) : b1D .sum (.list xs) = (ints? xs).map fun ns => .int ns.sum := rfl
@[simp] theorem max_i (a b : Int) : b2D .max (.int a) (.int b) = some (.int (if b > a then b else a)) := rfl
@[simp] theorem min_i (a b : Int) : b2D .min (.int a) (.int b) = some (.int (if b < a then b else a)) := rfl
@[simp] theorem items_t (xs : List PyData) : itemsD (.tuple xs) = some xs := rfl
@[simp] theorem items_l (xs : List PyData) : itemsD (.list xs) = some xs := rfl
@[simp] theorem idx_t (xs : List PyData) (i : Int) : idxD (.tuple xs) (.int i) = atP xs i := rfl
@[simp] theorem idx_l (xs : List PyData) (i : Int) : idxD (.list xs) (.int i) = atP xs i := rfl
theorem atP_nat {α : Type} {xs : List α} {i : Int} (h : 0 ≤ i) : atP xs i = xs[i.toNat]? := by
  unfold atP L2.atI L2.ixN
  rw [if_pos h]
  by_cases hl : i < xs.length
  · rw [if_pos hl]; rfl
  · rw [if_neg hl]
    have : xs.length ≤ i.toNat := by omega
    rw [List.getElem?_eq_none this]; rfl
@[simp] theorem atP_0 {α : Type} (xs : List α) : atP xs 0 = xs[0]? := atP_nat (by decide)
@[simp] theorem atP_1 {α : Type} (xs : List α) : atP xs 1 = xs[1]? := atP_nat (by decide)
@[simp] theorem atP_2 {α : Type} (xs : List α) : atP xs 2 = xs[2]? := atP_nat (by decide)
@[simp] theorem atP_3 {α : Type} (xs : List α) : atP xs 3 = xs[3]? := atP_nat (by decide)
@[simp] theorem atP_4 {α : Type} (xs : List α) : atP xs 4 = xs[4]? := atP_nat (by decide)
@[simp] theorem ints_map (ns : List Int) : ints? (ns.map .int) = some ns := by
  induction ns with
  | nil => rfl
  | cons a r ih => show (ints? (r.map .int)).map (a :: ·) = _; rw [ih]; rfl
@[simp] theorem bools_map (bs : List Bool) : bools? (bs.map .bool) = some bs := by
  induction bs with
  | nil => rfl
  | cons a r ih => show (bools? (r.map .bool)).map (a :: ·) = _; rw [ih]; rfl
@[simp] theorem bools_rep (n : Nat) (b : Bool) : bools? (List.replicate n (.bool b)) = some (List.replicate n b) := by
  induction n with
  | zero => rfl
  | succ n ih => rw [List.replicate_succ, List.replicate_succ]; show (bools? (List.replicate n (.bool b))).map (b :: ·) = _; rw [ih]; rfl
theorem bools_mapf {α : Type} (f : α → Bool) (xs : List α) : bools? (xs.map fun x => .bool (f x)) = some (xs.map f) := by
  have := bools_map (xs.map f)
  rw [List.map_map] at this
  exact this
theorem ints_mapf {α : Type} (f : α → Int) (xs : List α) : ints? (xs.map fun x => .int (f x)) = some (xs.map f) := by
  have := ints_map (xs.map f)
  rw [List.map_map] at this
  exact this
theorem rng0 {n : Int} (h0 : 0 ≤ n) (h : n < 1000000) : rngD 0 n = some ((List.range n.toNat).map fun i : Nat => .int (i : Int)) := by
  unfold rngD
  rw [if_pos ⟨by decide, by decide, by omega, by omega⟩, Int.sub_zero]
  simp
/-- a comprehension whose turns leave the stores -/
theorem compL_map {f : PyData → M (Option Val)} {g : PyData → Val} {s : Sto} : ∀ {xs : List PyData}, (∀ x ∈ xs, f x s = some (some (g x), s)) → compL f xs s = some (xs.map g, s)
  | [], _ => rfl
  | x :: xs, h => by
    have ih := compL_map (xs := xs) fun y hy => h y (List.mem_cons_of_mem _ hy)
    show bd (f x) (fun o => bd (compL f xs) fun vs => rt (match o with | some v => v :: vs | none => vs)) s = _
    simp only [bd_ap, h x List.mem_cons_self, Option.bind_some, ih, rt_ap, List.map_cons]
theorem compL_filter {f : PyData → M (Option Val)} {g : PyData → Option Val} {s : Sto} : ∀ {xs : List PyData}, (∀ x ∈ xs, f x s = some (g x, s)) → compL f xs s = some (xs.filterMap g, s)
  | [], _ => rfl
  | x :: xs, h => by
    have ih := compL_filter (xs := xs) fun y hy => h y (List.mem_cons_of_mem _ hy)
    show bd (f x) (fun o => bd (compL f xs) fun vs => rt (match o with | some v => v :: vs | none => vs)) s = _
    simp only [bd_ap, h x List.mem_cons_self, Option.bind_some, ih, rt_ap, List.filterMap_cons]
    cases g x <;> rfl
/-- .. whose turns keep an invariant by the turns left -/
theorem compL_inv {f : PyData → M (Option Val)} {I : Nat → Sto → Prop} {R : Val → Prop} : ∀ {xs : List PyData} {s : Sto}, I xs.length s → (∀ x n s, x ∈ xs → I (n + 1) s → ∃ v s', f x s = some (some v, s') ∧ R v ∧ I n s') → ∃ vs s', compL f xs s = some (vs, s') ∧ vs.length = xs.length ∧ (∀ v ∈ vs, R v) ∧ I 0 s'
  | [], s, h, _ => ⟨[], s, rfl, rfl, (fun v hv => by cases hv), h⟩
  | x :: xs, s, h, hf => by
    obtain ⟨v, s1, h1, h2, h3⟩ := hf x xs.length s List.mem_cons_self h
    obtain ⟨vs, s2, h4, h5, h6, h7⟩ := compL_inv (xs := xs) h3 fun y n t hy => hf y n t (List.mem_cons_of_mem _ hy)
    refine ⟨v :: vs, s2, ?_, by simp [h5], fun u hu => ?_, h7⟩
    · show bd (f x) (fun o => bd (compL f xs) fun vs => rt (match o with | some v => v :: vs | none => vs)) s = _
      simp only [bd_ap, h1, Option.bind_some, h4, rt_ap]
    · rcases List.mem_cons.mp hu with e | e
      · rw [e]; exact h2
      · exact h6 u e
@[simp] theorem keeps_map (xs : List PyData) (s : Sto) : keeps (xs.map .d) s = some (xs, s) := by
  induction xs with
  | nil => rfl
  | cons x r ih => rw [List.map_cons, keeps_cons, keep_d, Option.bind_some, ih]; rfl
theorem comp_ap {T : Tx} {w : Wh} {elt : Ex} {tg : Tg} {it : Ix} {cd : Co} {own : List Nat} {e : Lv} {s s1 s2 : Sto} {xs : List PyData} {vs : List Val} (hi : evI T it e s = some (xs, s1)) (hc : compL (compF w tg own (evC T cd) (evE T elt) e) xs s1 = some (vs, s2)) (hl : vs.length ≤ 16777216) :
    evE T (.comp w elt tg it cd own) e s = place w vs s2 := by
  rw [x_comp]
  simp only [bd_ap, hi, Option.bind_some, hc, if_pos hl]
/-- a pure comprehension by its items -/
theorem comp_map {T : Tx} {elt : Ex} {tg : Tg} {it : Ix} {cd : Co} {own : List Nat} {e : Lv} {s : Sto} (xs : List PyData) (g : PyData → PyData) (hi : evI T it e s = some (xs, s)) (hl : xs.length ≤ 16777216) (h : ∀ x ∈ xs, compF .pure tg own (evC T cd) (evE T elt) e x s = some (some (.d (g x)), s)) :
    evE T (.comp .pure elt tg it cd own) e s = some (.d (.list (xs.map g)), s) := by
  rw [comp_ap hi (compL_map (g := fun x => .d (g x)) h) (by simpa using hl), place_pure]
  have e1 : xs.map (fun x => Val.d (g x)) = (xs.map g).map .d := by rw [List.map_map]; rfl
  rw [e1, keeps_map]; rfl
theorem comp_flt {T : Tx} {elt : Ex} {tg : Tg} {it : Ix} {cd : Co} {own : List Nat} {e : Lv} {s : Sto} (xs : List PyData) (g : PyData → Option PyData) (hi : evI T it e s = some (xs, s)) (hl : xs.length ≤ 16777216) (h : ∀ x ∈ xs, compF .pure tg own (evC T cd) (evE T elt) e x s = some ((g x).map .d, s)) :
    evE T (.comp .pure elt tg it cd own) e s = some (.d (.list (xs.filterMap g)), s) := by
  have e1 : xs.filterMap (fun x => (g x).map Val.d) = (xs.filterMap g).map .d := by rw [List.map_filterMap]
  have hl2 : (xs.filterMap fun x => (g x).map Val.d).length ≤ 16777216 := Nat.le_trans (List.length_filterMap_le _ _) hl
  rw [comp_ap hi (compL_filter (g := fun x => (g x).map .d) h) hl2, place_pure, e1, keeps_map]; rfl
@[simp] theorem compF_pure (tg : Tg) (own : List Nat) (mc : Lv → M Bool) (me : Lv → M Val) (e : Lv) (x : PyData) (s : Sto) : compF .pure tg own mc me e x s = (asgT tg (.d x) (wipeL e own)).bind fun e1 => (mc e1 s).bind fun p => if p.1 then (me e1 p.2).bind fun q => (keep q.1 q.2).map fun r => (some (.d r.1), r.2) else some (none, p.2) := by
  unfold compF
  cases asgT tg (.d x) (wipeL e own) with
  | none => rfl
  | some e1 =>
    simp only [bd_ap, ite_ap, Option.bind_some]
    congr 1
    funext p
    split
    · congr 1
      funext q
      cases keep q.1 q.2 <;> rfl
    · rfl
@[simp] theorem loopN_nx (k : Lv → Sto → Out) (e : Lv) (s : Sto) : loopN k (some (.nx, e, s)) = k e s := rfl
@[simp] theorem loopN_rt (k : Lv → Sto → Out) (v : Val) (e : Lv) (s : Sto) : loopN k (some (.rt v, e, s)) = some (.rt v, e, s) := rfl
@[simp] theorem forL_nil (f : PyData → Lv → Sto → Out) (e : Lv) (s : Sto) : forL f [] e s = some (.nx, e, s) := rfl
theorem forL_cons (f : PyData → Lv → Sto → Out) (x : PyData) (xs : List PyData) (e : Lv) (s : Sto) : forL f (x :: xs) e s = loopN (forL f xs) (f x e s) := rfl
@[simp] theorem whl_step (c : Lv → M Bool) (f : Lv → Sto → Out) (n : Nat) (e : Lv) (s : Sto) : whlL c f (n + 1) e s = (c e s).bind fun p => if p.1 then loopN (whlL c f n) (f e p.2) else some (.nx, e, p.2) := by
  show stp (c e) _ s = _
  rw [stp_ap]
@[simp] theorem forF_ap (tg : Tg) (f : Lv → Sto → Out) (x : PyData) (e : Lv) (s : Sto) : forF tg f x e s = (asgT tg (.d x) e).bind fun e1 => f e1 s := by
  unfold forF; cases asgT tg (.d x) e <;> rfl
/-- a comprehension whose turns keep an invariant by the turns left -/
theorem comp_inv {T : Tx} {elt : Ex} {tg : Tg} {it : Ix} {cd : Co} {own : List Nat} {e : Lv} {s s1 : Sto} (I : Nat → Sto → Prop) (R : PyData → Prop) (xs : List PyData) (hi : evI T it e s = some (xs, s1)) (hl : xs.length ≤ 16777216) (h0 : I xs.length s1)
    (h : ∀ x n s, x ∈ xs → I (n + 1) s → ∃ y s', compF .pure tg own (evC T cd) (evE T elt) e x s = some (some (.d y), s') ∧ R y ∧ I n s') :
    ∃ ys s', evE T (.comp .pure elt tg it cd own) e s = some (.d (.list ys), s') ∧ ys.length = xs.length ∧ (∀ y ∈ ys, R y) ∧ I 0 s' := by
  obtain ⟨vs, s', h1, h2, h3, h4⟩ := compL_inv (f := compF .pure tg own (evC T cd) (evE T elt) e) (I := I) (R := fun v => ∃ y, v = .d y ∧ R y) h0 fun x n s hx hI => by
    obtain ⟨y, s', a, b, c⟩ := h x n s hx hI
    exact ⟨.d y, s', a, ⟨y, rfl, b⟩, c⟩
  obtain ⟨ys, rfl⟩ : ∃ ys : List PyData, vs = ys.map .d := by
    clear h1 h2
    induction vs with
    | nil => exact ⟨[], rfl⟩
    | cons v vs ih =>
      obtain ⟨y, rfl, _⟩ := h3 v List.mem_cons_self
      obtain ⟨ys, rfl⟩ := ih fun u hu => h3 u (List.mem_cons_of_mem _ hu)
      exact ⟨y :: ys, rfl⟩
  refine ⟨ys, s', ?_, by simpa using h2, fun y hy => ?_, h4⟩
  · rw [comp_ap hi h1 (by rw [h2]; exact hl), place_pure, keeps_map]; rfl
  · obtain ⟨z, hz, hr⟩ := h3 (.d y) (List.mem_map.mpr ⟨y, hy, rfl⟩)
    cases hz; exact hr
/-- a loop whose turns go on and keep an invariant by the turns left -/
theorem forL_inv {f : PyData → Lv → Sto → Out} (I : Nat → Lv → Sto → Prop) : ∀ {xs : List PyData} {e : Lv} {s : Sto}, I xs.length e s → (∀ x n e s, x ∈ xs → I (n + 1) e s → ∃ e' s', f x e s = some (.nx, e', s') ∧ I n e' s') → ∃ e' s', forL f xs e s = some (.nx, e', s') ∧ I 0 e' s'
  | [], e, s, h, _ => ⟨e, s, rfl, h⟩
  | x :: xs, e, s, h, hf => by
    obtain ⟨e1, s1, h1, h2⟩ := hf x xs.length e s List.mem_cons_self h
    obtain ⟨e2, s2, h3, h4⟩ := forL_inv I (xs := xs) h2 fun y n e s hy => hf y n e s (List.mem_cons_of_mem _ hy)
    exact ⟨e2, s2, by rw [forL_cons, h1]; exact h3, h4⟩
@[simp] theorem plainAll_i (a : List Int) : PyData.plainAll (a.map .int) = true := by
  induction a with
  | nil => simp [PyData.plainAll]
  | cons x r ih => simp [PyData.plainAll, PyData.plain, ih]
theorem depthAll_i (a : List Int) : PyData.depthAll (a.map .int) ≤ 1 := by
  induction a with
  | nil => simp [PyData.depthAll]
  | cons x r ih => simp [PyData.depthAll, PyData.depth, ih]
@[simp] theorem eqvAll_i : ∀ (a b : List Int), PyData.eqvAll (a.map .int) (b.map .int) = decide (a = b)
  | [], [] => by simp [PyData.eqvAll]
  | [], _ :: _ => by simp [PyData.eqvAll]
  | _ :: _, [] => by simp [PyData.eqvAll]
  | x :: a, y :: b => by
    simp only [List.map_cons, PyData.eqvAll, eqvAll_i a b, PyData.eqv, List.cons.injEq]
    by_cases h : x = y <;> simp [h]
theorem eqD_tup {a b : List PyData} (h1 : PyData.plainAll a = true) (h2 : PyData.plainAll b = true) (h3 : PyData.depthAll a ≤ 63) : eqD (.tuple a) (.tuple b) = some (PyData.eqvAll a b) := by
  unfold eqD
  rw [if_pos]
  · simp [PyData.eqv]
  · simp only [PyData.plain, PyData.depth, h1, h2, Bool.and_true, Bool.true_and, decide_eq_true_eq]
    exact decide_eq_true (Nat.le_trans (Nat.min_le_left _ _) (Nat.succ_le_succ h3))
theorem eqD_lst {a b : List PyData} (h1 : PyData.plainAll a = true) (h2 : PyData.plainAll b = true) (h3 : PyData.depthAll a ≤ 63) : eqD (.list a) (.list b) = some (PyData.eqvAll a b) := by
  unfold eqD
  rw [if_pos]
  · simp [PyData.eqv]
  · simp only [PyData.plain, PyData.depth, h1, h2, Bool.and_true, Bool.true_and, decide_eq_true_eq]
    exact decide_eq_true (Nat.le_trans (Nat.min_le_left _ _) (Nat.succ_le_succ h3))
@[simp] theorem eqD_row (a b : List Int) : eqD (.tuple (a.map .int)) (.tuple (b.map .int)) = some (decide (a = b)) := by
  rw [eqD_tup (by simp) (by simp) (Nat.le_trans (depthAll_i a) (by decide)), eqvAll_i]
@[simp] theorem eqD_rowL (a b : List Int) : eqD (.list (a.map .int)) (.list (b.map .int)) = some (decide (a = b)) := by
  rw [eqD_lst (by simp) (by simp) (Nat.le_trans (depthAll_i a) (by decide)), eqvAll_i]
theorem inD_row (x : Int) (a : List Int) : inD (.int x) (.tuple (a.map .int)) = some (decide (x ∈ a)) := by
  show (if _ then some ((a.map PyData.int).any fun y => PyData.eqv y (.int x)) else none) = _
  rw [if_pos]
  · congr 1
    induction a with
    | nil => simp
    | cons y r ih =>
      simp only [List.map_cons, List.any_cons, ih, PyData.eqv, List.mem_cons]
      by_cases h : y = x
      · simp [h]
      · have : ¬ x = y := fun e => h e.symm
        simp [h, this]
  · simp [PyData.plain, PyData.depth]
@[simp] theorem neg_i (a : Int) : negD (.int a) = some (.int (-a)) := rfl
@[simp] theorem slc_t (lo hi : Option Int) (xs : List PyData) : sliceD lo hi (.tuple xs) = some (.tuple (cutP xs lo hi)) := rfl
@[simp] theorem slc_l (lo hi : Option Int) (xs : List PyData) : sliceD lo hi (.list xs) = some (.list (cutP xs lo hi)) := rfl
theorem cut_from {α : Type} (xs : List α) (k : Nat) : cutP xs (some (k : Int)) none = xs.drop k := by
  unfold cutP
  rw [HT.sIx_nat, HT.sIx_none]
  by_cases h : k ≤ xs.length
  · rw [Nat.min_eq_left h, List.take_of_length_le (by simp)]
  · rw [Nat.min_eq_right (by omega), List.drop_length, List.drop_of_length_le (by omega)]; simp
theorem cut_to {α : Type} (xs : List α) (k : Nat) : cutP xs none (some (k : Int)) = xs.take k := by
  unfold cutP
  rw [HT.sIx_nat, HT.sIx_none, List.drop_zero, Nat.sub_zero]
  by_cases h : k ≤ xs.length
  · rw [Nat.min_eq_left h]
  · rw [Nat.min_eq_right (by omega), List.take_of_length_le (Nat.le_refl _), List.take_of_length_le (by omega)]
@[simp] theorem cut_1 {α : Type} (xs : List α) : cutP xs (some 1) none = xs.drop 1 := cut_from xs 1
@[simp] theorem cut_0_1 {α : Type} (xs : List α) : cutP xs none (some 1) = xs.take 1 := cut_to xs 1
theorem zipD_map {α : Type} (f g : α → PyData) : ∀ xs : List α, zipD (xs.map f) (xs.map g) = xs.map fun x => .tuple [f x, g x]
  | [] => rfl
  | x :: xs => by simp [zipD, zipD_map f g xs]
theorem enumD_map (f : Nat → PyData) (n : Nat) : enumD 0 ((List.range n).map f) = (List.range n).map fun i : Nat => .tuple [.int (i : Int), f i] := by
  apply List.ext_getElem?
  intro i
  rw [enumD_at]
  by_cases h : i < n
  · simp [h]
  · simp [h]
end Ev

/-! the laws' pen -/
namespace Ev
open PySem
def cellDf : Df := ⟨2, 2, (.cons (.iff (.v (.cmp .Lt (.var 1) (.b1 .len (.var 0)))) (.cons (.ret (.idx (.var 0) (.var 1))) .nil) .nil) (.cons (.ret (.lit (.int 0))) .nil))⟩
def penDf : Df := ⟨1, 1, (.cons (.ret (.lst .glob (.cons (.b2 .max (.lit (.int 0)) (.bin .Sub (.var 0) (.bin .Pow (.lit (.int 10)) (.lit (.int 18))))) (.cons (.bin .Mod (.var 0) (.lit (.int 1000000007))) (.cons (.lit (.int 0)) .nil))))) .nil)⟩
def drawDf : Df := ⟨2, 4, (.cons (.iff (.v (.cmp .Gt (.idx (.var 0) (.lit (.int 0))) (.lit (.int 0)))) (.cons (.set 3 (.bin .Mod (.idx (.var 0) (.lit (.int 0))) (.var 1))) (.cons (.sub (.var 0) (.lit (.int 0)) (.bin .FloorDiv (.idx (.var 0) (.lit (.int 0))) (.var 1))) (.cons (.ret (.var 3)) .nil))) .nil) (.cons (.sub (.var 0) (.lit (.int 2)) (.bin .Add (.idx (.var 0) (.lit (.int 2))) (.lit (.int 1)))) (.cons (.set 2 (.bin .Mod (.bin .Mult (.bin .Add (.idx (.var 0) (.lit (.int 1))) (.bin .Mult (.lit (.int 17)) (.idx (.var 0) (.lit (.int 2))))) (.bin .Add (.lit (.int 69621)) (.bin .Mult (.lit (.int 2)) (.idx (.var 0) (.lit (.int 2)))))) (.lit (.int 2147483647)))) (.cons (.set 2 (.bin .Mod (.bin .Add (.bin .Add (.bin .Mult (.var 2) (.var 2)) (.bin .Mult (.lit (.int 40503)) (.idx (.var 0) (.lit (.int 2))))) (.lit (.int 5))) (.lit (.int 2147483629)))) (.cons (.ret (.bin .Mod (.bin .FloorDiv (.bin .Mod (.bin .Mult (.var 2) (.lit (.int 48271))) (.lit (.int 2147483647))) (.lit (.int 32))) (.var 1))) .nil)))))⟩
/-- a pen that can draw m times more -/
def PenB (m : Nat) (o : SO) : Prop := ∃ a b c : Int, o = .lst [.d (.int a), .d (.int b), .d (.int c)] ∧ 0 ≤ a ∧ 0 ≤ b ∧ b < 1000000007 ∧ 0 ≤ c ∧ c + m ≤ 1099511627776
/-- the pen at place j of the global store -/
def Pn (j m : Nat) (G : List SO) : Prop := noG G = true ∧ ∃ o, G[j]? = some o ∧ PenB m o
theorem noG_set {G : List SO} {j : Nat} {vs : List Val} (h : noG G = true) (hv : noV vs = true) : noG (G.set j (.lst vs)) = true := by
  induction G generalizing j with
  | nil => rfl
  | cons o r ih =>
    have hr : noG r = true ∧ ∀ r', noG r' = true → noG (o :: r') = true := by
      cases o with
      | lst us =>
        have : (noV us && noG r) = true := h
        rw [Bool.and_eq_true] at this
        exact ⟨this.2, fun r' hr => by show (noV us && noG r') = true; rw [this.1, hr]; rfl⟩
      | ins c fs =>
        have : (noF fs && noG r) = true := h
        rw [Bool.and_eq_true] at this
        exact ⟨this.2, fun r' hr => by show (noF fs && noG r') = true; rw [this.1, hr]; rfl⟩
      | dct _ => exact ⟨h, fun r' hr => hr⟩
      | frz _ => exact ⟨h, fun r' hr => hr⟩
    cases j with
    | zero => show (noV vs && noG r) = true; rw [hv, hr.1]; rfl
    | succ j => exact hr.2 _ (ih hr.1)
theorem noG_app {G : List SO} {vs : List Val} (h : noG G = true) (hv : noV vs = true) : noG (G ++ [.lst vs]) = true := by
  induction G with
  | nil => show (noV vs && noG []) = true; rw [hv]; rfl
  | cons o r ih =>
    cases o with
    | lst us =>
      have : (noV us && noG r) = true := h
      rw [Bool.and_eq_true] at this
      show (noV us && noG (r ++ [.lst vs])) = true
      rw [this.1, ih this.2]; rfl
    | ins c fs =>
      have : (noF fs && noG r) = true := h
      rw [Bool.and_eq_true] at this
      show (noF fs && noG (r ++ [.lst vs])) = true
      rw [this.1, ih this.2]; rfl
    | dct _ => exact ih h
    | frz _ => exact ih h
theorem Pn.no {j m : Nat} {G : List SO} (h : Pn j m G) : noG G = true := h.1
theorem Pn.le {j m k : Nat} {G : List SO} (h : Pn j m G) (hk : k ≤ m) : Pn j k G := by
  obtain ⟨h1, o, h2, a, b, c, h3, h4, h5, h6, h7, h8⟩ := h
  exact ⟨h1, o, h2, a, b, c, h3, h4, h5, h6, h7, by omega⟩
theorem noV3 (a b c : Int) : noV [.d (.int a), .d (.int b), .d (.int c)] = true := rfl
theorem draw_spec {T : Tx} {j m : Nat} {M : Int} {G : List SO} (h : Pn j (m + 1) G) (h1 : 0 < M) (h2 : M < 1073741824) : ∃ r G', runD T drawDf [.g j, .d (.int M)] G = some (.d (.int r), G') ∧ 0 ≤ r ∧ r < M ∧ Pn j m G' := by
  obtain ⟨hn, o, ho, a, b, c, rfl, ha, hb, hb2, hc, hc2⟩ := h
  have hj : j < G.length := (List.getElem?_eq_some_iff.mp ho).1
  by_cases hp : 0 < a
  · have n1 := noG_set (j := j) hn (noV3 (a / M) b c)
    refine ⟨a % M, G.set j (.lst [.d (.int (a / M)), .d (.int b), .d (.int c)]), ?_, Int.emod_nonneg _ (by omega), Int.emod_lt_of_pos _ h1, n1, _, List.getElem?_set_self hj, a / M, b, c, rfl, Int.ediv_nonneg ha (by omega), hb, hb2, hc, by omega⟩
    simp [drawDf, runD, startL, idxV_g (s := ⟨[], G⟩) ho, hp, mod_i h1, fdiv_i h1 h2, setV_g (s := ⟨[], G⟩) (m := 0) (j := 0) ho rfl, n1]
  · have n1 := noG_set (j := j) hn (noV3 a b (c + 1))
    have ho1 : (G.set j (.lst [.d (.int a), .d (.int b), .d (.int (c + 1))]))[j]? = some (.lst [.d (.int a), .d (.int b), .d (.int (c + 1))]) := List.getElem?_set_self hj
    have sm : ∀ i : Int, 0 ≤ i → i < 2 ^ 64 → small i = true := fun i h1 h2 => by unfold small; simp; omega
    have e1 : binD .Mult (.int 17) (.int (c + 1)) = some (.int (17 * (c + 1))) := mul_i (.inl rfl)
    have e2 : binD .Mult (.int 2) (.int (c + 1)) = some (.int (2 * (c + 1))) := mul_i (.inl rfl)
    have e3 : binD .Mult (.int (b + 17 * (c + 1))) (.int (69621 + 2 * (c + 1))) = some (.int ((b + 17 * (c + 1)) * (69621 + 2 * (c + 1)))) := mul_i (.inr (sm _ (by omega) (by omega)))
    have e4 : ∀ i, binD .Mult (.int 40503) (.int i) = some (.int (40503 * i)) := fun i => mul_i (.inl rfl)
    have e5 : ∀ i, binD .Mult (.int i) (.int 48271) = some (.int (i * 48271)) := fun i => mul_i (.inr rfl)
    generalize hs : (b + 17 * (c + 1)) * (69621 + 2 * (c + 1)) % 2147483647 = st
    have s0 : 0 ≤ st := by rw [← hs]; exact Int.emod_nonneg _ (by decide)
    have s1 : st < 2147483647 := by rw [← hs]; exact Int.emod_lt_of_pos _ (by decide)
    have e6 : binD .Mult (.int st) (.int st) = some (.int (st * st)) := mul_i (.inr (sm _ s0 (by omega)))
    refine ⟨(st * st + 40503 * (c + 1) + 5) % 2147483629 * 48271 % 2147483647 / 32 % M, _, ?_, Int.emod_nonneg _ (by omega), Int.emod_lt_of_pos _ h1, n1, _, ho1, a, b, c + 1, rfl, ha, hb, hb2, by omega, by omega⟩
    simp [drawDf, runD, startL, idxV_g (s := ⟨[], G⟩) ho, hp, setV_g (s := ⟨[], G⟩) (m := 2) (j := 2) ho rfl, n1, idxV_g (s := ⟨[], _⟩) ho1, e1, e2, e3, e4, e5, mod_i h1, mod_i (a := _) (b := 2147483647) (by decide), mod_i (a := _) (b := 2147483629) (by decide), hs, e6, fdiv_i (a := _) (b := 32) (by decide) (by decide)]
theorem pen_spec {T : Tx} {c : Int} {G : List SO} (h : noG G = true) : ∃ G', runD T penDf [.d (.int c)] G = some (.g G.length, G') ∧ Pn G.length 1000000 G' ∧ G'.length = G.length + 1 := by
  have e1 : binD .Pow (.int 10) (.int 18) = some (.int 1000000000000000000) := rfl
  have n1 := fun x : Int => noG_app h (noV3 x (c % 1000000007) 0)
  refine ⟨G ++ [.lst [.d (.int (if 1000000000000000000 < c then c - 1000000000000000000 else 0)), .d (.int (c % 1000000007)), .d (.int 0)]], ?_, ⟨n1 _, _, List.getElem?_concat_length, _, _, _, rfl, ?_, Int.emod_nonneg _ (by decide), Int.emod_lt_of_pos _ (by decide), by decide, by decide⟩, by simp⟩
  · simp [penDf, runD, startL, e1, mod_i (a := c) (b := 1000000007) (by decide), n1]
  · split <;> omega
theorem cell_spec {T : Tx} {ns : List Int} {k : Nat} {G : List SO} (h : noG G = true) : ∃ c : Int, runD T cellDf [.s ns, .d (.int k)] G = some (.d (.int c), G) := by
  by_cases hk : k < ns.length
  · refine ⟨ns[k], ?_⟩
    have e1 : atP ns (k : Int) = some ns[k] := by rw [atP_nat (by omega)]; simp [hk]
    simp [cellDf, runD, startL, hk, e1, h]
  · exact ⟨0, by simp [cellDf, runD, startL, hk, h]⟩
end Ev

namespace K73
open PySem PySem.Spec PyProof.Rows L2 Ev
abbrev pg : PySem.Program := PySem.Challenge.pw_nightsheld_k73_whole_bills_put_together
def top (i : Nat) : Stmt := pg.main.body.getD i (.Pass ⟨0, 0, 0, 0⟩)
/-- is_whole -/
def f0 : Dr := ⟨top 9, "is_whole", ["thing"], ["thing"], ⟨1, 1, (.cons (.ret (.and (.cons (.isi (.var 0) .int) (.cons (.not (.isi (.var 0) .bool)) .nil)))) .nil)⟩⟩
/-- is_among -/
def f1 : Dr := ⟨top 10, "is_among", ["thing", "low", "high"], ["thing", "low", "high"], ⟨3, 3, (.cons (.ret (.and (.cons (.call 0 (.cons (.var 0) .nil)) (.cons (.chn .LtE .LtE (.var 1) (.var 0) (.var 2)) .nil)))) .nil)⟩⟩
/-- is_row -/
def f2 : Dr := ⟨top 11, "is_row", ["thing", "low", "high"], ["thing", "low", "high"], ⟨3, 3, (.cons (.ret (.and (.cons (.isi (.var 0) .tuple) (.cons (.chn .LtE .LtE (.var 1) (.b1 .len (.var 0)) (.var 2)) .nil)))) .nil)⟩⟩
/-- is_kind -/
def f3 : Dr := ⟨top 12, "is_kind", ["thing"], ["thing"], ⟨1, 1, (.cons (.ret (.call 1 (.cons (.var 0) (.cons (.lit (.int 1)) (.cons (.glo 0) .nil))))) .nil)⟩⟩
/-- is_stay -/
def f4 : Dr := ⟨top 13, "is_stay", ["thing"], ["thing"], ⟨1, 1, (.cons (.iff (.or (.cons (.not (.v (.call 2 (.cons (.var 0) (.cons (.lit (.int 3)) (.cons (.lit (.int 3)) .nil)))))) (.cons (.not (.v (.call 3 (.cons (.idx (.var 0) (.lit (.int 0))) .nil)))) .nil))) (.cons (.ret (.lit (.bool false))) .nil) .nil) (.cons (.ret (.and (.cons (.call 1 (.cons (.idx (.var 0) (.lit (.int 1))) (.cons (.lit (.int 0)) (.cons (.glo 1) .nil)))) (.cons (.call 1 (.cons (.idx (.var 0) (.lit (.int 2))) (.cons (.lit (.int 1)) (.cons (.glo 2) .nil)))) .nil)))) .nil))⟩⟩
/-- need_stay -/
def f5 : Dr := ⟨top 14, "need_stay", ["thing"], ["thing"], ⟨1, 1, (.cons (.iff (.not (.v (.call 4 (.cons (.var 0) .nil)))) (.cons .rse .nil) .nil) .nil)⟩⟩
/-- divisor -/
def f6 : Dr := ⟨top 16, "divisor", ["one", "other"], ["one", "other"], ⟨2, 2, (.cons (.par 0 1 (.b1 .abs (.var 0)) (.b1 .abs (.var 1))) (.cons (.whl 200 (.v (.cmp .Gt (.var 1) (.lit (.int 0)))) (.cons (.par 0 1 (.var 1) (.bin .Mod (.var 0) (.var 1))) .nil)) (.cons (.ret (.var 0)) .nil)))⟩⟩
/-- is_fraction -/
def f7 : Dr := ⟨top 17, "is_fraction", ["thing"], ["thing"], ⟨1, 1, (.cons (.iff (.or (.cons (.not (.v (.isi (.var 0) .tuple))) (.cons (.v (.cmp .NotEq (.b1 .len (.var 0)) (.lit (.int 2)))) (.cons (.not (.v (.call 0 (.cons (.idx (.var 0) (.lit (.int 0))) .nil)))) (.cons (.not (.v (.call 0 (.cons (.idx (.var 0) (.lit (.int 1))) .nil)))) .nil))))) (.cons (.ret (.lit (.bool false))) .nil) .nil) (.cons (.ret (.and (.cons (.cmp .Gt (.idx (.var 0) (.lit (.int 1))) (.lit (.int 0))) (.cons (.cmp .Eq (.call 6 (.cons (.idx (.var 0) (.lit (.int 0))) (.cons (.idx (.var 0) (.lit (.int 1))) .nil))) (.lit (.int 1))) .nil)))) .nil))⟩⟩
/-- is_fraction_among -/
def f8 : Dr := ⟨top 18, "is_fraction_among", ["thing", "low", "high"], ["thing", "low", "high"], ⟨3, 3, (.cons (.ret (.and (.cons (.call 7 (.cons (.var 0) .nil)) (.cons (.chn .LtE .LtE (.bin .Mult (.var 1) (.idx (.var 0) (.lit (.int 1)))) (.idx (.var 0) (.lit (.int 0))) (.bin .Mult (.var 2) (.idx (.var 0) (.lit (.int 1))))) .nil)))) .nil)⟩⟩
/-- are_costs -/
def f9 : Dr := ⟨top 25, "are_costs", ["thing"], ["thing", "one"], ⟨1, 2, (.cons (.ret (.and (.cons (.call 2 (.cons (.var 0) (.cons (.glo 4) (.cons (.glo 4) .nil)))) (.cons (.b1 .all (.comp .pure (.call 1 (.cons (.var 1) (.cons (.lit (.int 0)) (.cons (.glo 5) .nil)))) (.nm 1) (.seq (.var 0)) .none [1])) .nil)))) .nil)⟩⟩
/-- is_prices -/
def f10 : Dr := ⟨top 26, "is_prices", ["thing"], ["thing", "one"], ⟨1, 2, (.cons (.ret (.and (.cons (.call 2 (.cons (.var 0) (.cons (.glo 3) (.cons (.glo 3) .nil)))) (.cons (.b1 .all (.comp .pure (.call 9 (.cons (.var 1) .nil)) (.nm 1) (.seq (.var 0)) .none [1])) .nil)))) .nil)⟩⟩
/-- is_rule -/
def f11 : Dr := ⟨top 27, "is_rule", ["thing"], ["thing"], ⟨1, 1, (.cons (.iff (.or (.cons (.not (.v (.call 2 (.cons (.var 0) (.cons (.lit (.int 2)) (.cons (.lit (.int 2)) .nil)))))) (.cons (.not (.v (.call 8 (.cons (.idx (.var 0) (.lit (.int 1))) (.cons (.lit (.int 0)) (.cons (.lit (.int 1)) .nil)))))) .nil))) (.cons (.ret (.lit (.bool false))) .nil) .nil) (.cons (.ret (.or (.cons (.call 1 (.cons (.idx (.var 0) (.lit (.int 0))) (.cons (.lit (.int 0)) (.cons (.lit (.int 0)) .nil)))) (.cons (.call 1 (.cons (.idx (.var 0) (.lit (.int 0))) (.cons (.glo 6) (.cons (.glo 7) .nil)))) .nil)))) .nil))⟩⟩
/-- need_prices -/
def f12 : Dr := ⟨top 28, "need_prices", ["thing"], ["thing"], ⟨1, 1, (.cons (.iff (.not (.v (.call 10 (.cons (.var 0) .nil)))) (.cons .rse .nil) .nil) .nil)⟩⟩
/-- need_rule -/
def f13 : Dr := ⟨top 29, "need_rule", ["thing"], ["thing"], ⟨1, 1, (.cons (.iff (.not (.v (.call 11 (.cons (.var 0) .nil)))) (.cons .rse .nil) .nil) .nil)⟩⟩
/-- cost_of -/
def f14 : Dr := ⟨top 30, "cost_of", ["prices", "rule", "stay", "place"], ["prices", "rule", "stay", "place", "kind", "first", "nights"], ⟨4, 7, (.cons (.asg (.tp (.cons (.nm 4) (.cons (.nm 5) (.cons (.nm 6) .nil)))) (.var 2)) (.cons (.iff (.and (.cons (.v (.cmp .Gt (.idx (.var 1) (.lit (.int 0))) (.lit (.int 0)))) (.cons (.v (.cmp .Eq (.bin .Mod (.bin .Add (.var 3) (.lit (.int 1))) (.idx (.var 1) (.lit (.int 0)))) (.lit (.int 0)))) .nil))) (.cons (.ret (.lit (.int 0))) .nil) .nil) (.cons (.ret (.idx (.idx (.var 0) (.bin .Sub (.var 4) (.lit (.int 1)))) (.bin .Mod (.bin .Add (.var 5) (.var 3)) (.glo 4)))) .nil)))⟩⟩
/-- nightly_by -/
def f15 : Dr := ⟨top 31, "nightly_by", ["prices", "rule", "stay"], ["prices", "rule", "stay", "place"], ⟨3, 4, (.cons (.ret (.b1 .tuple (.comp .pure (.call 14 (.cons (.var 0) (.cons (.var 1) (.cons (.var 2) (.cons (.var 3) .nil))))) (.nm 3) (.rng1 (.idx (.var 2) (.lit (.int 2)))) .none [3]))) .nil)⟩⟩
/-- need_billed -/
def f16 : Dr := ⟨top 32, "need_billed", ["prices", "rule", "stay"], ["prices", "rule", "stay"], ⟨3, 3, (.cons (.ex (.call 12 (.cons (.var 0) .nil))) (.cons (.ex (.call 13 (.cons (.var 1) .nil))) (.cons (.ex (.call 5 (.cons (.var 2) .nil))) .nil)))⟩⟩
/-- nightly -/
def f17 : Dr := ⟨top 33, "nightly", ["prices", "rule", "stay"], ["prices", "rule", "stay"], ⟨3, 3, (.cons (.ex (.call 16 (.cons (.var 0) (.cons (.var 1) (.cons (.var 2) .nil))))) (.cons (.ret (.call 15 (.cons (.var 0) (.cons (.var 1) (.cons (.var 2) .nil))))) .nil))⟩⟩
/-- bill -/
def f18 : Dr := ⟨top 34, "bill", ["prices", "rule", "stay"], ["prices", "rule", "stay", "tax", "coins", "top", "bottom"], ⟨3, 7, (.cons (.ex (.call 16 (.cons (.var 0) (.cons (.var 1) (.cons (.var 2) .nil))))) (.cons (.asg (.tp (.cons (.nm 4) (.cons (.tp (.cons (.nm 5) (.cons (.nm 6) .nil))) .nil))) (.tup (.cons (.b1 .sum (.call 15 (.cons (.var 0) (.cons (.var 1) (.cons (.var 2) .nil))))) (.cons (.idx (.var 1) (.lit (.int 1))) .nil)))) (.cons (.set 3 (.bin .Sub (.lit (.int 0)) (.bin .FloorDiv (.bin .Sub (.lit (.int 0)) (.bin .Mult (.var 4) (.var 5))) (.var 6)))) (.cons (.ret (.tup (.cons (.var 4) (.cons (.var 3) (.cons (.bin .Add (.var 4) (.var 3)) .nil))))) .nil))))⟩⟩
/-- _law_cell_at -/
def f19 : Dr := ⟨top 36, "_law_cell_at", ["_law_script", "_law_k"], ["_law_script", "_law_k"], ⟨2, 2, (.cons (.iff (.v (.cmp .Lt (.var 1) (.b1 .len (.var 0)))) (.cons (.ret (.idx (.var 0) (.var 1))) .nil) .nil) (.cons (.ret (.lit (.int 0))) .nil))⟩⟩
/-- _law_pen -/
def f20 : Dr := ⟨top 37, "_law_pen", ["_law_cell"], ["_law_cell"], ⟨1, 1, (.cons (.ret (.lst .glob (.cons (.b2 .max (.lit (.int 0)) (.bin .Sub (.var 0) (.bin .Pow (.lit (.int 10)) (.lit (.int 18))))) (.cons (.bin .Mod (.var 0) (.lit (.int 1000000007))) (.cons (.lit (.int 0)) .nil))))) .nil)⟩⟩
/-- _law_draw -/
def f21 : Dr := ⟨top 38, "_law_draw", ["_law_pen_here", "_law_many"], ["_law_pen_here", "_law_many", "_law_stir", "_law_digit"], ⟨2, 4, (.cons (.iff (.v (.cmp .Gt (.idx (.var 0) (.lit (.int 0))) (.lit (.int 0)))) (.cons (.set 3 (.bin .Mod (.idx (.var 0) (.lit (.int 0))) (.var 1))) (.cons (.sub (.var 0) (.lit (.int 0)) (.bin .FloorDiv (.idx (.var 0) (.lit (.int 0))) (.var 1))) (.cons (.ret (.var 3)) .nil))) .nil) (.cons (.sub (.var 0) (.lit (.int 2)) (.bin .Add (.idx (.var 0) (.lit (.int 2))) (.lit (.int 1)))) (.cons (.set 2 (.bin .Mod (.bin .Mult (.bin .Add (.idx (.var 0) (.lit (.int 1))) (.bin .Mult (.lit (.int 17)) (.idx (.var 0) (.lit (.int 2))))) (.bin .Add (.lit (.int 69621)) (.bin .Mult (.lit (.int 2)) (.idx (.var 0) (.lit (.int 2)))))) (.lit (.int 2147483647)))) (.cons (.set 2 (.bin .Mod (.bin .Add (.bin .Add (.bin .Mult (.var 2) (.var 2)) (.bin .Mult (.lit (.int 40503)) (.idx (.var 0) (.lit (.int 2))))) (.lit (.int 5))) (.lit (.int 2147483629)))) (.cons (.ret (.bin .Mod (.bin .FloorDiv (.bin .Mod (.bin .Mult (.var 2) (.lit (.int 48271))) (.lit (.int 2147483647))) (.lit (.int 32))) (.var 1))) .nil)))))⟩⟩
/-- _law_stay -/
def f22 : Dr := ⟨top 39, "_law_stay", ["_law_pen_here"], ["_law_pen_here"], ⟨1, 1, (.cons (.ret (.tup (.cons (.bin .Add (.lit (.int 1)) (.call 21 (.cons (.var 0) (.cons (.lit (.int 3)) .nil)))) (.cons (.call 21 (.cons (.var 0) (.cons (.lit (.int 21)) .nil))) (.cons (.bin .Add (.lit (.int 1)) (.call 21 (.cons (.var 0) (.cons (.idx (.lst .pure (.cons (.lit (.int 3)) (.cons (.lit (.int 5)) (.cons (.lit (.int 8)) .nil)))) (.call 21 (.cons (.var 0) (.cons (.lit (.int 3)) .nil)))) .nil)))) .nil))))) .nil)⟩⟩
/-- _law_prices -/
def f23 : Dr := ⟨top 40, "_law_prices", ["_law_pen_here"], ["_law_pen_here", "_law_top", "_law_kind", "_law_day"], ⟨1, 4, (.cons (.set 1 (.idx (.lst .pure (.cons (.lit (.int 4)) (.cons (.lit (.int 60)) (.cons (.lit (.int 1001)) .nil)))) (.call 21 (.cons (.var 0) (.cons (.lit (.int 3)) .nil))))) (.cons (.ret (.b1 .tuple (.comp .pure (.b1 .tuple (.comp .pure (.call 21 (.cons (.var 0) (.cons (.var 1) .nil))) (.nm 3) (.rng1 (.lit (.int 7))) .none [3])) (.nm 2) (.rng1 (.lit (.int 3))) .none [2]))) .nil))⟩⟩
/-- _law_rule -/
def f24 : Dr := ⟨top 41, "_law_rule", ["_law_pen_here"], ["_law_pen_here", "_law_tax"], ⟨1, 2, (.cons (.set 1 (.idx (.lst .pure (.cons (.tup (.cons (.lit (.int 0)) (.cons (.lit (.int 1)) .nil))) (.cons (.tup (.cons (.lit (.int 1)) (.cons (.lit (.int 1)) .nil))) (.cons (.tup (.cons (.lit (.int 1)) (.cons (.lit (.int 5)) .nil))) (.cons (.tup (.cons (.lit (.int 7)) (.cons (.lit (.int 100)) .nil))) (.cons (.tup (.cons (.lit (.int 1)) (.cons (.lit (.int 3)) .nil))) (.cons (.tup (.cons (.lit (.int 2)) (.cons (.lit (.int 7)) .nil))) .nil))))))) (.call 21 (.cons (.var 0) (.cons (.lit (.int 6)) .nil))))) (.cons (.ret (.tup (.cons (.idx (.lst .pure (.cons (.lit (.int 0)) (.cons (.lit (.int 2)) (.cons (.lit (.int 3)) (.cons (.lit (.int 4)) (.cons (.lit (.int 5)) (.cons (.lit (.int 6)) (.cons (.lit (.int 7)) (.cons (.lit (.int 8)) .nil))))))))) (.call 21 (.cons (.var 0) (.cons (.lit (.int 8)) .nil)))) (.cons (.var 1) .nil)))) .nil))⟩⟩
/-- _law_parts_right -/
def f25 : Dr := ⟨top 42, "_law_parts_right", ["_law_prices_here", "_law_tax", "_law_stay_here", "_law_cut"], ["_law_prices_here", "_law_tax", "_law_stay_here", "_law_cut", "_law_kind", "_law_first", "_law_nights", "_law_one", "_law_other", "_law_whole", "_law_mine", "_law_its"], ⟨4, 12, (.cons (.asg (.tp (.cons (.nm 4) (.cons (.nm 5) (.cons (.nm 6) .nil)))) (.var 2)) (.cons (.par 7 8 (.tup (.cons (.var 4) (.cons (.var 5) (.cons (.var 3) .nil)))) (.tup (.cons (.var 4) (.cons (.bin .Add (.var 5) (.var 3)) (.cons (.bin .Sub (.var 6) (.var 3)) .nil))))) (.cons (.iff (.v (.cmp .NotEq (.call 17 (.cons (.var 0) (.cons (.tup (.cons (.lit (.int 0)) (.cons (.var 1) .nil))) (.cons (.var 2) .nil)))) (.bin .Add (.call 17 (.cons (.var 0) (.cons (.tup (.cons (.lit (.int 0)) (.cons (.var 1) .nil))) (.cons (.var 7) .nil)))) (.call 17 (.cons (.var 0) (.cons (.tup (.cons (.lit (.int 0)) (.cons (.var 1) .nil))) (.cons (.var 8) .nil))))))) (.cons (.ret (.lit (.bool false))) .nil) .nil) (.cons (.par3 9 10 11 (.call 18 (.cons (.var 0) (.cons (.tup (.cons (.lit (.int 0)) (.cons (.var 1) .nil))) (.cons (.var 2) .nil)))) (.call 18 (.cons (.var 0) (.cons (.tup (.cons (.lit (.int 0)) (.cons (.var 1) .nil))) (.cons (.var 7) .nil)))) (.call 18 (.cons (.var 0) (.cons (.tup (.cons (.lit (.int 0)) (.cons (.var 1) .nil))) (.cons (.var 8) .nil))))) (.cons (.ret (.and (.cons (.cmp .Eq (.idx (.var 9) (.lit (.int 0))) (.bin .Add (.idx (.var 10) (.lit (.int 0))) (.idx (.var 11) (.lit (.int 0))))) (.cons (.chn .LtE .LtE (.idx (.var 9) (.lit (.int 1))) (.bin .Add (.idx (.var 10) (.lit (.int 1))) (.idx (.var 11) (.lit (.int 1)))) (.bin .Add (.idx (.var 9) (.lit (.int 1))) (.lit (.int 1)))) .nil)))) .nil)))))⟩⟩
/-- _law_right -/
def f26 : Dr := ⟨top 43, "_law_right", ["_law_prices_here", "_law_rule_here", "_law_stay_here"], ["_law_prices_here", "_law_rule_here", "_law_stay_here", "_law_half", "_law_twice", "_law_turned", "_law_coins", "_law_tax", "_law_both", "_law_plain", "_law_costs", "_law_place", "_law_cost", "_law_row", "_law_one", "_law_other"], ⟨3, 16, (.cons (.asg (.tp (.cons (.nm 6) (.cons (.nm 7) (.cons (.nm 8) .nil)))) (.call 18 (.cons (.var 0) (.cons (.var 1) (.cons (.var 2) .nil))))) (.cons (.par 9 10 (.call 17 (.cons (.var 0) (.cons (.tup (.cons (.lit (.int 0)) (.cons (.idx (.var 1) (.lit (.int 1))) .nil))) (.cons (.var 2) .nil)))) (.call 17 (.cons (.var 0) (.cons (.var 1) (.cons (.var 2) .nil))))) (.cons (.iff (.or (.cons (.v (.cmp .NotEq (.var 8) (.bin .Add (.var 6) (.var 7)))) (.cons (.v (.cmp .NotEq (.var 6) (.b1 .sum (.var 10)))) (.cons (.v (.cmp .NotEq (.b1 .len (.var 10)) (.idx (.var 2) (.lit (.int 2))))) .nil)))) (.cons (.ret (.lit (.bool false))) .nil) .nil) (.cons (.iff (.v (.cmp .NotEq (.idx (.call 18 (.cons (.var 0) (.cons (.tup (.cons (.idx (.var 1) (.lit (.int 0))) (.cons (.tup (.cons (.lit (.int 0)) (.cons (.lit (.int 1)) .nil))) .nil))) (.cons (.var 2) .nil)))) (.lit (.int 1))) (.lit (.int 0)))) (.cons (.ret (.lit (.bool false))) .nil) .nil) (.cons (.iff (.v (.cmp .NotEq (.comp .pure (.lit (.int 1)) (.tp (.cons (.nm 14) (.cons (.nm 15) .nil))) (.zip false (.var 10) (.var 9)) (.some (.v (.cmp .NotIn (.var 14) (.tup (.cons (.lit (.int 0)) (.cons (.var 15) .nil)))))) [14, 15]) (.lst .pure .nil))) (.cons (.ret (.lit (.bool false))) .nil) .nil) (.cons (.forr (.tp (.cons (.nm 11) (.cons (.nm 12) .nil))) (.enum (.var 10)) (.cons (.iff (.and (.cons (.v (.cmp .Gt (.idx (.var 1) (.lit (.int 0))) (.lit (.int 0)))) (.cons (.v (.cmp .Eq (.bin .Mod (.bin .Add (.var 11) (.lit (.int 1))) (.idx (.var 1) (.lit (.int 0)))) (.lit (.int 0)))) (.cons (.v (.cmp .NotEq (.var 12) (.lit (.int 0)))) .nil)))) (.cons (.ret (.lit (.bool false))) .nil) .nil) .nil)) (.cons (.set 3 (.b1 .tuple (.comp .pure (.b1 .tuple (.comp .pure (.bin .FloorDiv (.var 12) (.lit (.int 2))) (.nm 12) (.seq (.var 13)) .none [12])) (.nm 13) (.seq (.var 0)) .none [13]))) (.cons (.set 4 (.b1 .tuple (.comp .pure (.b1 .tuple (.comp .pure (.bin .Mult (.var 12) (.lit (.int 2))) (.nm 12) (.seq (.var 13)) .none [12])) (.nm 13) (.seq (.var 3)) .none [13]))) (.cons (.iff (.v (.cmp .NotEq (.idx (.call 18 (.cons (.var 4) (.cons (.var 1) (.cons (.var 2) .nil)))) (.lit (.int 0))) (.bin .Mult (.lit (.int 2)) (.idx (.call 18 (.cons (.var 3) (.cons (.var 1) (.cons (.var 2) .nil)))) (.lit (.int 0)))))) (.cons (.ret (.lit (.bool false))) .nil) .nil) (.cons (.set 5 (.bin .Add (.slc (.var 0) (.some (.lit (.int 1))) .none) (.slc (.var 0) .none (.some (.lit (.int 1)))))) (.cons (.ret (.cmp .Eq (.call 17 (.cons (.var 5) (.cons (.var 1) (.cons (.bin .Add (.tup (.cons (.bin .Add (.bin .Mod (.bin .Add (.idx (.var 2) (.lit (.int 0))) (.lit (.int 1))) (.lit (.int 3))) (.lit (.int 1))) .nil)) (.slc (.var 2) (.some (.lit (.int 1))) .none)) .nil)))) (.var 10))) .nil)))))))))))⟩⟩
/-- law -/
def f27 : Dr := ⟨top 44, "law", ["_law_script"], ["_law_script", "_law_k", "_law_pen_here", "_law_turn", "_law_stay_here", "_law_later", "_law_short", "_law_prices_here", "_law_rule_here"], ⟨1, 9, (.cons (.forr (.nm 1) (.rng1 (.b2 .max (.lit (.int 1)) (.b2 .min (.b1 .len (.var 0)) (.lit (.int 4))))) (.cons (.set 2 (.call 20 (.cons (.call 19 (.cons (.var 0) (.cons (.var 1) .nil))) .nil))) (.cons (.forr (.nm 3) (.rng1 (.lit (.int 4))) (.cons (.par 7 8 (.call 23 (.cons (.var 2) .nil)) (.call 24 (.cons (.var 2) .nil))) (.cons (.set 4 (.call 22 (.cons (.var 2) .nil))) (.cons (.iff (.not (.v (.call 26 (.cons (.var 7) (.cons (.var 8) (.cons (.var 4) .nil)))))) (.cons (.ret (.lit (.bool false))) .nil) .nil) (.cons (.set 5 (.tup (.cons (.idx (.var 4) (.lit (.int 0))) (.cons (.bin .Add (.bin .Mod (.idx (.var 4) (.lit (.int 1))) (.lit (.int 14))) (.lit (.int 7))) (.cons (.idx (.var 4) (.lit (.int 2))) .nil))))) (.cons (.iff (.v (.cmp .NotEq (.call 17 (.cons (.var 7) (.cons (.var 8) (.cons (.var 5) .nil)))) (.call 17 (.cons (.var 7) (.cons (.var 8) (.cons (.tup (.cons (.idx (.var 4) (.lit (.int 0))) (.cons (.bin .Mod (.idx (.var 4) (.lit (.int 1))) (.lit (.int 14))) (.cons (.idx (.var 4) (.lit (.int 2))) .nil)))) .nil)))))) (.cons (.ret (.lit (.bool false))) .nil) .nil) (.cons (.set 6 (.tup (.cons (.idx (.var 4) (.lit (.int 0))) (.cons (.bin .Mod (.idx (.var 4) (.lit (.int 1))) (.lit (.int 13))) (.cons (.bin .Add (.lit (.int 2)) (.bin .Mod (.idx (.var 4) (.lit (.int 2))) (.lit (.int 7)))) .nil))))) (.cons (.iff (.not (.v (.call 25 (.cons (.var 7) (.cons (.idx (.var 8) (.lit (.int 1))) (.cons (.var 6) (.cons (.bin .Add (.lit (.int 1)) (.call 21 (.cons (.var 2) (.cons (.bin .Sub (.idx (.var 6) (.lit (.int 2))) (.lit (.int 1))) .nil)))) .nil))))))) (.cons (.ret (.lit (.bool false))) .nil) .nil) .nil)))))))) .nil))) (.cons (.ret (.lit (.bool true))) .nil))⟩⟩
def drs : List Dr := [f0, f1, f2, f3, f4, f5, f6, f7, f8, f9, f10, f11, f12, f13, f14, f15, f16, f17, f18, f19, f20, f21, f22, f23, f24, f25, f26, f27]
def cns : List (Str × PyData) := [("MOST_KIND", (.int 3)), ("MOST_FIRST", (.int 20)), ("MOST_NIGHTS", (.int 8)), ("KINDS", (.int 3)), ("WEEK", (.int 7)), ("MOST_PRICE", (.int 1000)), ("LEAST_EVERY", (.int 2)), ("MOST_EVERY", (.int 8))]
theorem b0 : f0.Bind := fun _ _ _ _ _ _ us hl => match us, hl with | [_], _ => rfl
theorem b1 : f1.Bind := fun _ _ _ _ _ _ us hl => match us, hl with | [_, _, _], _ => rfl
theorem b2 : f2.Bind := fun _ _ _ _ _ _ us hl => match us, hl with | [_, _, _], _ => rfl
theorem b3 : f3.Bind := fun _ _ _ _ _ _ us hl => match us, hl with | [_], _ => rfl
theorem b4 : f4.Bind := fun _ _ _ _ _ _ us hl => match us, hl with | [_], _ => rfl
theorem b5 : f5.Bind := fun _ _ _ _ _ _ us hl => match us, hl with | [_], _ => rfl
theorem b6 : f6.Bind := fun _ _ _ _ _ _ us hl => match us, hl with | [_, _], _ => rfl
theorem b7 : f7.Bind := fun _ _ _ _ _ _ us hl => match us, hl with | [_], _ => rfl
theorem b8 : f8.Bind := fun _ _ _ _ _ _ us hl => match us, hl with | [_, _, _], _ => rfl
theorem b9 : f9.Bind := fun _ _ _ _ _ _ us hl => match us, hl with | [_], _ => rfl
theorem b10 : f10.Bind := fun _ _ _ _ _ _ us hl => match us, hl with | [_], _ => rfl
theorem b11 : f11.Bind := fun _ _ _ _ _ _ us hl => match us, hl with | [_], _ => rfl
theorem b12 : f12.Bind := fun _ _ _ _ _ _ us hl => match us, hl with | [_], _ => rfl
theorem b13 : f13.Bind := fun _ _ _ _ _ _ us hl => match us, hl with | [_], _ => rfl
theorem b14 : f14.Bind := fun _ _ _ _ _ _ us hl => match us, hl with | [_, _, _, _], _ => rfl
theorem b15 : f15.Bind := fun _ _ _ _ _ _ us hl => match us, hl with | [_, _, _], _ => rfl
theorem b16 : f16.Bind := fun _ _ _ _ _ _ us hl => match us, hl with | [_, _, _], _ => rfl
theorem b17 : f17.Bind := fun _ _ _ _ _ _ us hl => match us, hl with | [_, _, _], _ => rfl
theorem b18 : f18.Bind := fun _ _ _ _ _ _ us hl => match us, hl with | [_, _, _], _ => rfl
theorem b19 : f19.Bind := fun _ _ _ _ _ _ us hl => match us, hl with | [_, _], _ => rfl
theorem b20 : f20.Bind := fun _ _ _ _ _ _ us hl => match us, hl with | [_], _ => rfl
theorem b21 : f21.Bind := fun _ _ _ _ _ _ us hl => match us, hl with | [_, _], _ => rfl
theorem b22 : f22.Bind := fun _ _ _ _ _ _ us hl => match us, hl with | [_], _ => rfl
theorem b23 : f23.Bind := fun _ _ _ _ _ _ us hl => match us, hl with | [_], _ => rfl
theorem b24 : f24.Bind := fun _ _ _ _ _ _ us hl => match us, hl with | [_], _ => rfl
theorem b25 : f25.Bind := fun _ _ _ _ _ _ us hl => match us, hl with | [_, _, _, _], _ => rfl
theorem b26 : f26.Bind := fun _ _ _ _ _ _ us hl => match us, hl with | [_, _, _], _ => rfl
theorem b27 : f27.Bind := fun _ _ _ _ _ _ us hl => match us, hl with | [_], _ => rfl
theorem ok : drs.all (Dr.ok (cns.map (·.1)) (fsOf drs)) = true := by decide +kernel
end K73

namespace K73
open PySem Ev
theorem ph_at {n i : Nat} {d : Dr} (hd : drs[i]? = some d) (vs : List Val) (G : List SO) : phiOf drs cns (n + 1) i vs G = runD ⟨csOf cns, phiOf drs cns n⟩ d.df vs G := congrFun (congrFun (phi_succ hd) vs) G
theorem go {m k i : Nat} {d : Dr} (h : k < m) (hd : drs[i]? = some d) (vs : List Val) (G : List SO) : ∃ n, m = n + 1 ∧ k ≤ n ∧ phiOf drs cns m i vs G = runD ⟨csOf cns, phiOf drs cns n⟩ d.df vs G := by
  obtain ⟨n, rfl⟩ : ∃ n, m = n + 1 := ⟨m - 1, by omega⟩
  exact ⟨n, rfl, by omega, ph_at hd vs G⟩
@[simp] theorem cs0 : csOf cns 0 = some (.int 3) := rfl
@[simp] theorem cs1 : csOf cns 1 = some (.int 20) := rfl
@[simp] theorem cs2 : csOf cns 2 = some (.int 8) := rfl
@[simp] theorem cs3 : csOf cns 3 = some (.int 3) := rfl
@[simp] theorem cs4 : csOf cns 4 = some (.int 7) := rfl
@[simp] theorem cs5 : csOf cns 5 = some (.int 1000) := rfl
@[simp] theorem cs6 : csOf cns 6 = some (.int 2) := rfl
@[simp] theorem cs7 : csOf cns 7 = some (.int 8) := rfl
def rowD (r : List Int) : PyData := .tuple (r.map .int)
def prD (rows : List (List Int)) : PyData := .tuple (rows.map rowD)
def ruD (e t b : Int) : PyData := .tuple [.int e, .tuple [.int t, .int b]]
def stD (k f n : Int) : PyData := .tuple [.int k, .int f, .int n]
def OkRow (r : List Int) : Prop := r.length = 7 ∧ ∀ x ∈ r, 0 ≤ x ∧ x ≤ 1000
def OkP (rows : List (List Int)) : Prop := rows.length = 3 ∧ ∀ r ∈ rows, OkRow r
def OkT (t b : Int) : Prop := (t = 0 ∧ b = 1) ∨ (t = 1 ∧ b = 1) ∨ (t = 1 ∧ b = 5) ∨ (t = 7 ∧ b = 100) ∨ (t = 1 ∧ b = 3) ∨ (t = 2 ∧ b = 7)
def OkE (e : Int) : Prop := e = 0 ∨ (2 ≤ e ∧ e ≤ 8)
structure OkS (k f n : Int) : Prop where
  k1 : 1 ≤ k
  k3 : k ≤ 3
  f0 : 0 ≤ f
  f1 : f ≤ 20
  n1 : 1 ≤ n
  n8 : n ≤ 8
section
variable {m : Nat} {G : List SO}
theorem p0 (h : 0 < m) (hG : noG G = true) (x : Int) : phiOf drs cns m 0 [.d (.int x)] G = some (.d (.bool true), G) := by
  obtain ⟨n, rfl, hn, e⟩ := go h (i := 0) rfl [.d (.int x)] G
  rw [e]
  simp [f0, runD, startL, isiD, PyData.isInt, PyData.isBool, hG]
theorem p1 (h : 1 < m) (hG : noG G = true) (x a b : Int) : phiOf drs cns m 1 [.d (.int x), .d (.int a), .d (.int b)] G = some (.d (.bool (decide (a ≤ x) && decide (x ≤ b))), G) := by
  obtain ⟨n, rfl, hn, e⟩ := go h (i := 1) rfl [.d (.int x), .d (.int a), .d (.int b)] G
  rw [e]
  simp [f1, runD, startL, hG, p0 (m := n) (by omega) hG]
  by_cases h1 : a ≤ x <;> simp [h1, hG]
theorem p2 (h : 0 < m) (hG : noG G = true) (xs : List PyData) (a b : Int) : phiOf drs cns m 2 [.d (.tuple xs), .d (.int a), .d (.int b)] G = some (.d (.bool (decide (a ≤ xs.length) && decide (xs.length ≤ b))), G) := by
  obtain ⟨n, rfl, hn, e⟩ := go h (i := 2) rfl [.d (.tuple xs), .d (.int a), .d (.int b)] G
  rw [e]
  simp [f2, runD, startL, hG, isiD, PyData.isTuple]
  by_cases h1 : a ≤ xs.length <;> simp [h1, hG]
theorem p3 (h : 2 < m) (hG : noG G = true) (x : Int) : phiOf drs cns m 3 [.d (.int x)] G = some (.d (.bool (decide (1 ≤ x) && decide (x ≤ 3))), G) := by
  obtain ⟨n, rfl, hn, e⟩ := go h (i := 3) rfl [.d (.int x)] G
  rw [e]
  simp [f3, runD, startL, hG, p1 (m := n) (by omega) hG]
theorem p4 (h : 3 < m) (hG : noG G = true) {k f t : Int} (o : OkS k f t) : phiOf drs cns m 4 [.d (stD k f t)] G = some (.d (.bool true), G) := by
  obtain ⟨n, rfl, hn, e⟩ := go h (i := 4) rfl [.d (stD k f t)] G
  rw [e]
  simp [f4, runD, startL, hG, stD, p1 (m := n) (by omega) hG, p2 (m := n) (by omega) hG, p3 (m := n) (by omega) hG, o.k1, o.k3, o.f0, o.f1, o.n1, o.n8]
theorem p5 (h : 4 < m) (hG : noG G = true) {k f t : Int} (o : OkS k f t) : phiOf drs cns m 5 [.d (stD k f t)] G = some (.d .none, G) := by
  obtain ⟨n, rfl, hn, e⟩ := go h (i := 5) rfl [.d (stD k f t)] G
  rw [e]
  simp [f5, runD, startL, hG, p4 (m := n) (by omega) hG o]
theorem p6 (h : 0 < m) (hG : noG G = true) {t b : Int} (o : OkT t b) : phiOf drs cns m 6 [.d (.int t), .d (.int b)] G = some (.d (.int 1), G) := by
  obtain ⟨n, rfl, hn, e⟩ := go h (i := 6) rfl [.d (.int t), .d (.int b)] G
  rw [e]
  rcases o with ⟨rfl, rfl⟩ | ⟨rfl, rfl⟩ | ⟨rfl, rfl⟩ | ⟨rfl, rfl⟩ | ⟨rfl, rfl⟩ | ⟨rfl, rfl⟩ <;> simp [f6, runD, startL, hG, mod_i]
theorem OkT.pos {t b : Int} (o : OkT t b) : 0 < b ∧ 0 ≤ t ∧ t ≤ b ∧ b ≤ 100 := by
  rcases o with ⟨rfl, rfl⟩ | ⟨rfl, rfl⟩ | ⟨rfl, rfl⟩ | ⟨rfl, rfl⟩ | ⟨rfl, rfl⟩ | ⟨rfl, rfl⟩ <;> decide
theorem p7 (h : 1 < m) (hG : noG G = true) {t b : Int} (o : OkT t b) : phiOf drs cns m 7 [.d (.tuple [.int t, .int b])] G = some (.d (.bool true), G) := by
  obtain ⟨n, rfl, hn, e⟩ := go h (i := 7) rfl [.d (.tuple [.int t, .int b])] G
  rw [e]
  simp [f7, runD, startL, hG, isiD, PyData.isTuple, p0 (m := n) (by omega) hG, p6 (m := n) (by omega) hG o, o.pos.1]
theorem p8 (h : 2 < m) (hG : noG G = true) {t b : Int} (o : OkT t b) : phiOf drs cns m 8 [.d (.tuple [.int t, .int b]), .d (.int 0), .d (.int 1)] G = some (.d (.bool true), G) := by
  obtain ⟨n, rfl, hn, e⟩ := go h (i := 8) rfl [.d (.tuple [.int t, .int b]), .d (.int 0), .d (.int 1)] G
  rw [e]
  have s0 : small 0 = true := rfl
  have s1 : small 1 = true := rfl
  simp [f8, runD, startL, hG, p7 (m := n) (by omega) hG o, mul_i, s0, s1, o.pos.2.1, o.pos.2.2.1]
theorem p9 (h : 2 < m) (hG : noG G = true) {r : List Int} (o : OkRow r) : phiOf drs cns m 9 [.d (rowD r)] G = some (.d (.bool true), G) := by
  obtain ⟨n, rfl, hn, e⟩ := go h (i := 9) rfl [.d (rowD r)] G
  rw [e]
  simp [f9, runD, startL, hG, rowD, p2 (m := n) (by omega) hG, o.1]
  rw [comp_map (r.map .int) (fun _ => .bool true)]
  · simp [o.1, hG, Function.comp_def, bools_mapf (fun _ => true)]
  · simp
  · simp [o.1]
  · intro x hx
    obtain ⟨y, hy, rfl⟩ := List.mem_map.mp hx
    simp [hG, p1 (m := n) (by omega) hG, (o.2 y hy).1, (o.2 y hy).2]
theorem p10 (h : 3 < m) (hG : noG G = true) {rs : List (List Int)} (o : OkP rs) : phiOf drs cns m 10 [.d (prD rs)] G = some (.d (.bool true), G) := by
  obtain ⟨n, rfl, hn, e⟩ := go h (i := 10) rfl [.d (prD rs)] G
  rw [e]
  simp [f10, runD, startL, hG, prD, p2 (m := n) (by omega) hG, o.1]
  rw [comp_map (rs.map rowD) (fun _ => .bool true)]
  · simp [o.1, hG, Function.comp_def, bools_mapf (fun _ => true)]
  · simp
  · simp [o.1]
  · intro x hx
    obtain ⟨y, hy, rfl⟩ := List.mem_map.mp hx
    simp [hG, p9 (m := n) (by omega) hG (o.2 y hy)]
theorem p11 (h : 3 < m) (hG : noG G = true) {q t b : Int} (o : OkE q) (ot : OkT t b) : phiOf drs cns m 11 [.d (ruD q t b)] G = some (.d (.bool true), G) := by
  obtain ⟨n, rfl, hn, e⟩ := go h (i := 11) rfl [.d (ruD q t b)] G
  rw [e]
  have e1 := p8 (m := n) (by omega) hG ot
  rcases o with rfl | o
  · simp [f11, runD, startL, hG, ruD, p2 (m := n) (by omega) hG, e1, p1 (m := n) (by omega) hG]
  · have : ¬ (0 ≤ q ∧ q ≤ 0) := by omega
    simp [f11, runD, startL, hG, ruD, p2 (m := n) (by omega) hG, e1, p1 (m := n) (by omega) hG, o.1, o.2]
    by_cases h1 : 0 ≤ q <;> by_cases h2 : q ≤ 0 <;> simp [h1, h2, hG] <;> omega
theorem p12 (h : 4 < m) (hG : noG G = true) {rs : List (List Int)} (o : OkP rs) : phiOf drs cns m 12 [.d (prD rs)] G = some (.d .none, G) := by
  obtain ⟨n, rfl, hn, e⟩ := go h (i := 12) rfl [.d (prD rs)] G
  rw [e]
  simp [f12, runD, startL, hG, p10 (m := n) (by omega) hG o]
theorem p13 (h : 4 < m) (hG : noG G = true) {q t b : Int} (o : OkE q) (ot : OkT t b) : phiOf drs cns m 13 [.d (ruD q t b)] G = some (.d .none, G) := by
  obtain ⟨n, rfl, hn, e⟩ := go h (i := 13) rfl [.d (ruD q t b)] G
  rw [e]
  simp [f13, runD, startL, hG, p11 (m := n) (by omega) hG o ot]
/-- what a night costs -/
def cost (rs : List (List Int)) (q k f : Int) (p : Nat) : Int := if 0 < q ∧ ((p : Int) + 1) % q = 0 then 0 else (rs.getD (k - 1).toNat []).getD ((f + p) % 7).toNat 0
def nights (rs : List (List Int)) (q k f : Int) (n : Nat) : List Int := (List.range n).map (cost rs q k f)
theorem at_map {α β : Type} {f : α → β} {xs : List α} {i : Int} (d : α) (h0 : 0 ≤ i) (h1 : i < xs.length) : atP (xs.map f) i = some (f (xs.getD i.toNat d)) := by
  rw [atP_nat h0, List.getElem?_map]
  have : i.toNat < xs.length := by omega
  simp [List.getD, this]
theorem p14 (h : 0 < m) (hG : noG G = true) {rs : List (List Int)} {q t b k f c : Int} (oP : OkP rs) (oE : OkE q) (o : OkS k f c) (p : Nat) : phiOf drs cns m 14 [.d (prD rs), .d (ruD q t b), .d (stD k f c), .d (.int p)] G = some (.d (.int (cost rs q k f p)), G) := by
  obtain ⟨n, rfl, hn, e⟩ := go h (i := 14) rfl [.d (prD rs), .d (ruD q t b), .d (stD k f c), .d (.int p)] G
  rw [e]
  have k1 := o.k1
  have k3 := o.k3
  have hk : (k - 1).toNat < rs.length := by rw [oP.1]; omega
  have hrow : (rs.getD (k - 1).toNat []) ∈ rs := by
    rw [List.getD_eq_getElem?_getD, List.getElem?_eq_getElem hk]; exact List.getElem_mem hk
  have hl := (oP.2 _ hrow).1
  clear hrow hk
  have hm0 : 0 ≤ (f + (p : Int)) % 7 := Int.emod_nonneg _ (by decide)
  have hm1 : (f + (p : Int)) % 7 < 7 := Int.emod_lt_of_pos _ (by decide)
  have e1 : atP (rs.map rowD) (k - 1) = some (rowD (rs.getD (k - 1).toNat [])) := at_map [] (by omega) (by rw [oP.1]; omega)
  clear e
  have e2 : atP ((rs.getD (k - 1).toNat []).map PyData.int) ((f + (p : Int)) % 7) = some (.int ((rs.getD (k - 1).toNat []).getD ((f + (p : Int)) % 7).toNat 0)) := at_map 0 hm0 (by rw [hl]; exact hm1)
  unfold cost
  generalize rs.getD (k - 1).toNat [] = row at e1 e2 ⊢
  generalize row.getD ((f + (p : Int)) % 7).toNat 0 = v at e2 ⊢
  by_cases hq : 0 < q
  · by_cases hp : ((p : Int) + 1) % q = 0
    · simp [f14, runD, startL, hG, prD, ruD, stD, mod_i, hq, hp]
    · simp [f14, runD, startL, hG, prD, ruD, stD, mod_i, hq, hp, e1, rowD, e2]
  · simp [f14, runD, startL, hG, prD, ruD, stD, mod_i, hq, e1, rowD, e2]
theorem p15 (h : 1 < m) (hG : noG G = true) {rs : List (List Int)} {q t b k f c : Int} (oP : OkP rs) (oE : OkE q) (o : OkS k f c) : phiOf drs cns m 15 [.d (prD rs), .d (ruD q t b), .d (stD k f c)] G = some (.d (rowD (nights rs q k f c.toNat)), G) := by
  obtain ⟨n, rfl, hn, e⟩ := go h (i := 15) rfl [.d (prD rs), .d (ruD q t b), .d (stD k f c)] G
  rw [e]
  have n1 := o.n1
  have n8 := o.n8
  simp [f15, runD, startL, hG]
  rw [comp_map ((List.range c.toNat).map fun i : Nat => .int (i : Int)) (fun x => match x with | .int i => .int (cost rs q k f i.toNat) | _ => .none)]
  · simp [hG, rowD, nights]
  · simp [stD, rng0 (n := c) (by omega) (by omega)]
  · simp; omega
  · intro x hx
    obtain ⟨i, hi, rfl⟩ := List.mem_map.mp hx
    simp [hG, p14 (m := n) (by omega) hG oP oE o]
theorem p16 (h : 5 < m) (hG : noG G = true) {rs : List (List Int)} {q t b k f c : Int} (oP : OkP rs) (oE : OkE q) (oT : OkT t b) (o : OkS k f c) : phiOf drs cns m 16 [.d (prD rs), .d (ruD q t b), .d (stD k f c)] G = some (.d .none, G) := by
  obtain ⟨n, rfl, hn, e⟩ := go h (i := 16) rfl [.d (prD rs), .d (ruD q t b), .d (stD k f c)] G
  rw [e]
  simp [f16, runD, startL, hG, p12 (m := n) (by omega) hG oP, p13 (m := n) (by omega) hG oE oT, p5 (m := n) (by omega) hG o]
theorem p17 (h : 6 < m) (hG : noG G = true) {rs : List (List Int)} {q t b k f c : Int} (oP : OkP rs) (oE : OkE q) (oT : OkT t b) (o : OkS k f c) : phiOf drs cns m 17 [.d (prD rs), .d (ruD q t b), .d (stD k f c)] G = some (.d (rowD (nights rs q k f c.toNat)), G) := by
  obtain ⟨n, rfl, hn, e⟩ := go h (i := 17) rfl [.d (prD rs), .d (ruD q t b), .d (stD k f c)] G
  rw [e]
  simp [f17, runD, startL, hG, p16 (m := n) (by omega) hG oP oE oT o, p15 (m := n) (by omega) hG oP oE o]
def tax (s t b : Int) : Int := 0 - (0 - s * t) / b
def billD (s t b : Int) : PyData := .tuple [.int s, .int (tax s t b), .int (s + tax s t b)]
theorem p18 (h : 6 < m) (hG : noG G = true) {rs : List (List Int)} {q t b k f c : Int} (oP : OkP rs) (oE : OkE q) (oT : OkT t b) (o : OkS k f c) : phiOf drs cns m 18 [.d (prD rs), .d (ruD q t b), .d (stD k f c)] G = some (.d (billD (nights rs q k f c.toNat).sum t b), G) := by
  obtain ⟨n, rfl, hn, e⟩ := go h (i := 18) rfl [.d (prD rs), .d (ruD q t b), .d (stD k f c)] G
  rw [e]
  obtain ⟨b1, t0, t1, b2⟩ := oT.pos
  have st : small t = true := by unfold small; simp; omega
  simp [f18, runD, startL, hG, p16 (m := n) (by omega) hG oP oE oT o, p15 (m := n) (by omega) hG oP oE o]
  simp [rowD, ruD, billD, tax, mul_i, st, fdiv_i b1 (Int.lt_of_le_of_lt b2 (by decide)), hG]
end
end K73

namespace K73
open PySem Ev
/-! ### draws -/
section
variable {m j k : Nat} {G : List SO}
theorem p19 (h : 0 < m) (hG : noG G = true) (ns : List Int) (k : Nat) : ∃ c : Int, phiOf drs cns m 19 [.s ns, .d (.int k)] G = some (.d (.int c), G) := by
  obtain ⟨n, rfl, hn, e⟩ := go h (i := 19) rfl [.s ns, .d (.int k)] G
  rw [e]
  exact cell_spec hG
theorem p20 (h : 0 < m) (hG : noG G = true) (c : Int) : ∃ G', phiOf drs cns m 20 [.d (.int c)] G = some (.g G.length, G') ∧ Pn G.length 1000000 G' ∧ G'.length = G.length + 1 := by
  obtain ⟨n, rfl, hn, e⟩ := go h (i := 20) rfl [.d (.int c)] G
  rw [e]
  exact pen_spec hG
theorem p21 (h : 0 < m) {M : Int} (P : Pn j (k + 1) G) (h1 : 0 < M) (h2 : M < 1073741824) : ∃ r G', phiOf drs cns m 21 [.g j, .d (.int M)] G = some (.d (.int r), G') ∧ 0 ≤ r ∧ r < M ∧ Pn j k G' := by
  obtain ⟨n, rfl, hn, e⟩ := go h (i := 21) rfl [.g j, .d (.int M)] G
  rw [e]
  exact draw_spec P h1 h2
theorem p22 (h : 1 < m) (P : Pn j (k + 4) G) : ∃ q f c G', phiOf drs cns m 22 [.g j] G = some (.d (stD q f c), G') ∧ OkS q f c ∧ Pn j k G' := by
  obtain ⟨n, rfl, hn, e⟩ := go h (i := 22) rfl [.g j] G
  rw [e]
  obtain ⟨r1, G1, e1, a1, b1, P1⟩ := p21 (m := n) (M := 3) (by omega) P (by decide) (by decide)
  obtain ⟨r2, G2, e2, a2, b2, P2⟩ := p21 (m := n) (M := 21) (by omega) P1 (by decide) (by decide)
  obtain ⟨r3, G3, e3, a3, b3, P3⟩ := p21 (m := n) (M := 3) (by omega) P2 (by decide) (by decide)
  obtain ⟨M, hM, m1, m2⟩ : ∃ M : Int, atP [PyData.int 3, .int 5, .int 8] r3 = some (.int M) ∧ 0 < M ∧ M ≤ 8 := by
    have : r3 = 0 ∨ r3 = 1 ∨ r3 = 2 := by omega
    rcases this with rfl | rfl | rfl
    · exact ⟨3, rfl, by decide, by decide⟩
    · exact ⟨5, rfl, by decide, by decide⟩
    · exact ⟨8, rfl, by decide, by decide⟩
  obtain ⟨r4, G4, e4, a4, b4, P4⟩ := p21 (m := n) (M := M) (by omega) P3 m1 (by omega)
  refine ⟨1 + r1, r2, 1 + r4, G4, ?_, ⟨by omega, by omega, by omega, by omega, by omega, by omega⟩, P4⟩
  simp [f22, runD, startL, P.no, P1.no, P2.no, P3.no, P4.no, e1, e2, e3, e4, hM, stD]
theorem ints_of {R : Int → Prop} : ∀ {ys : List PyData}, (∀ y ∈ ys, ∃ v : Int, y = .int v ∧ R v) → ∃ r : List Int, ys = r.map .int ∧ ∀ v ∈ r, R v
  | [], _ => ⟨[], rfl, by simp⟩
  | y :: ys, h => by
    obtain ⟨v, rfl, hv⟩ := h y List.mem_cons_self
    obtain ⟨r, rfl, hr⟩ := ints_of fun z hz => h z (List.mem_cons_of_mem _ hz)
    exact ⟨v :: r, rfl, by simpa using ⟨hv, hr⟩⟩
theorem rows_of {R : List Int → Prop} : ∀ {ys : List PyData}, (∀ y ∈ ys, ∃ v : List Int, y = rowD v ∧ R v) → ∃ r : List (List Int), ys = r.map rowD ∧ ∀ v ∈ r, R v
  | [], _ => ⟨[], rfl, by simp⟩
  | y :: ys, h => by
    obtain ⟨v, rfl, hv⟩ := h y List.mem_cons_self
    obtain ⟨r, rfl, hr⟩ := rows_of fun z hz => h z (List.mem_cons_of_mem _ hz)
    exact ⟨v :: r, rfl, by simpa using ⟨hv, hr⟩⟩
theorem p23 (h : 1 < m) (P : Pn j (k + 22) G) : ∃ rs G', phiOf drs cns m 23 [.g j] G = some (.d (prD rs), G') ∧ OkP rs ∧ Pn j k G' := by
  obtain ⟨n, rfl, hn, e⟩ := go h (i := 23) rfl [.g j] G
  rw [e]
  obtain ⟨r1, G1, e1, a1, b1, P1⟩ := p21 (m := n) (M := 3) (by omega) P (by decide) (by decide)
  obtain ⟨M, hM, m1, m2⟩ : ∃ M : Int, atP [PyData.int 4, .int 60, .int 1001] r1 = some (.int M) ∧ 0 < M ∧ M ≤ 1001 := by
    have : r1 = 0 ∨ r1 = 1 ∨ r1 = 2 := by omega
    rcases this with rfl | rfl | rfl
    · exact ⟨4, rfl, by decide, by decide⟩
    · exact ⟨60, rfl, by decide, by decide⟩
    · exact ⟨1001, rfl, by decide, by decide⟩
  have inner : ∀ (x : PyData) (q : Nat) (s : Sto), s.L = [] → Pn j (q + 7) s.G → ∃ r s', evE ⟨csOf cns, phiOf drs cns n⟩ (.comp .pure (.call 21 (.cons (.var 0) (.cons (.var 1) .nil))) (.nm 3) (.rng1 (.lit (.int 7))) .none [3]) [some (.g j), some (.d (.int M)), some (.d x), none] s = some (.d (.list (r.map .int)), s') ∧ OkRow r ∧ s'.L = [] ∧ Pn j q s'.G := by
    intro x q s hL hP
    obtain ⟨ys, s', h1, h2, h3, h4, h5⟩ := comp_inv (T := ⟨csOf cns, phiOf drs cns n⟩) (elt := .call 21 (.cons (.var 0) (.cons (.var 1) .nil))) (tg := .nm 3) (it := .rng1 (.lit (.int 7))) (cd := .none) (own := [3]) (e := [some (.g j), some (.d (.int M)), some (.d x), none]) (s := s) (s1 := s)
      (fun t s => s.L = [] ∧ Pn j (q + t) s.G) (fun y => ∃ v : Int, y = .int v ∧ (0 ≤ v ∧ v ≤ 1000)) ((List.range 7).map fun i : Nat => .int (i : Int)) (by simp [rng0 (n := 7) (by decide) (by decide)]) (by simp) ⟨hL, by simpa using hP⟩ (fun y t s hy hI => by
        obtain ⟨r, G', er, ar, br, Pr⟩ := p21 (m := n) (M := M) (by omega) (show Pn j (q + t + 1) s.G from hI.2) m1 (by omega)
        exact ⟨.int r, { s with G := G' }, by simp [hI.2.no, er], ⟨r, rfl, ar, by omega⟩, hI.1, Pr⟩)
    obtain ⟨r, rfl, hr⟩ := ints_of h3
    exact ⟨r, s', h1, ⟨by simpa using h2, hr⟩, h4, h5⟩
  obtain ⟨ys, s', h1, h2, h3, h4, h5⟩ := comp_inv (T := ⟨csOf cns, phiOf drs cns n⟩) (elt := .b1 .tuple (.comp .pure (.call 21 (.cons (.var 0) (.cons (.var 1) .nil))) (.nm 3) (.rng1 (.lit (.int 7))) .none [3])) (tg := .nm 2) (it := .rng1 (.lit (.int 3))) (cd := .none) (own := [2]) (e := [some (.g j), some (.d (.int M)), none, none]) (s := ⟨[], G1⟩) (s1 := ⟨[], G1⟩)
      (fun t s => s.L = [] ∧ Pn j (k + 7 * t) s.G) (fun y => ∃ v : List Int, y = rowD v ∧ OkRow v) ((List.range 3).map fun i : Nat => .int (i : Int)) (by simp [rng0 (n := 3) (by decide) (by decide)]) (by simp) ⟨rfl, by simpa using P1⟩ (fun y t s hy hI => by
        obtain ⟨r, s', er, hr, hL, Pr⟩ := inner y (k + 7 * t) s hI.1 (show Pn j (k + 7 * t + 7) s.G from hI.2)
        exact ⟨rowD r, s', by simp [er, rowD], ⟨r, rfl, hr⟩, hL, Pr⟩)
  obtain ⟨rs, rfl, hr⟩ := rows_of h3
  refine ⟨rs, s'.G, ?_, ⟨by simpa using h2, hr⟩, h5⟩
  simp [f23, runD, startL, P.no, P1.no, e1, hM, h1, h5.no, prD]
theorem p24 (h : 1 < m) (P : Pn j (k + 2) G) : ∃ q t b G', phiOf drs cns m 24 [.g j] G = some (.d (ruD q t b), G') ∧ OkE q ∧ OkT t b ∧ Pn j k G' := by
  obtain ⟨n, rfl, hn, e⟩ := go h (i := 24) rfl [.g j] G
  rw [e]
  obtain ⟨r1, G1, e1, a1, b1, P1⟩ := p21 (m := n) (M := 6) (by omega) P (by decide) (by decide)
  obtain ⟨r2, G2, e2, a2, b2, P2⟩ := p21 (m := n) (M := 8) (by omega) P1 (by decide) (by decide)
  obtain ⟨t, b, hM, ot⟩ : ∃ t b : Int, atP [PyData.tuple [.int 0, .int 1], .tuple [.int 1, .int 1], .tuple [.int 1, .int 5], .tuple [.int 7, .int 100], .tuple [.int 1, .int 3], .tuple [.int 2, .int 7]] r1 = some (.tuple [.int t, .int b]) ∧ OkT t b := by
    have : r1 = 0 ∨ r1 = 1 ∨ r1 = 2 ∨ r1 = 3 ∨ r1 = 4 ∨ r1 = 5 := by omega
    rcases this with rfl | rfl | rfl | rfl | rfl | rfl
    · exact ⟨0, 1, rfl, by unfold OkT; decide⟩
    · exact ⟨1, 1, rfl, by unfold OkT; decide⟩
    · exact ⟨1, 5, rfl, by unfold OkT; decide⟩
    · exact ⟨7, 100, rfl, by unfold OkT; decide⟩
    · exact ⟨1, 3, rfl, by unfold OkT; decide⟩
    · exact ⟨2, 7, rfl, by unfold OkT; decide⟩
  obtain ⟨q, hq, oq⟩ : ∃ q : Int, atP [PyData.int 0, .int 2, .int 3, .int 4, .int 5, .int 6, .int 7, .int 8] r2 = some (.int q) ∧ OkE q := by
    have : r2 = 0 ∨ r2 = 1 ∨ r2 = 2 ∨ r2 = 3 ∨ r2 = 4 ∨ r2 = 5 ∨ r2 = 6 ∨ r2 = 7 := by omega
    unfold OkE
    rcases this with rfl | rfl | rfl | rfl | rfl | rfl | rfl | rfl
    · exact ⟨0, rfl, by decide⟩
    · exact ⟨2, rfl, by decide⟩
    · exact ⟨3, rfl, by decide⟩
    · exact ⟨4, rfl, by decide⟩
    · exact ⟨5, rfl, by decide⟩
    · exact ⟨6, rfl, by decide⟩
    · exact ⟨7, rfl, by decide⟩
    · exact ⟨8, rfl, by decide⟩
  refine ⟨q, t, b, G2, ?_, oq, ot, P2⟩
  simp [f24, runD, startL, P.no, P1.no, P2.no, e1, e2, hM, hq, ruD]
end
end K73

namespace K73
open PySem Ev
/-! ### the plain laws -/
theorem nights_len (rs q k f n) : (nights rs q k f n).length = n := by simp [nights]
theorem nights_app (rs : List (List Int)) (k f : Int) (a b : Nat) : nights rs 0 k f (a + b) = nights rs 0 k f a ++ nights rs 0 k (f + a) b := by
  unfold nights
  rw [List.range_add, List.map_append, List.map_map]
  congr 1
  refine List.map_congr_left fun p _ => ?_
  unfold cost
  simp only [Function.comp, Int.lt_irrefl, false_and, if_false]
  congr 2
  omega
theorem tax_le (a b t d : Int) (hd : 0 < d) : tax (a + b) t d ≤ tax a t d + tax b t d ∧ tax a t d + tax b t d ≤ tax (a + b) t d + 1 := by
  unfold tax
  have e : (0 - (a + b) * t) = (0 - a * t) + (0 - b * t) := by rw [Int.add_mul]; omega
  rw [e]
  generalize 0 - a * t = x
  generalize 0 - b * t = y
  have h1 := Int.mul_ediv_add_emod x d
  have h2 := Int.mul_ediv_add_emod y d
  have h3 := Int.mul_ediv_add_emod (x + y) d
  have a1 := Int.emod_nonneg x (Int.ne_of_gt hd)
  have a2 := Int.emod_nonneg y (Int.ne_of_gt hd)
  have a3 := Int.emod_nonneg (x + y) (Int.ne_of_gt hd)
  have b1 := Int.emod_lt_of_pos x hd
  have b2 := Int.emod_lt_of_pos y hd
  have b3 := Int.emod_lt_of_pos (x + y) hd
  generalize x / d = p at *
  generalize y / d = q at *
  generalize (x + y) / d = r at *
  have k1 : d * (r - p - q) < d * 2 := by rw [Int.mul_sub, Int.mul_sub]; omega
  have k2 : d * (-1) < d * (r - p - q) := by rw [Int.mul_sub, Int.mul_sub]; omega
  have l1 := Int.lt_of_mul_lt_mul_left k1 (Int.le_of_lt hd)
  have l2 := Int.lt_of_mul_lt_mul_left k2 (Int.le_of_lt hd)
  omega
theorem tax_0 (a : Int) : tax a 0 1 = 0 := by unfold tax; simp
theorem cost_or (rs q k f p) : cost rs q k f p = 0 ∨ cost rs q k f p = cost rs 0 k f p := by
  unfold cost
  by_cases h : 0 < q ∧ ((p : Int) + 1) % q = 0
  · exact .inl (if_pos h)
  · right
    rw [if_neg h, if_neg (by simp)]
theorem cost_free {rs q k f p} (h : 0 < q) (h2 : ((p : Nat) + 1 : Int) % q = 0) : cost rs q k f p = 0 := if_pos ⟨h, h2⟩
def half (rs : List (List Int)) : List (List Int) := rs.map fun r => r.map (· / 2)
def twice (rs : List (List Int)) : List (List Int) := rs.map fun r => r.map (· * 2)
theorem ok_half {rs} (o : OkP rs) : OkP (half rs) := by
  refine ⟨by simp [half, o.1], fun r hr => ?_⟩
  obtain ⟨r0, h0, rfl⟩ := List.mem_map.mp hr
  refine ⟨by simp [(o.2 r0 h0).1], fun x hx => ?_⟩
  obtain ⟨y, hy, rfl⟩ := List.mem_map.mp hx
  have := (o.2 r0 h0).2 y hy
  constructor <;> omega
theorem ok_twice {rs} (o : OkP rs) : OkP (twice (half rs)) := by
  refine ⟨by simp [half, twice, o.1], fun r hr => ?_⟩
  obtain ⟨r0, h0, rfl⟩ := List.mem_map.mp hr
  obtain ⟨r1, h1, rfl⟩ := List.mem_map.mp h0
  refine ⟨by simp [(o.2 r1 h1).1], fun x hx => ?_⟩
  obtain ⟨y, hy, rfl⟩ := List.mem_map.mp hx
  obtain ⟨z, hz, rfl⟩ := List.mem_map.mp hy
  have := (o.2 r1 h1).2 z hz
  constructor <;> omega
theorem getD_twice (rs : List (List Int)) (i j : Nat) : ((twice rs).getD i []).getD j 0 = 2 * (rs.getD i []).getD j 0 := by
  unfold twice
  simp only [List.getD_eq_getElem?_getD, List.getElem?_map]
  cases rs[i]? with
  | none => simp
  | some r =>
    simp only [Option.map_some, Option.getD_some, List.getElem?_map]
    cases r[j]? with
    | none => simp
    | some x => simp only [Option.map_some, Option.getD_some]; omega
theorem sum_twice (rs q k f n) : (nights (twice rs) q k f n).sum = 2 * (nights rs q k f n).sum := by
  unfold nights
  induction (List.range n) with
  | nil => rfl
  | cons p r ih =>
    rw [List.map_cons, List.map_cons, List.sum_cons, List.sum_cons, ih, Int.mul_add]
    congr 1
    unfold cost
    split
    · rfl
    · exact getD_twice rs _ _
theorem nights_turned {rs : List (List Int)} {q k f : Int} {n : Nat} (o : OkP rs) (k1 : 1 ≤ k) (k3 : k ≤ 3) : nights (rs.drop 1 ++ rs.take 1) q ((k + 1) % 3 + 1) f n = nights rs q k f n := by
  obtain ⟨h3, _⟩ := o
  match rs, h3 with
  | [a, b, c], _ =>
    unfold nights
    refine List.map_congr_left fun p _ => ?_
    unfold cost
    have : k = 1 ∨ k = 2 ∨ k = 3 := by omega
    rcases this with rfl | rfl | rfl <;> rfl
theorem ok_turned {rs} (o : OkP rs) : OkP (rs.drop 1 ++ rs.take 1) := by
  obtain ⟨h3, h⟩ := o
  match rs, h3 with
  | [a, b, c], _ => exact ⟨rfl, fun r hr => h r (by simp at hr ⊢; rcases hr with e | e | e <;> simp [e])⟩
theorem nights_mod {rs q k n} (f : Int) : nights rs q k (f % 14 + 7) n = nights rs q k (f % 14) n := by
  unfold nights
  refine List.map_congr_left fun p _ => ?_
  unfold cost
  have : (f % 14 + 7 + (p : Int)) % 7 = (f % 14 + (p : Int)) % 7 := by omega
  rw [this]
end K73

namespace K73
open PySem Ev
section
variable {m j k : Nat} {G : List SO}
theorem oE0 : OkE 0 := .inl rfl
theorem eqR (a b : List Int) : eqD (rowD a) (rowD b) = some (decide (a = b)) := eqD_row a b
theorem lenR (a : List Int) : b1D .len (rowD a) = some (.int a.length) := by unfold rowD; simp
theorem sumR (a : List Int) : b1D .sum (rowD a) = some (.int a.sum) := by unfold rowD; simp
theorem rowD_add (a b : List Int) (h : a.length + b.length ≤ 16777216) : binD .Add (rowD a) (rowD b) = some (rowD (a ++ b)) := by
  unfold rowD
  simp [h]
theorem p25 (h : 7 < m) (hG : noG G = true) {rs : List (List Int)} {t b q f c u : Int} (oP : OkP rs) (oT : OkT t b) (o : OkS q f c) (u1 : 1 ≤ u) (u2 : u < c) (hf : f + u ≤ 20) :
    phiOf drs cns m 25 [.d (prD rs), .d (.tuple [.int t, .int b]), .d (stD q f c), .d (.int u)] G = some (.d (.bool true), G) := by
  obtain ⟨n, rfl, hn, e⟩ := go h (i := 25) rfl [.d (prD rs), .d (.tuple [.int t, .int b]), .d (stD q f c), .d (.int u)] G
  rw [e]
  have o1 : OkS q f u := ⟨o.k1, o.k3, o.f0, o.f1, u1, by have := o.n8; omega⟩
  have o2 : OkS q (f + u) (c - u) := ⟨o.k1, o.k3, by have := o.f0; omega, hf, by omega, by have := o.n8; omega⟩
  have a0 := p17 (m := n) (by omega) hG oP oE0 oT o
  have a1 := p17 (m := n) (by omega) hG oP oE0 oT o1
  have a2 := p17 (m := n) (by omega) hG oP oE0 oT o2
  have c0 := p18 (m := n) (by omega) hG oP oE0 oT o
  have c1 := p18 (m := n) (by omega) hG oP oE0 oT o1
  have c2 := p18 (m := n) (by omega) hG oP oE0 oT o2
  have en : nights rs 0 q f c.toNat = nights rs 0 q f u.toNat ++ nights rs 0 q (f + u) (c - u).toNat := by
    have e1 : c.toNat = u.toNat + (c - u).toNat := by omega
    rw [e1, nights_app]
    congr 2
    omega
  rw [en] at a0 c0
  rw [List.sum_append] at c0
  have ra := rowD_add (nights rs 0 q f u.toNat) (nights rs 0 q (f + u) (c - u).toNat) (by rw [nights_len, nights_len]; have := o.n8; omega)
  generalize nights rs 0 q f u.toNat = x at *
  generalize nights rs 0 q (f + u) (c - u).toNat = y at *
  obtain ⟨t1, t2⟩ := tax_le x.sum y.sum t b oT.pos.1
  simp only [stD, ruD] at a0 a1 a2 c0 c1 c2
  simp [f25, runD, startL, hG, stD, a0, a1, a2, ra, eqR, c0, c1, c2, billD, t1, t2]
theorem flt_none {α β : Type} (xs : List α) : xs.filterMap (fun _ => (none : Option β)) = [] := by
  induction xs with
  | nil => rfl
  | cons a r ih => rw [List.filterMap_cons]; exact ih
theorem eqD_nil : eqD (.list []) (.list []) = some true := eqD_rowL [] []
theorem ru0 (q t b : Int) : idxD (ruD q t b) (.int 0) = some (.int q) := rfl
theorem ru1 (q t b : Int) : idxD (ruD q t b) (.int 1) = some (.tuple [.int t, .int b]) := rfl
theorem st0 (a b c : Int) : idxD (stD a b c) (.int 0) = some (.int a) := rfl
theorem st1 (a b c : Int) : idxD (stD a b c) (.int 1) = some (.int b) := rfl
theorem st2 (a b c : Int) : idxD (stD a b c) (.int 2) = some (.int c) := rfl
theorem bi0 (s t b : Int) : idxD (billD s t b) (.int 0) = some (.int s) := rfl
theorem bi1 (s t b : Int) : idxD (billD s t b) (.int 1) = some (.int (tax s t b)) := rfl
theorem nights_map (rs q k f n) : rowD (nights rs q k f n) = .tuple ((List.range n).map fun p => .int (cost rs q k f p)) := by
  unfold rowD nights
  rw [List.map_map]; rfl
abbrev TT (n : Nat) : Tx := ⟨csOf cns, phiOf drs cns n⟩
/-- row by row -/
theorem each_row {T : Tx} {n : Nat} {e : Lv} {s : Sto} {rs : List (List Int)} {src : Nat} (g : Int → Int) (elt : Ex) (i12 : 12 < e.length) (i13 : 13 < e.length) (hs : e[src]? = some (some (.d (prD rs)))) (hl : rs.length ≤ 100) (hr : ∀ r ∈ rs, r.length ≤ 100)
    (he : ∀ (e' : Lv) (x : Int), e'[12]? = some (some (.d (.int x))) → evE T elt e' s = some (.d (.int (g x)), s)) :
    evE T (.comp .pure (.b1 .tuple (.comp .pure elt (.nm 12) (.seq (.var 13)) .none [12])) (.nm 13) (.seq (.var src)) .none [13]) e s = some (.d (.list ((rs.map fun r => r.map g).map rowD)), s) := by
  rw [comp_map (rs.map rowD) (fun x => match x with | .tuple xs => .tuple (xs.map fun y => match y with | .int v => .int (g v) | _ => .none) | _ => .none)]
  · rw [List.map_map, List.map_map]
    have em : List.map ((fun x => match x with | PyData.tuple xs => PyData.tuple (xs.map fun y => match y with | PyData.int v => PyData.int (g v) | _ => PyData.none) | _ => PyData.none) ∘ rowD) rs = List.map (rowD ∘ fun r => r.map g) rs := by
      refine List.map_congr_left fun r _ => ?_
      simp [rowD, Function.comp_def]
    rw [em]
  · simp [hs, prD]
  · simp; omega
  · intro x hx
    obtain ⟨r, hr', rfl⟩ := List.mem_map.mp hx
    have e13 : ((e.set 13 none).set 13 (some (.d (rowD r))))[13]? = some (some (.d (rowD r))) := by simp [i13]
    have inner : evE T (.comp .pure elt (.nm 12) (.seq (.var 13)) .none [12]) ((e.set 13 none).set 13 (some (.d (rowD r)))) s = some (.d (.list ((r.map PyData.int).map fun y => match y with | PyData.int v => PyData.int (g v) | _ => PyData.none)), s) := by
      rw [comp_map (r.map .int) (fun y => match y with | .int v => .int (g v) | _ => .none)]
      · simp only [x_seq, x_var, bd_ap, x_varE, e13]
        simp [rowD]
      · have := hr r hr'
        simp; omega
      · intro y hy
        obtain ⟨v, hv, rfl⟩ := List.mem_map.mp hy
        have e12 : ((((e.set 13 none).set 13 (some (.d (rowD r)))).set 12 none).set 12 (some (.d (.int v))))[12]? = some (some (.d (.int v))) := by simp [i12]
        simp only [compF_pure, wipe_cons, wipe_nil, x_nm, Option.bind_some, x_C0, rt_ap, he _ v e12, if_true, keep_d, Option.map_some]
    simp only [compF_pure, wipe_cons, wipe_nil, x_nm, Option.bind_some, x_C0, rt_ap, if_true, x_b1, bd_ap, inner, b1V_d, tup_l, Option.map_some, keep_d]
    rfl
theorem p26 (h : 7 < m) (hG : noG G = true) {rs : List (List Int)} {q t b z f c : Int} (oP : OkP rs) (oE : OkE q) (oT : OkT t b) (o : OkS z f c) :
    phiOf drs cns m 26 [.d (prD rs), .d (ruD q t b), .d (stD z f c)] G = some (.d (.bool true), G) := by
  obtain ⟨n, rfl, hn, e⟩ := go h (i := 26) rfl [.d (prD rs), .d (ruD q t b), .d (stD z f c)] G
  rw [e]
  have oT0 : OkT 0 1 := .inl ⟨rfl, rfl⟩
  have z1 := o.k1
  have z3 := o.k3
  have n1 := o.n1
  have n8 := o.n8
  have oz : OkS ((z + 1) % 3 + 1) f c := ⟨by omega, by omega, o.f0, o.f1, o.n1, o.n8⟩
  have a0 := p18 (m := n) (by omega) hG oP oE oT o
  have a1 := p17 (m := n) (by omega) hG oP oE0 oT o
  have a2 := p17 (m := n) (by omega) hG oP oE oT o
  have a3 := p18 (m := n) (by omega) hG oP oE oT0 o
  have a4 := p18 (m := n) (by omega) hG (ok_half oP) oE oT o
  have a5 := p18 (m := n) (by omega) hG (ok_twice oP) oE oT o
  have a6 := p17 (m := n) (by omega) hG (ok_turned oP) oE oT oz
  rw [nights_turned oP z1 z3] at a6
  rw [sum_twice] at a5
  have hl : (nights rs q z f c.toNat).length = c.toNat := nights_len _ _ _ _ _
  have hc : ((c.toNat : Nat) : Int) = c := by omega
  have hzip : ∀ x6 x7 x8, evE (TT n) (.comp .pure (.lit (.int 1)) (.tp (.cons (.nm 14) (.cons (.nm 15) .nil))) (.zip false (.var 10) (.var 9)) (.some (.v (.cmp .NotIn (.var 14) (.tup (.cons (.lit (.int 0)) (.cons (.var 15) .nil)))))) [14, 15])
      [some (.d (prD rs)), some (.d (ruD q t b)), some (.d (stD z f c)), none, none, none, x6, x7, x8, some (.d (rowD (nights rs 0 z f c.toNat))), some (.d (rowD (nights rs q z f c.toNat))), none, none, none, none, none] ⟨[], G⟩ = some (.d (.list []), ⟨[], G⟩) := fun x6 x7 x8 => by
    rw [comp_flt ((List.range c.toNat).map fun p => .tuple [.int (cost rs q z f p), .int (cost rs 0 z f p)]) (fun _ => none)]
    · rw [flt_none]
    · simp [nights_map, zipD_map]
    · simp; omega
    · intro x hx
      obtain ⟨p, hp, rfl⟩ := List.mem_map.mp hx
      have key : inD (.int (cost rs q z f p)) (.tuple [.int 0, .int (cost rs 0 z f p)]) = some true := by
        have := inD_row (cost rs q z f p) [0, cost rs 0 z f p]
        rw [show ([0, cost rs 0 z f p] : List Int).map PyData.int = [.int 0, .int (cost rs 0 z f p)] from rfl] at this
        rw [this]
        rcases cost_or rs q z f p with e | e
        · simp [e]
        · simp [← e]
      simp [key]
  have hfor : ∀ x6 x7 x8, ∃ u v, evS (TT n) (.forr (.tp (.cons (.nm 11) (.cons (.nm 12) .nil))) (.enum (.var 10)) (.cons (.iff (.and (.cons (.v (.cmp .Gt (.idx (.var 1) (.lit (.int 0))) (.lit (.int 0)))) (.cons (.v (.cmp .Eq (.bin .Mod (.bin .Add (.var 11) (.lit (.int 1))) (.idx (.var 1) (.lit (.int 0)))) (.lit (.int 0)))) (.cons (.v (.cmp .NotEq (.var 12) (.lit (.int 0)))) .nil)))) (.cons (.ret (.lit (.bool false))) .nil) .nil) .nil))
      [some (.d (prD rs)), some (.d (ruD q t b)), some (.d (stD z f c)), none, none, none, x6, x7, x8, some (.d (rowD (nights rs 0 z f c.toNat))), some (.d (rowD (nights rs q z f c.toNat))), none, none, none, none, none] ⟨[], G⟩ =
      some (.nx, [some (.d (prD rs)), some (.d (ruD q t b)), some (.d (stD z f c)), none, none, none, x6, x7, x8, some (.d (rowD (nights rs 0 z f c.toNat))), some (.d (rowD (nights rs q z f c.toNat))), u, v, none, none, none], ⟨[], G⟩) := fun x6 x7 x8 => by
    rw [x_for]
    obtain ⟨e', s', h1, u, v, h2, h3⟩ := forL_inv (f := forF (.tp (.cons (.nm 11) (.cons (.nm 12) .nil))) (evSs (TT n) (.cons (.iff (.and (.cons (.v (.cmp .Gt (.idx (.var 1) (.lit (.int 0))) (.lit (.int 0)))) (.cons (.v (.cmp .Eq (.bin .Mod (.bin .Add (.var 11) (.lit (.int 1))) (.idx (.var 1) (.lit (.int 0)))) (.lit (.int 0)))) (.cons (.v (.cmp .NotEq (.var 12) (.lit (.int 0)))) .nil)))) (.cons (.ret (.lit (.bool false))) .nil) .nil) .nil)))
      (xs := (List.range c.toNat).map fun p : Nat => .tuple [.int (p : Int), .int (cost rs q z f p)])
      (e := [some (.d (prD rs)), some (.d (ruD q t b)), some (.d (stD z f c)), none, none, none, x6, x7, x8, some (.d (rowD (nights rs 0 z f c.toNat))), some (.d (rowD (nights rs q z f c.toNat))), none, none, none, none, none]) (s := ⟨[], G⟩)
      (fun _ e s => ∃ u v, e = [some (.d (prD rs)), some (.d (ruD q t b)), some (.d (stD z f c)), none, none, none, x6, x7, x8, some (.d (rowD (nights rs 0 z f c.toNat))), some (.d (rowD (nights rs q z f c.toNat))), u, v, none, none, none] ∧ s = ⟨[], G⟩) ⟨none, none, rfl, rfl⟩ (fun x k e s hx hI => by
        obtain ⟨u, v, rfl, rfl⟩ := hI
        obtain ⟨p, hp, rfl⟩ := List.mem_map.mp hx
        refine ⟨_, _, ?_, some (.d (.int p)), some (.d (.int (cost rs q z f p))), rfl, rfl⟩
        by_cases hq : 0 < q
        · by_cases hp0 : ((p : Int) + 1) % q = 0
          · simp [ru0, hq, mod_i hq, hp0, cost_free hq hp0]
          · simp [ru0, hq, mod_i hq, hp0]
        · simp [ru0, hq])
    subst h2 h3
    refine ⟨u, v, ?_⟩
    simp only [stp_ap, x_enum, bd_ap, x_var, x_varE]
    simp [nights_map, enumD_map]
    rw [nights_map, nights_map] at h1
    exact h1
  have hhalf : ∀ u v x6 x7 x8, evE (TT n) (.comp .pure (.b1 .tuple (.comp .pure (.bin .FloorDiv (.var 12) (.lit (.int 2))) (.nm 12) (.seq (.var 13)) .none [12])) (.nm 13) (.seq (.var 0)) .none [13])
      [some (.d (prD rs)), some (.d (ruD q t b)), some (.d (stD z f c)), none, none, none, x6, x7, x8, some (.d (rowD (nights rs 0 z f c.toNat))), some (.d (rowD (nights rs q z f c.toNat))), u, v, none, none, none] ⟨[], G⟩ = some (.d (.list ((half rs).map rowD)), ⟨[], G⟩) := fun u v x6 x7 x8 =>
    each_row (n := n) (rs := rs) (src := 0) (· / 2) _ (by simp) (by simp) rfl (by have := oP.1; omega) (fun r hr => by have := (oP.2 r hr).1; omega) fun e' x he => by simp [he, fdiv_i (a := x) (b := 2) (by decide) (by decide)]
  have htwice : ∀ u v x6 x7 x8, evE (TT n) (.comp .pure (.b1 .tuple (.comp .pure (.bin .Mult (.var 12) (.lit (.int 2))) (.nm 12) (.seq (.var 13)) .none [12])) (.nm 13) (.seq (.var 3)) .none [13])
      [some (.d (prD rs)), some (.d (ruD q t b)), some (.d (stD z f c)), some (.d (prD (half rs))), none, none, x6, x7, x8, some (.d (rowD (nights rs 0 z f c.toNat))), some (.d (rowD (nights rs q z f c.toNat))), u, v, none, none, none] ⟨[], G⟩ = some (.d (.list ((twice (half rs)).map rowD)), ⟨[], G⟩) := fun u v x6 x7 x8 =>
    each_row (n := n) (rs := half rs) (src := 3) (· * 2) _ (by simp) (by simp) rfl (by have := (ok_half oP).1; omega) (fun r hr => by have := ((ok_half oP).2 r hr).1; omega) fun e' x he => by simp [he, mul_i (a := x) (b := 2) (.inr rfl)]
  obtain ⟨u, v, hf⟩ := hfor (some (.d (.int (nights rs q z f c.toNat).sum))) (some (.d (.int (tax (nights rs q z f c.toNat).sum t b)))) (some (.d (.int ((nights rs q z f c.toNat).sum + tax (nights rs q z f c.toNat).sum t b))))
  simp only [ruD] at a1 a3
  have hasg : ∀ s e, asgT (.tp (.cons (.nm 6) (.cons (.nm 7) (.cons (.nm 8) .nil)))) (.d (billD s t b)) e = some (((e.set 6 (some (.d (.int s)))).set 7 (some (.d (.int (tax s t b))))).set 8 (some (.d (.int (s + tax s t b))))) := fun s e => rfl
  have hsl : sliceD (some 1) none (stD z f c) = some (.tuple [.int f, .int c]) := rfl
  have hs1 : sliceD (some 1) none (prD rs) = some (.tuple ((rs.drop 1).map rowD)) := by simp [prD, List.map_drop]
  have hs2 : sliceD none (some 1) (prD rs) = some (.tuple ((rs.take 1).map rowD)) := by simp [prD, List.map_take]
  have hadd : binD .Add (.tuple ((rs.drop 1).map rowD)) (.tuple ((rs.take 1).map rowD)) = some (prD (rs.drop 1 ++ rs.take 1)) := by
    rw [add_t, if_pos (by have := oP.1; simp; omega), ← List.map_append]; rfl
  have hadd2 : binD .Add (.tuple [.int ((z + 1) % 3 + 1)]) (.tuple [.int f, .int c]) = some (stD ((z + 1) % 3 + 1) f c) := rfl
  generalize (rs.drop 1).map rowD = A at hs1 hadd
  generalize (rs.take 1).map rowD = B at hs2 hadd
  generalize prD (rs.drop 1 ++ rs.take 1) = PR at hadd a6
  have hp1 : PyData.tuple ((half rs).map rowD) = prD (half rs) := rfl
  have hp2 : PyData.tuple ((twice (half rs)).map rowD) = prD (twice (half rs)) := rfl
  have hst : PyData.tuple [.int ((z + 1) % 3 + 1), .int f, .int c] = stD ((z + 1) % 3 + 1) f c := rfl
  have m2 : binD .Mult (.int 2) (.int (nights (half rs) q z f c.toNat).sum) = some (.int (2 * (nights (half rs) q z f c.toNat).sum)) := mul_i (.inl rfl)
  simp [-add_t, f26, runD, startL, hG, a0, hasg, hadd2, a1, a2, ru1, ru0, st2, sumR, lenR, hl, hc, a3, bi1, tax_0, hzip, eqD_nil, hf, hhalf, htwice, hp1, hp2, a4, a5, bi0, m2, hs1, hs2, hadd, st0, mod_i (a := z + 1) (b := 3) (by decide), hsl, hst, a6, eqR]
theorem p27 (h : 8 < m) (ns : List Int) : ∃ G', phiOf drs cns m 27 [.s ns] [] = some (.d (.bool true), G') := by
  obtain ⟨n, rfl, hn, e⟩ := go h (i := 27) rfl [.s ns] []
  rw [e]
  have turn : ∀ (x : PyData) (w : Nat) (j : Nat) (x1 x3 x4 x5 x6 x7 x8 : Option Val) (G : List SO), Pn j (w + 29) G → ∃ (y4 y5 y6 y7 y8 : Option Val) (G' : List SO), evSs (TT n) (.cons (.par 7 8 (.call 23 (.cons (.var 2) .nil)) (.call 24 (.cons (.var 2) .nil))) (.cons (.set 4 (.call 22 (.cons (.var 2) .nil))) (.cons (.iff (.not (.v (.call 26 (.cons (.var 7) (.cons (.var 8) (.cons (.var 4) .nil)))))) (.cons (.ret (.lit (.bool false))) .nil) .nil) (.cons (.set 5 (.tup (.cons (.idx (.var 4) (.lit (.int 0))) (.cons (.bin .Add (.bin .Mod (.idx (.var 4) (.lit (.int 1))) (.lit (.int 14))) (.lit (.int 7))) (.cons (.idx (.var 4) (.lit (.int 2))) .nil))))) (.cons (.iff (.v (.cmp .NotEq (.call 17 (.cons (.var 7) (.cons (.var 8) (.cons (.var 5) .nil)))) (.call 17 (.cons (.var 7) (.cons (.var 8) (.cons (.tup (.cons (.idx (.var 4) (.lit (.int 0))) (.cons (.bin .Mod (.idx (.var 4) (.lit (.int 1))) (.lit (.int 14))) (.cons (.idx (.var 4) (.lit (.int 2))) .nil)))) .nil)))))) (.cons (.ret (.lit (.bool false))) .nil) .nil) (.cons (.set 6 (.tup (.cons (.idx (.var 4) (.lit (.int 0))) (.cons (.bin .Mod (.idx (.var 4) (.lit (.int 1))) (.lit (.int 13))) (.cons (.bin .Add (.lit (.int 2)) (.bin .Mod (.idx (.var 4) (.lit (.int 2))) (.lit (.int 7)))) .nil))))) (.cons (.iff (.not (.v (.call 25 (.cons (.var 7) (.cons (.idx (.var 8) (.lit (.int 1))) (.cons (.var 6) (.cons (.bin .Add (.lit (.int 1)) (.call 21 (.cons (.var 2) (.cons (.bin .Sub (.idx (.var 6) (.lit (.int 2))) (.lit (.int 1))) .nil)))) .nil))))))) (.cons (.ret (.lit (.bool false))) .nil) .nil) .nil)))))))
      [some (.s ns), x1, some (.g j), some (.d x), x4, x5, x6, x7, x8] ⟨[], G⟩ = some (.nx, [some (.s ns), x1, some (.g j), some (.d x), y4, y5, y6, y7, y8], ⟨[], G'⟩) ∧ Pn j w G' := by
    intro x w j x1 x3 x4 x5 x6 x7 x8 G P
    obtain ⟨rs, G1, e1, oP, P1⟩ := p23 (m := n) (k := w + 7) (by omega) (P.le (by omega))
    obtain ⟨q, t, b, G2, e2, oE, oT, P2⟩ := p24 (m := n) (k := w + 5) (by omega) (P1.le (by omega))
    obtain ⟨z, f, c, G3, e3, oS, P3⟩ := p22 (m := n) (k := w + 1) (by omega) (P2.le (by omega))
    have z1 := oS.k1
    have z3 := oS.k3
    have f0 := oS.f0
    have c1 := oS.n1
    have c8 := oS.n8
    have oL : OkS z (f % 14 + 7) c := ⟨z1, z3, by omega, by omega, c1, c8⟩
    have oM : OkS z (f % 14) c := ⟨z1, z3, by omega, by omega, c1, c8⟩
    have oH : OkS z (f % 13) (2 + c % 7) := ⟨z1, z3, by omega, by omega, by omega, by omega⟩
    have a1 := p26 (m := n) (by omega) P3.no oP oE oT oS
    have a2 := p17 (m := n) (by omega) P3.no oP oE oT oL
    have a3 := p17 (m := n) (by omega) P3.no oP oE oT oM
    rw [nights_mod] at a2
    obtain ⟨r, G4, e4, r0, r1, P4⟩ := p21 (m := n) (M := 2 + c % 7 - 1) (by omega) P3 (by omega) (by omega)
    have a4 := p25 (m := n) (u := 1 + r) (by omega) P4.no oP oT oH (by omega) (by omega) (by omega)
    have hL : ∀ p : Int, PyData.tuple [.int z, .int p, .int c] = stD z p c := fun p => rfl
    have hH : PyData.tuple [.int z, .int (f % 13), .int (2 + c % 7)] = stD z (f % 13) (2 + c % 7) := rfl
    refine ⟨some (.d (stD z f c)), some (.d (stD z (f % 14 + 7) c)), some (.d (stD z (f % 13) (2 + c % 7))), some (.d (prD rs)), some (.d (ruD q t b)), G4, ?_, P4⟩
    simp [P.no, P1.no, P2.no, P3.no, P4.no, e1, e2, e3, e4, a1, a2, a3, a4, st0, st1, st2, ru1, mod_i (a := _) (b := 14) (by decide), mod_i (a := _) (b := 13) (by decide), mod_i (a := _) (b := 7) (by decide), hL, hH, eqR]
  have outer : ∀ (x : PyData), (∃ k : Nat, x = .int k) → ∀ (x1 x2 x3 x4 x5 x6 x7 x8 : Option Val) (G : List SO), noG G = true → ∃ (y1 y2 y3 y4 y5 y6 y7 y8 : Option Val) (G' : List SO),
      forF (.nm 1) (evSs (TT n) (.cons (.set 2 (.call 20 (.cons (.call 19 (.cons (.var 0) (.cons (.var 1) .nil))) .nil))) (.cons (.forr (.nm 3) (.rng1 (.lit (.int 4))) (.cons (.par 7 8 (.call 23 (.cons (.var 2) .nil)) (.call 24 (.cons (.var 2) .nil))) (.cons (.set 4 (.call 22 (.cons (.var 2) .nil))) (.cons (.iff (.not (.v (.call 26 (.cons (.var 7) (.cons (.var 8) (.cons (.var 4) .nil)))))) (.cons (.ret (.lit (.bool false))) .nil) .nil) (.cons (.set 5 (.tup (.cons (.idx (.var 4) (.lit (.int 0))) (.cons (.bin .Add (.bin .Mod (.idx (.var 4) (.lit (.int 1))) (.lit (.int 14))) (.lit (.int 7))) (.cons (.idx (.var 4) (.lit (.int 2))) .nil))))) (.cons (.iff (.v (.cmp .NotEq (.call 17 (.cons (.var 7) (.cons (.var 8) (.cons (.var 5) .nil)))) (.call 17 (.cons (.var 7) (.cons (.var 8) (.cons (.tup (.cons (.idx (.var 4) (.lit (.int 0))) (.cons (.bin .Mod (.idx (.var 4) (.lit (.int 1))) (.lit (.int 14))) (.cons (.idx (.var 4) (.lit (.int 2))) .nil)))) .nil)))))) (.cons (.ret (.lit (.bool false))) .nil) .nil) (.cons (.set 6 (.tup (.cons (.idx (.var 4) (.lit (.int 0))) (.cons (.bin .Mod (.idx (.var 4) (.lit (.int 1))) (.lit (.int 13))) (.cons (.bin .Add (.lit (.int 2)) (.bin .Mod (.idx (.var 4) (.lit (.int 2))) (.lit (.int 7)))) .nil))))) (.cons (.iff (.not (.v (.call 25 (.cons (.var 7) (.cons (.idx (.var 8) (.lit (.int 1))) (.cons (.var 6) (.cons (.bin .Add (.lit (.int 1)) (.call 21 (.cons (.var 2) (.cons (.bin .Sub (.idx (.var 6) (.lit (.int 2))) (.lit (.int 1))) .nil)))) .nil))))))) (.cons (.ret (.lit (.bool false))) .nil) .nil) .nil)))))))) .nil))) x [some (.s ns), x1, x2, x3, x4, x5, x6, x7, x8] ⟨[], G⟩ = some (.nx, [some (.s ns), y1, y2, y3, y4, y5, y6, y7, y8], ⟨[], G'⟩) ∧ noG G' = true := by
    rintro _ ⟨k, rfl⟩ x1 x2 x3 x4 x5 x6 x7 x8 G hG
    obtain ⟨c, e1⟩ := p19 (m := n) (by omega) hG ns k
    obtain ⟨G1, e2, P1, _⟩ := p20 (m := n) (by omega) hG c
    obtain ⟨e', s', h1, z1, z3, z4, z5, z6, z7, z8, G2, h2, h3, h4⟩ := forL_inv (f := forF (.nm 3) (evSs (TT n) (.cons (.par 7 8 (.call 23 (.cons (.var 2) .nil)) (.call 24 (.cons (.var 2) .nil))) (.cons (.set 4 (.call 22 (.cons (.var 2) .nil))) (.cons (.iff (.not (.v (.call 26 (.cons (.var 7) (.cons (.var 8) (.cons (.var 4) .nil)))))) (.cons (.ret (.lit (.bool false))) .nil) .nil) (.cons (.set 5 (.tup (.cons (.idx (.var 4) (.lit (.int 0))) (.cons (.bin .Add (.bin .Mod (.idx (.var 4) (.lit (.int 1))) (.lit (.int 14))) (.lit (.int 7))) (.cons (.idx (.var 4) (.lit (.int 2))) .nil))))) (.cons (.iff (.v (.cmp .NotEq (.call 17 (.cons (.var 7) (.cons (.var 8) (.cons (.var 5) .nil)))) (.call 17 (.cons (.var 7) (.cons (.var 8) (.cons (.tup (.cons (.idx (.var 4) (.lit (.int 0))) (.cons (.bin .Mod (.idx (.var 4) (.lit (.int 1))) (.lit (.int 14))) (.cons (.idx (.var 4) (.lit (.int 2))) .nil)))) .nil)))))) (.cons (.ret (.lit (.bool false))) .nil) .nil) (.cons (.set 6 (.tup (.cons (.idx (.var 4) (.lit (.int 0))) (.cons (.bin .Mod (.idx (.var 4) (.lit (.int 1))) (.lit (.int 13))) (.cons (.bin .Add (.lit (.int 2)) (.bin .Mod (.idx (.var 4) (.lit (.int 2))) (.lit (.int 7)))) .nil))))) (.cons (.iff (.not (.v (.call 25 (.cons (.var 7) (.cons (.idx (.var 8) (.lit (.int 1))) (.cons (.var 6) (.cons (.bin .Add (.lit (.int 1)) (.call 21 (.cons (.var 2) (.cons (.bin .Sub (.idx (.var 6) (.lit (.int 2))) (.lit (.int 1))) .nil)))) .nil))))))) (.cons (.ret (.lit (.bool false))) .nil) .nil) .nil))))))))) (xs := (List.range 4).map fun i : Nat => .int (i : Int)) (e := [some (.s ns), some (.d (.int k)), some (.g G.length), x3, x4, x5, x6, x7, x8]) (s := ⟨[], G1⟩)
      (fun t e s => ∃ (z1 z3 z4 z5 z6 z7 z8 : Option Val) (G2 : List SO), e = [some (.s ns), z1, some (.g G.length), z3, z4, z5, z6, z7, z8] ∧ s = ⟨[], G2⟩ ∧ Pn G.length (29 * t) G2) ⟨_, _, _, _, _, _, _, _, rfl, rfl, P1.le (by simp)⟩ (fun x t e s hx hI => by
        obtain ⟨z1, z3, z4, z5, z6, z7, z8, G2, rfl, rfl, PP⟩ := hI
        obtain ⟨y4, y5, y6, y7, y8, G3, h5, h6⟩ := turn x (29 * t) G.length z1 z3 z4 z5 z6 z7 z8 G2 (PP.le (by omega))
        refine ⟨_, _, ?_, z1, some (.d x), y4, y5, y6, y7, y8, G3, rfl, rfl, h6⟩
        rw [forF_ap, x_nm, Option.bind_some]
        exact h5)
    subst h2 h3
    refine ⟨z1, some (.g G.length), z3, z4, z5, z6, z7, z8, G2, ?_, h4.no⟩
    simp only [forF_ap, x_nm, Option.bind_some, x_Ss, x_set, stp_ap, x_call, x_Es, x_Es0, bd_ap]
    simp [hG, e1, e2, P1.no, x_for, rng0 (n := 4) (by decide) (by decide)]
    rw [h1]
    rfl
  obtain ⟨K, hK, hK2⟩ : ∃ K : Int, (if (if (4 : Int) < (ns.length : Int) then 4 else (ns.length : Int)) > 1 then (if (4 : Int) < (ns.length : Int) then 4 else (ns.length : Int)) else 1) = K ∧ 0 ≤ K ∧ K < 1000000 := ⟨_, rfl, by split <;> split <;> omega, by split <;> split <;> omega⟩
  obtain ⟨e', s', h1, y1, y2, y3, y4, y5, y6, y7, y8, G2, h2, h3, h4⟩ := forL_inv (f := forF (.nm 1) (evSs (TT n) (.cons (.set 2 (.call 20 (.cons (.call 19 (.cons (.var 0) (.cons (.var 1) .nil))) .nil))) (.cons (.forr (.nm 3) (.rng1 (.lit (.int 4))) (.cons (.par 7 8 (.call 23 (.cons (.var 2) .nil)) (.call 24 (.cons (.var 2) .nil))) (.cons (.set 4 (.call 22 (.cons (.var 2) .nil))) (.cons (.iff (.not (.v (.call 26 (.cons (.var 7) (.cons (.var 8) (.cons (.var 4) .nil)))))) (.cons (.ret (.lit (.bool false))) .nil) .nil) (.cons (.set 5 (.tup (.cons (.idx (.var 4) (.lit (.int 0))) (.cons (.bin .Add (.bin .Mod (.idx (.var 4) (.lit (.int 1))) (.lit (.int 14))) (.lit (.int 7))) (.cons (.idx (.var 4) (.lit (.int 2))) .nil))))) (.cons (.iff (.v (.cmp .NotEq (.call 17 (.cons (.var 7) (.cons (.var 8) (.cons (.var 5) .nil)))) (.call 17 (.cons (.var 7) (.cons (.var 8) (.cons (.tup (.cons (.idx (.var 4) (.lit (.int 0))) (.cons (.bin .Mod (.idx (.var 4) (.lit (.int 1))) (.lit (.int 14))) (.cons (.idx (.var 4) (.lit (.int 2))) .nil)))) .nil)))))) (.cons (.ret (.lit (.bool false))) .nil) .nil) (.cons (.set 6 (.tup (.cons (.idx (.var 4) (.lit (.int 0))) (.cons (.bin .Mod (.idx (.var 4) (.lit (.int 1))) (.lit (.int 13))) (.cons (.bin .Add (.lit (.int 2)) (.bin .Mod (.idx (.var 4) (.lit (.int 2))) (.lit (.int 7)))) .nil))))) (.cons (.iff (.not (.v (.call 25 (.cons (.var 7) (.cons (.idx (.var 8) (.lit (.int 1))) (.cons (.var 6) (.cons (.bin .Add (.lit (.int 1)) (.call 21 (.cons (.var 2) (.cons (.bin .Sub (.idx (.var 6) (.lit (.int 2))) (.lit (.int 1))) .nil)))) .nil))))))) (.cons (.ret (.lit (.bool false))) .nil) .nil) .nil)))))))) .nil)))) (xs := (List.range K.toNat).map fun i : Nat => .int (i : Int)) (e := [some (.s ns), none, none, none, none, none, none, none, none]) (s := ⟨[], []⟩)
    (fun _ e s => ∃ (y1 y2 y3 y4 y5 y6 y7 y8 : Option Val) (G2 : List SO), e = [some (.s ns), y1, y2, y3, y4, y5, y6, y7, y8] ∧ s = ⟨[], G2⟩ ∧ noG G2 = true) ⟨_, _, _, _, _, _, _, _, _, rfl, rfl, rfl⟩ (fun x t e s hx hI => by
      obtain ⟨y1, y2, y3, y4, y5, y6, y7, y8, G2, rfl, rfl, hg⟩ := hI
      obtain ⟨i, hi, rfl⟩ := List.mem_map.mp hx
      obtain ⟨z1, z2, z3, z4, z5, z6, z7, z8, G3, h5, h6⟩ := outer (.int (i : Int)) ⟨i, rfl⟩ y1 y2 y3 y4 y5 y6 y7 y8 G2 hg
      exact ⟨_, _, h5, _, _, _, _, _, _, _, _, _, rfl, rfl, h6⟩)
  subst h2 h3
  refine ⟨G2, ?_⟩
  have hK' : (if 1 < (if (4 : Int) < (ns.length : Int) then 4 else (ns.length : Int)) then (if (4 : Int) < (ns.length : Int) then 4 else (ns.length : Int)) else 1) = K := hK
  simp [f27, runD, startL, x_for]
  rw [hK', rng0 hK2.1 hK2.2]
  simp only [Option.map_some, Option.bind_some]
  rw [h1]
  simp [h4]
theorem law_true (ns : List Int) (_ : ns.length ≤ 63) : ∃ G, phiOf drs cns (19 + 1) 27 [.s ns] [] = some (.d (.bool true), G) := p27 (by decide) ns
end
end K73

namespace K73
open PySem PySem.Spec PyProof.Rows L2 Ev
def lo0 : List PySem.Str := ["InnError", "NoStay", "NoPrices", "NoRule", "MOST_KIND", "MOST_FIRST", "MOST_NIGHTS", "is_whole", "is_among", "is_row", "is_kind", "is_stay", "need_stay", "divisor", "is_fraction", "is_fraction_among", "KINDS", "WEEK", "MOST_PRICE", "LEAST_EVERY", "MOST_EVERY", "are_costs", "is_prices", "is_rule", "need_prices", "need_rule", "cost_of", "nightly_by", "need_billed", "nightly"]
def lo1 : List PySem.Str := ["bill", "_law_cell_at", "_law_pen", "_law_draw", "_law_stay", "_law_prices", "_law_rule", "_law_parts_right", "_law_right"]
def lo : List PySem.Str := lo0 ++ lo1
abbrev R : PySem.W.OpenRow := PySem.W.OpenLaw.row PySem.Challenge.rw_nightsheld_k73_whole_bills_put_together
def fa : List He.Fa := factsOf drs cns
def fn : List He.DefD := drs.map Dr.dd
abbrev hk : PySem.W.Hook := He.hookD 4 fa fn
def ob (s : PySem.W.SharedT) : He.AlD := He.obsDG 4 fa fn (HandSHeadRun.getT s)
theorem ob_eq (s : PySem.W.SharedT) : ob s = hk.obs s.abs := He.obsDG_eq (HandSHeadRun.getT_eq s)
theorem run (w : World) : HandSHeadRun.RunEq R (PySem.W.view R.prog [44]) hk ob 4000 lo w := by
  intro os
  kernel_rfl
end K73
namespace K73
open PySem PySem.Spec PyProof.Rows L2 Ev
theorem binds : ∀ d ∈ drs, d.Bind := by
  intro d hd
  simp only [drs, List.mem_cons, List.not_mem_nil, or_false] at hd
  rcases hd with rfl | rfl | rfl | rfl | rfl | rfl | rfl | rfl | rfl | rfl | rfl | rfl | rfl | rfl | rfl | rfl | rfl | rfl | rfl | rfl | rfl | rfl | rfl | rfl | rfl | rfl | rfl | rfl
  · exact b0
  · exact b1
  · exact b2
  · exact b3
  · exact b4
  · exact b5
  · exact b6
  · exact b7
  · exact b8
  · exact b9
  · exact b10
  · exact b11
  · exact b12
  · exact b13
  · exact b14
  · exact b15
  · exact b16
  · exact b17
  · exact b18
  · exact b19
  · exact b20
  · exact b21
  · exact b22
  · exact b23
  · exact b24
  · exact b25
  · exact b26
  · exact b27
end K73
open PySem PySem.W PySem.Calls PyProof.Rows
theorem PySem.Challenge.cw_nightsheld_k73_whole_bills_put_together_holds : PySem.Challenge.rw_nightsheld_k73_whole_bills_put_together.Holds := by
  w_on; o_law
  refine HandSHeadRun.head_any (r := OpenLaw.row PySem.Challenge.rw_nightsheld_k73_whole_bills_put_together) (q := view (OpenLaw.row PySem.Challenge.rw_nightsheld_k73_whole_bills_put_together).prog [44]) (H := K73.hk) (ob := K73.ob) (M := 4000) (loose := K73.lo) (d := HandSHeadRun.topDef (OpenLaw.row PySem.Challenge.rw_nightsheld_k73_whole_bills_put_together).prog 44) (kwd := []) K73.ob_eq
    (by kernel_rfl) (fun s => by kernel_rfl) K73.run (by kernel_rfl) (by kernel_rfl) (by kernel_rfl) (by rfl) (by first | assumption | decide +kernel) (by decide +kernel) ⟨rfl, rfl, rfl, rfl, rfl, by decide +kernel⟩ ?hw ?hc
  case hw => w_witness2
  case hc =>
    refine L2.walk_ofE (l := PySem.Challenge.rw_nightsheld_k73_whole_bills_put_together) (n := 63) (k := 20) (x := "_law_script") (CX := L2.CX0) rfl (by decide) (by kernel_rfl) ⟨rfl, by decide, by decide⟩ ?F (fun _ _ _ _ z => z)
    intro w mg fa h Y G hmg0
    obtain ⟨K, KX, c⟩ := Y
    have hmg : mg ("law" : PySem.Str) = some (.ref fa) := by
      have e : (HandSHeadRun.topDef (OpenLaw.row PySem.Challenge.rw_nightsheld_k73_whole_bills_put_together).prog 44).name = ("law" : PySem.Str) := by kernel_rfl
      rw [← e]
      exact hmg0
    obtain ⟨fd, sp, hb, hs, hF⟩ := Ev.law_fn (drs := K73.drs) (cns := K73.cns) (Pg := (PySem.Challenge.rw_nightsheld_k73_whole_bills_put_together).prog) (W := w) (m := 63) (n := 19) (i := 27) (d := K73.f27) (x := "_law_script") KX G c K73.ok (by decide +kernel) K73.binds rfl rfl rfl hmg K73.law_true
    exact ⟨K, fd, sp, KX, hb, fun H a ns hl _ hS => hs H a ns hl hS, hF⟩

