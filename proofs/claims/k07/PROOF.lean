import PyProof.Rows.All
import Wide.All
import OpenK.AllK
import Wide.FinOn
import HandS.ForMost
import HandS.Exc
import HandS.ExcOwn
import HandS.Wide
import HandS.Deep
import HandS.TupAny
import HandS.TupSets
import HandS.Flow
import HandS.IsInst
import HandS.Zip
import HandS.Walk
import HandS.Conv
import HandS.FStr
import HandS.CallSlots
import HandS.Style
import HandS.Lambda
import HandS.EndTab
import HandS.HeadHook4
import HandS.HotCalls
import HandS.ExcIs
import HandS.ExcValueHot
import KE.LtData
import KE.SortData
import KE.GoesEnum
import HandS.HeadWalk
import PyProof.ExcBaseAll.ValueError
import HandS.ExcBuiltin
import KE.KStateDown
import HandS.Head0
import HandS.Head1
import HandS.Head2
import HandS.HeadEnd
import HandS.HeadHook1
import HandS.HeadHook2
import HandS.HeadHook3
import PySem.Challenge.RW_latelines_k07_whole_all_plans_between_tw
section
set_option Elab.async false
set_option linter.all false
set_option maxRecDepth 100000
/-! G1: pure values, results, combinators (the evaluator that the walks run). -/
namespace G
open PySem

abbrev Key := Sum Int Str

/-- pure values: tuples and frozen lists and dicts are trees; ref n: the n-th live object -/
inductive PV where
  | non | bl (b : Bool) | int (i : Int) | str (s : Str)
  | tup (xs : List PV) | lst (xs : List PV)
  | dT (kvs : List (List Key × PV)) | dK (kvs : List (Key × PV))
  | ref (n : Nat)
  | ext (a k : Nat)
  | scr (xs : List PV)
  deriving Inhabited

/-- live objects -/
inductive LO where
  | lst (xs : List PV) | dT (kvs : List (List Key × PV)) | dK (kvs : List (Key × PV)) | dead
  deriving Inhabited

abbrev LH := List LO
abbrev Env := List (Option PV)

inductive Res (α : Type) where
  | ok (a : α) (h : LH)
  | exc (c : Nat) (h : LH)
  | fail

@[inline] def Res.bind {α β : Type} (r : Res α) (f : α → LH → Res β) : Res β :=
  match r with
  | .ok a h => f a h
  | .exc c h => .exc c h
  | .fail => .fail

/-- functions by number, on values -/
abbrev FEnv := Nat → List PV → LH → Res PV
abbrev CE := FEnv → Env → LH → Res PV
abbrev CL := FEnv → Env → LH → Res (List PV)
abbrev CB := FEnv → Env → LH → Res Bool

inductive SRes where
  | nx (env : Env) (h : LH)
  | ret (v : PV) (h : LH)
  | bk (env : Env) (h : LH)
  | ct (env : Env) (h : LH)
  | exc (c : Nat) (h : LH)
  | fail
abbrev CS := FEnv → Env → LH → SRes

/-! ### looking through references -/
def view (h : LH) : PV → PV
  | .ref n => match h[n]? with
    | some (.lst xs) => .lst xs
    | some (.dT kvs) => .dT kvs
    | some (.dK kvs) => .dK kvs
    | _ => .ref n
  | .ext _ _ => .ref 0
  | .scr _ => .ref 0
  | v => v

/-! ### equality -/
mutual
def PV.depth : PV → Nat
  | .tup xs => PV.depthL xs + 1
  | .lst xs => PV.depthL xs + 1
  | _ => 0
def PV.depthL : List PV → Nat
  | [] => 0
  | x :: xs => max (PV.depth x) (PV.depthL xs)
end
mutual
/-- data: no dicts, no references -/
def PV.data : PV → Bool
  | .tup xs => PV.dataL xs
  | .lst xs => PV.dataL xs
  | .dT _ => false
  | .dK _ => false
  | .ref _ => false
  | .ext _ _ => false
  | .scr _ => false
  | _ => true
def PV.dataL : List PV → Bool
  | [] => true
  | x :: xs => PV.data x && PV.dataL xs
end
mutual
def pyEq : PV → PV → Bool
  | .non, .non => true
  | .bl a, .bl b => a == b
  | .bl a, .int j => (if a then 1 else 0) == j
  | .int i, .bl b => i == (if b then 1 else 0)
  | .int i, .int j => i == j
  | .str x, .str y => decide (x = y)
  | .tup xs, .tup ys => pyEqL xs ys
  | .lst xs, .lst ys => pyEqL xs ys
  | _, _ => false
def pyEqL : List PV → List PV → Bool
  | [], [] => true
  | x :: xs, y :: ys => pyEq x y && pyEqL xs ys
  | _, _ => false
end
/-- data that the equality rule takes -/
def PV.ok (v : PV) : Bool := v.data && decide (v.depth ≤ 60)

mutual
def toD : PV → PyData
  | .non => .none
  | .bl b => .bool b
  | .int i => .int i
  | .str s => .str s
  | .tup xs => .tuple (toDL xs)
  | .lst xs => .list (toDL xs)
  | .dT _ => .none
  | .dK _ => .none
  | .ref _ => .none
  | .ext _ _ => .none
  | .scr _ => .none
def toDL : List PV → List PyData
  | [] => []
  | x :: xs => toD x :: toDL xs
end
/-- a scalar -/
def PV.flat : PV → Bool
  | .non => true
  | .bl _ => true
  | .int _ => true
  | .str _ => true
  | _ => false

def opEq (h : LH) (a b : PV) : Option PV :=
  match a, b with
  | .int i, .int j => some (.bl (i == j))
  | .str x, .str y => some (.bl (decide (x = y)))
  | a, b =>
    let a := view h a
    let b := view h b
    if a.ok && b.ok then some (.bl (pyEq a b)) else none
def opNe (h : LH) (a b : PV) : Option PV :=
  match opEq h a b with
  | some (.bl b) => some (.bl (!b))
  | _ => none

/-! ### operators -/
def sizeOk (n : Nat) : Bool := decide (n ≤ 16777216)
def opAdd (h : LH) (a b : PV) : Option PV :=
  match view h a, view h b with
  | .int i, .int j => some (.int (i + j))
  | .str x, .str y => if sizeOk (x.length + y.length) then some (.str (x ++ y)) else none
  | .tup xs, .tup ys => if sizeOk (xs.length + ys.length) then some (.tup (xs ++ ys)) else none
  | .lst xs, .lst ys => if sizeOk (xs.length + ys.length) then some (.lst (xs ++ ys)) else none
  | _, _ => none
def opSub (_ : LH) (a b : PV) : Option PV :=
  match a, b with
  | .int i, .int j => some (.int (i - j))
  | _, _ => none
/-- a number of fewer than 2000 bits -/
def bitsOk (i : Int) : Bool := decide (i.natAbs.log2 < 8000)
def opMul (h : LH) (a b : PV) : Option PV :=
  match view h a, view h b with
  | .int i, .int j => if i.natAbs.log2 + j.natAbs.log2 < 1000000 then some (.int (i * j)) else none
  | .lst xs, .int k => if sizeOk (xs.length * k.toNat) && decide (-(2 ^ 62) ≤ k) && decide (k < 2 ^ 62) then some (.lst (List.replicate k.toNat xs).flatten) else none
  | _, _ => none
def opFdiv (_ : LH) (a b : PV) : Option PV :=
  match a, b with
  | .int i, .int j => if decide (0 < j) && bitsOk j then some (.int (i / j)) else none
  | _, _ => none
def opMod (_ : LH) (a b : PV) : Option PV :=
  match a, b with
  | .int i, .int j => if j ≠ 0 then some (.int (i.fmod j)) else none
  | _, _ => none
def opPow (_ : LH) (a b : PV) : Option PV :=
  match a, b with
  | .int i, .int j => if decide (0 ≤ j) && decide (j ≤ 1000) && decide (i.natAbs < 2 ^ 64) then some (.int (i ^ j.toNat)) else none
  | _, _ => none
def opNeg (_ : LH) (a : PV) : Option PV :=
  match a with
  | .int i => some (.int (-i))
  | _ => none

/-! ### order -/
mutual
/-- a < b of data of like shape -/
def pyLt : PV → PV → Bool
  | .int i, .int j => decide (i < j)
  | .str x, .str y => decide (x.cps.toList < y.cps.toList)
  | .bl a, .bl b => !a && b
  | .tup xs, .tup ys => pyLtL xs ys
  | .lst xs, .lst ys => pyLtL xs ys
  | _, _ => false
def pyLtL : List PV → List PV → Bool
  | [], [] => false
  | [], _ :: _ => true
  | _ :: _, [] => false
  | x :: xs, y :: ys => if pyEq x y then pyLtL xs ys else pyLt x y
end
def PV.isNon : PV → Bool
  | .non => true
  | _ => false
/-- the two can be compared by < -/
def ltOk (a b : PV) : Bool := a.ok && b.ok && W.alike (toD a) (toD b) && !a.isNon
def opLt (_ : LH) (a b : PV) : Option PV :=
  match a, b with
  | .int i, .int j => some (.bl (decide (i < j)))
  | a, b => if ltOk a b then some (.bl (pyLt a b)) else none
def opLe (_ : LH) (a b : PV) : Option PV :=
  match a, b with
  | .int i, .int j => some (.bl (decide (i ≤ j)))
  | _, _ => none
def opGt (_ : LH) (a b : PV) : Option PV :=
  match a, b with
  | .int i, .int j => some (.bl (decide (j < i)))
  | _, _ => none
def opGe (_ : LH) (a b : PV) : Option PV :=
  match a, b with
  | .int i, .int j => some (.bl (decide (j ≤ i)))
  | _, _ => none

/-! ### membership -/
def keyT1 : PV → Option Key
  | .int i => some (.inl i)
  | .str s => some (.inr s)
  | _ => none
def keysOf : List PV → Option (List Key)
  | [] => some []
  | x :: xs => match keyT1 x, keysOf xs with
    | some k, some ks => some (k :: ks)
    | _, _ => none
/-- a tuple that begins with a text -/
def strHead : List PV → Bool
  | .str _ :: _ => true
  | _ => false
def keyT : PV → Option (List Key)
  | .tup xs => if strHead xs then keysOf xs else none
  | _ => none
section
variable {κ : Type} [DecidableEq κ]
def getP (kvs : List (κ × PV)) (k : κ) : Option PV := (kvs.find? fun kv => decide (kv.1 = k)).map (·.2)
def putP (kvs : List (κ × PV)) (k : κ) (v : PV) : List (κ × PV) :=
  if (kvs.any fun kv => decide (kv.1 = k)) = true then kvs.map (fun kv => if kv.1 = k then (kv.1, v) else kv) else kvs ++ [(k, v)]
end
def inL (x : PV) (xs : List PV) : Bool := xs.any fun y => pyEq y x
def opIn (h : LH) (x c : PV) : Option PV :=
  match view h c with
  | .lst xs => if (view h x).ok && (PV.lst xs).ok then some (.bl (inL (view h x) xs)) else none
  | .tup xs => if (view h x).ok && (PV.tup xs).ok then some (.bl (inL (view h x) xs)) else none
  | .str s => match x with
    | .str z => match z.cps.toList with
      | [c] => some (.bl (decide (c ∈ s.cps.toList)))
      | _ => none
    | _ => none
  | .dT kvs => match keyT x with
    | some k => some (.bl (getP kvs k).isSome)
    | none => none
  | .dK kvs => match keyT1 x with
    | some k => some (.bl (getP kvs k).isSome)
    | none => none
  | _ => none
def opNotIn (h : LH) (x c : PV) : Option PV :=
  match opIn h x c with
  | some (.bl b) => some (.bl (!b))
  | _ => none
def opIs (_ : LH) (a b : PV) : Option PV :=
  match b with
  | .non => some (.bl a.isNon)
  | .bl y => match a with
    | .bl x => some (.bl (x == y))
    | _ => none
  | _ => none
def opIsNot (h : LH) (a b : PV) : Option PV :=
  match opIs h a b with
  | some (.bl b) => some (.bl (!b))
  | _ => none

/-! ### truth -/
def truth (h : LH) (v : PV) : Option Bool :=
  match view h v with
  | .non => some false
  | .bl b => some b
  | .int i => some (i != 0)
  | .str s => if sizeOk s.length then some (s.length != 0) else none
  | .tup xs => some (!xs.isEmpty)
  | .lst xs => some (!xs.isEmpty)
  | _ => none

/-! ### items, slices -/
def opIx (h : LH) (a i : PV) : Option PV :=
  match a with
  | .scr xs => match i with
    | .int i => L2.atI xs i
    | _ => none
  | a => match view h a with
  | .lst xs => match i with
    | .int i => L2.atI xs i
    | _ => none
  | .tup xs => match i with
    | .int i => L2.atI xs i
    | _ => none
  | .dT kvs => (keyT i).bind (getP kvs)
  | .dK kvs => (keyT1 i).bind (getP kvs)
  | _ => none
def cutL (xs : List PV) (lo hi : Option Int) : List PV := (xs.drop (HT.sIx xs.length 0 lo)).take (HT.sIx xs.length xs.length hi - HT.sIx xs.length 0 lo)
def partOf : Option PV → Option (Option Int)
  | none => some none
  | some (.int i) => some (some i)
  | _ => none
def opSlice (h : LH) (a : PV) (lo hi : Option PV) : Option PV :=
  match partOf lo, partOf hi with
  | some lo, some hi => match view h a with
    | .lst xs => some (.lst (cutL xs lo hi))
    | .tup xs => some (.tup (cutL xs lo hi))
    | _ => none
  | _, _ => none
end G
end
section
set_option Elab.async false
set_option linter.all false
set_option maxRecDepth 100000
/-! GC: the combinators. -/
namespace G
open PySem

/-! ### expressions -/
def cVar (i : Nat) : CE := fun _ env h => match env[i]? with
  | some (some v) => .ok v h
  | _ => .fail
def cC (v : PV) : CE := fun _ _ h => .ok v h
def lift (h : LH) : Option PV → Res PV
  | some v => .ok v h
  | none => .fail
def cOp2 (op : LH → PV → PV → Option PV) (a b : CE) : CE := fun F env h => (a F env h).bind fun x h => (b F env h).bind fun y h => lift h (op h x y)
def cOp1 (op : LH → PV → Option PV) (a : CE) : CE := fun F env h => (a F env h).bind fun x h => lift h (op h x)
def lNil : CL := fun _ _ h => .ok [] h
def lCons (a : CE) (r : CL) : CL := fun F env h => (a F env h).bind fun x h => (r F env h).bind fun xs h => .ok (x :: xs) h
def cTup (as : CL) : CE := fun F env h => (as F env h).bind fun xs h => if sizeOk xs.length then .ok (.tup xs) h else .fail
def cLst (as : CL) : CE := fun F env h => (as F env h).bind fun xs h => if sizeOk xs.length then .ok (.lst xs) h else .fail
/-- a list that will be changed -/
def cNewL (as : CL) : CE := fun F env h => (as F env h).bind fun xs h => if sizeOk xs.length then .ok (.ref h.length) (h ++ [.lst xs]) else .fail
def cNewDT : CE := fun _ _ h => .ok (.ref h.length) (h ++ [.dT []])
def cNewDK : CE := fun _ _ h => .ok (.ref h.length) (h ++ [.dK []])
/-- a + b, a * b of lists, the new list live -/
def cThaw2 (op : LH → PV → PV → Option PV) (a b : CE) : CE := fun F env h => (a F env h).bind fun x h => (b F env h).bind fun y h => match op h x y with
  | some (.lst xs) => .ok (.ref h.length) (h ++ [.lst xs])
  | _ => .fail
def cAnd (a b : CE) : CE := fun F env h => (a F env h).bind fun x h => match x with
  | .bl true => b F env h
  | .bl false => .ok (.bl false) h
  | _ => .fail
def cOr (a b : CE) : CE := fun F env h => (a F env h).bind fun x h => match x with
  | .bl true => .ok (.bl true) h
  | .bl false => b F env h
  | _ => .fail
def cNot (a : CE) : CE := fun F env h => (a F env h).bind fun x h => match x with
  | .bl c => .ok (.bl (!c)) h
  | _ => .fail
/-- a chain a op b op' c -/
def cChain (op op' : LH → PV → PV → Option PV) (a b c : CE) : CE := fun F env h => (a F env h).bind fun x h => (b F env h).bind fun y h => match op h x y with
  | some (.bl true) => (c F env h).bind fun z h => lift h (op' h y z)
  | some (.bl false) => .ok (.bl false) h
  | _ => .fail
def cIf (t : CB) (a b : CE) : CE := fun F env h => (t F env h).bind fun c h => if c then a F env h else b F env h
def cSlice (a : CE) (lo hi : Option CE) : CE := fun F env h => (a F env h).bind fun x h => match lo, hi with
  | none, none => lift h (opSlice h x none none)
  | some l, none => (l F env h).bind fun l h => lift h (opSlice h x (some l) none)
  | none, some u => (u F env h).bind fun u h => lift h (opSlice h x none (some u))
  | some l, some u => (l F env h).bind fun l h => match l with
    | .int i => (u F env h).bind fun u h => lift h (opSlice h x (some (.int i)) (some u))
    | _ => .fail
def cCall (f : Nat) (as : CL) : CE := fun F env h => (as F env h).bind fun xs h => F f xs h
def cFn (f : LH → List PV → Option PV) (as : CL) : CE := fun F env h => (as F env h).bind fun xs h => lift h (f h xs)

/-! ### tests -/
def tVal (a : CE) : CB := fun F env h => (a F env h).bind fun x h => match x with
  | .bl c => .ok c h
  | _ => .fail
def tTru (a : CE) : CB := fun F env h => (a F env h).bind fun x h => match truth h x with
  | some c => .ok c h
  | none => .fail
def tAnd (a b : CB) : CB := fun F env h => (a F env h).bind fun c h => if c then b F env h else .ok false h
def tOr (a b : CB) : CB := fun F env h => (a F env h).bind fun c h => if c then .ok true h else b F env h
def tNot (a : CB) : CB := fun F env h => (a F env h).bind fun c h => .ok (!c) h
def tYes : CB := fun _ _ h => .ok true h

/-! ### targets -/
inductive TP where
  | name (i : Nat)
  | tup (ts : List TP)
mutual
def TP.put : TP → PV → Env → Option Env
  | .name i, v, env => if i < env.length then some (env.set i (some v)) else none
  | .tup ts, v, env => match v with
    | .tup xs => TP.putL ts xs env
    | _ => none
def TP.putL : List TP → List PV → Env → Option Env
  | [], [], env => some env
  | t :: ts, x :: xs, env => match TP.put t x env with
    | some env => TP.putL ts xs env
    | none => none
  | _, _, _ => none
end
mutual
def TP.slots : TP → List Nat
  | .name i => [i]
  | .tup ts => TP.slotsL ts
def TP.slotsL : List TP → List Nat
  | [] => []
  | t :: ts => TP.slots t ++ TP.slotsL ts
end

/-! ### what is walked -/
abbrev CI := FEnv → Env → LH → Res (List PV)
/-- a frozen list, a tuple, a dict's keys, a text's signs -/
def keyPV : Key → PV
  | .inl i => .int i
  | .inr s => .str s
def itemsOf : PV → Option (List PV)
  | .lst xs => some xs
  | .tup xs => some xs
  | .str s => some (s.cps.toList.map fun c => .str ⟨#[c]⟩)
  | _ => none
def iOf (a : CE) : CI := fun F env h => (a F env h).bind fun x h => match itemsOf x with
  | some xs => .ok xs h
  | none => .fail
def intsFrom (lo : Int) : Nat → List PV
  | 0 => []
  | n + 1 => .int lo :: intsFrom (lo + 1) n
def small62 (i : Int) : Bool := decide (-(2 ^ 62) ≤ i) && decide (i < 2 ^ 62)
def iRange1 (a : CE) : CI := fun F env h => (a F env h).bind fun x h => match x with
  | .int j => if small62 j then .ok (intsFrom 0 j.toNat) h else .fail
  | _ => .fail
def iRange2 (a b : CE) : CI := fun F env h => (a F env h).bind fun x h => (b F env h).bind fun y h => match x, y with
  | .int i, .int j => if small62 i && small62 j then .ok (intsFrom i (j - i).toNat) h else .fail
  | _, _ => .fail
def enumFrom (k : Nat) : List PV → List PV
  | [] => []
  | x :: xs => .tup [.int (k : Nat), x] :: enumFrom (k + 1) xs
def iEnum (a : CE) : CI := fun F env h => (a F env h).bind fun x h => match x with
  | .lst xs => .ok (enumFrom 0 xs) h
  | .tup xs => .ok (enumFrom 0 xs) h
  | _ => .fail
def zipPV : List PV → List PV → List PV
  | x :: xs, y :: ys => .tup [x, y] :: zipPV xs ys
  | _, _ => []
def iZip (a b : CE) : CI := fun F env h => (a F env h).bind fun x h => (b F env h).bind fun y h => match x, y with
  | .lst xs, .lst ys => .ok (zipPV xs ys) h
  | .tup xs, .tup ys => .ok (zipPV xs ys) h
  | _, _ => .fail

/-! ### comprehensions -/
def wipeE (env : Env) : List Nat → Env
  | [] => env
  | v :: vs => (wipeE env vs).set v none
def compL (tg : TP) (t : CB) (e : CE) (F : FEnv) (env : Env) : List PV → List PV → LH → Res PV
  | [], acc, h => .ok (.lst acc) h
  | x :: xs, acc, h => match tg.put x env with
    | none => .fail
    | some env1 => match t F env1 h with
      | .ok true h => match e F env1 h with
        | .ok y h => if decide (acc.length < 16777216) then compL tg t e F env xs (acc ++ [y]) h else .fail
        | _ => .fail
      | .ok false h => compL tg t e F env xs acc h
      | _ => .fail
def cComp (own : List Nat) (it : CI) (tg : TP) (t : CB) (e : CE) : CE := fun F env h => (it F env h).bind fun xs h => compL tg t e F (wipeE env own) xs [] h

/-! ### statements -/
def sSkip : CS := fun _ env h => .nx env h
def sSeq (a b : CS) : CS := fun F env h => match a F env h with
  | .nx env h => b F env h
  | r => r
def sBind {α : Type} (r : Res α) (f : α → LH → SRes) : SRes := match r with
  | .ok a h => f a h
  | .exc c h => .exc c h
  | .fail => .fail
def sSet (i : Nat) (a : CE) : CS := fun F env h => sBind (a F env h) fun x h => if i < env.length then .nx (env.set i (some x)) h else .fail
def sTgt (tg : TP) (a : CE) : CS := fun F env h => sBind (a F env h) fun x h => match tg.put x env with
  | some env => .nx env h
  | none => .fail
def sExpr (a : CE) : CS := fun F env h => sBind (a F env h) fun _ h => .nx env h
mutual
/-- lists and dicts that were live are frozen -/
def freeze : PV → LH → Option (PV × LH)
  | .ref n, h => match h[n]? with
    | some (.lst xs) => some (.lst xs, h.set n .dead)
    | some (.dT xs) => some (.dT xs, h.set n .dead)
    | some (.dK xs) => some (.dK xs, h.set n .dead)
    | _ => none
  | .tup xs, h => match freezeL xs h with
    | some (ys, h) => some (.tup ys, h)
    | none => none
  | v, h => some (v, h)
def freezeL : List PV → LH → Option (List PV × LH)
  | [], h => some ([], h)
  | x :: xs, h => match freeze x h with
    | none => none
    | some (y, h) => match freezeL xs h with
      | none => none
      | some (ys, h) => some (y :: ys, h)
end
/-- the slot's list or dict is frozen from here on -/
def sFrz (i : Nat) : CS := fun _ env h => match env[i]? with
  | some (some v) => match freeze v h with
    | some (y, h) => .nx (env.set i (some y)) h
    | none => .fail
  | _ => .fail
def sRet (a : CE) : CS := fun F env h => sBind (a F env h) fun x h => .ret x h
/-- return, what is handed back frozen -/
def sRetF (a : CE) : CS := fun F env h => sBind (a F env h) fun x h => match freeze x h with
  | some (y, h) => .ret y h
  | none => .fail
def sRetN : CS := fun _ _ h => .ret .non h
def sIf (t : CB) (a b : CS) : CS := fun F env h => sBind (t F env h) fun c h => if c then a F env h else b F env h
def forL (tg : TP) (b : CS) (F : FEnv) : List PV → Env → LH → SRes
  | [], env, h => .nx env h
  | x :: xs, env, h => match tg.put x env with
    | none => .fail
    | some env => match b F env h with
      | .nx env h => forL tg b F xs env h
      | .ct env h => forL tg b F xs env h
      | .bk env h => .nx env h
      | r => r
def sFor (it : CI) (tg : TP) (b : CS) : CS := fun F env h => sBind (it F env h) fun xs h => forL tg b F xs env h
def whileL (t : CB) (b : CS) (F : FEnv) : Nat → Env → LH → SRes
  | 0, _, _ => .fail
  | n + 1, env, h => sBind (t F env h) fun c h => if c then (match b F env h with
      | .nx env h => whileL t b F n env h
      | .ct env h => whileL t b F n env h
      | .bk env h => .nx env h
      | r => r) else .nx env h
def whileFuel : Nat := 1048576
def sWhile (t : CB) (b : CS) : CS := fun F env h => whileL t b F whileFuel env h
def sRaise (c : Nat) : CS := fun _ _ h => .exc c h
def isLiveL (h : LH) : PV → Bool
  | .ref n => match h[n]? with
    | some (.lst _) => true
    | _ => false
  | _ => false
/-- x.append(e) -/
def sAppend (a e : CE) : CS := fun F env h => sBind (a F env h) fun x h => if isLiveL h x then sBind (e F env h) fun y h => match x with
  | .ref n => match h[n]? with
    | some (.lst xs) => if decide (xs.length < 16777216) then .nx env (h.set n (.lst (xs ++ [y]))) else .fail
    | _ => .fail
  | _ => .fail else .fail
/-- x[i] = e -/
def sStore (e a i : CE) : CS := fun F env h => sBind (e F env h) fun y h => sBind (a F env h) fun x h => sBind (i F env h) fun k h => match x with
  | .ref n => match h[n]? with
    | some (.lst xs) => match k with
      | .int k => match L2.ixN xs.length k with
        | some j => .nx env (h.set n (.lst (xs.set j y)))
        | none => .fail
      | _ => .fail
    | some (.dT kvs) => match keyT k with
      | some k => if decide (kvs.length < 16777216) then .nx env (h.set n (.dT (putP kvs k y))) else .fail
      | none => .fail
    | some (.dK kvs) => match keyT1 k with
      | some k => if decide (kvs.length < 16777216) then .nx env (h.set n (.dK (putP kvs k y))) else .fail
      | none => .fail
    | _ => .fail
  | _ => .fail
/-- x.pop(0) -/
def cPop0 (a : CE) : CE := fun F env h => (a F env h).bind fun x h => match x with
  | .ref n => match h[n]? with
    | some (.lst (y :: ys)) => .ok y (h.set n (.lst ys))
    | _ => .fail
  | _ => .fail
/-- x.pop() -/
def cPop (a : CE) : CE := fun F env h => (a F env h).bind fun x h => match x with
  | .ref n => match h[n]? with
    | some (.lst xs) => match xs[xs.length - 1]? with
      | some y => .ok y (h.set n (.lst xs.dropLast))
      | none => .fail
    | _ => .fail
  | _ => .fail

/-! ### functions -/
mutual
/-- no reference at n or above -/
def closedV (n : Nat) : PV → Bool
  | .ref k => decide (k < n)
  | .tup xs => closedL n xs
  | .lst xs => closedL n xs
  | .scr xs => closedL n xs
  | .dT kvs => closedP n kvs
  | .dK kvs => closedQ n kvs
  | _ => true
def closedL (n : Nat) : List PV → Bool
  | [] => true
  | x :: xs => closedV n x && closedL n xs
def closedP (n : Nat) : List (List Key × PV) → Bool
  | [] => true
  | (_, x) :: xs => closedV n x && closedP n xs
def closedQ (n : Nat) : List (Key × PV) → Bool
  | [] => true
  | (_, x) :: xs => closedV n x && closedQ n xs
end
def closedO (n : Nat) : LO → Bool
  | .lst xs => closedL n xs
  | .dT xs => closedP n xs
  | .dK xs => closedQ n xs
  | .dead => true
/-- a function's end: what was made within and is not handed out is forgotten -/
def leave (n : Nat) (v : PV) (h : LH) : Res PV :=
  if h.length ≤ n then .ok v h
  else if closedV n v && (h.take n).all (closedO n) then .ok v (h.take n) else .ok v h
def leaveX (n : Nat) (c : Nat) (h : LH) : Res PV :=
  if h.length ≤ n then .exc c h
  else if (h.take n).all (closedO n) then .exc c (h.take n) else .exc c h
structure FD where
  np : Nat
  ns : Nat
  body : CS
def runFD (d : FD) (F : FEnv) (args : List PV) (h : LH) : Res PV :=
  if args.length = d.np then
    match d.body F (args.map some ++ List.replicate (d.ns - d.np) none) h with
    | .nx _ h' => leave h.length .non h'
    | .ret v h' => leave h.length v h'
    | .exc c h' => leaveX h.length c h'
    | _ => .fail
  else .fail
def fenv (T : Nat → Option FD) : Nat → FEnv
  | 0 => fun _ _ _ => .fail
  | d + 1 => fun f args h => match T f with
    | some fd => runFD fd (fenv T d) args h
    | none => .fail

/-! ### built-in functions on values -/
def fLen (h : LH) : List PV → Option PV
  | [x] => match x with
    | .scr xs => some (.int xs.length)
    | x => match view h x with
      | .lst xs => some (.int xs.length)
      | .tup xs => some (.int xs.length)
      | .str s => if sizeOk s.length then some (.int s.length) else none
      | _ => none
  | _ => none
def fInt (_ : LH) : List PV → Option PV
  | [.int i] => some (.int i)
  | [.bl b] => some (.int (if b then 1 else 0))
  | _ => none
def fBool (_ : LH) : List PV → Option PV
  | [.bl b] => some (.bl b)
  | _ => none
def fAbs (_ : LH) : List PV → Option PV
  | [.int i] => some (.int (if i < 0 then -i else i))
  | _ => none
def fMax (_ : LH) : List PV → Option PV
  | [.int i, .int j] => some (.int (if j > i then j else i))
  | _ => none
def fMin (_ : LH) : List PV → Option PV
  | [.int i, .int j] => some (.int (if j < i then j else i))
  | _ => none
def fTuple (h : LH) : List PV → Option PV
  | [x] => match view h x with
    | .lst xs => some (.tup xs)
    | .tup xs => some (.tup xs)
    | _ => none
  | _ => none
def fList (h : LH) : List PV → Option PV
  | [x] => match view h x with
    | .lst xs => some (.lst xs)
    | .tup xs => some (.lst xs)
    | _ => none
  | _ => none
def boolsOf : List PV → Option (List Bool)
  | [] => some []
  | .bl b :: r => (boolsOf r).map (b :: ·)
  | _ :: _ => none
def fAll (_ : LH) : List PV → Option PV
  | [.lst xs] => (boolsOf xs).map fun bs => .bl (bs.all id)
  | _ => none
def fAny (_ : LH) : List PV → Option PV
  | [.lst xs] => (boolsOf xs).map fun bs => .bl (bs.any id)
  | _ => none
def intsOf : List PV → Option (List Int)
  | [] => some []
  | .int b :: r => (intsOf r).map (b :: ·)
  | _ :: _ => none
def fSum (_ : LH) : List PV → Option PV
  | [.lst xs] => (intsOf xs).map fun bs => .int bs.sum
  | _ => none
def insB (x : PV) : List PV → List PV
  | [] => [x]
  | y :: ys => if pyLt y x then y :: insB x ys else x :: y :: ys
def isort : List PV → List PV
  | [] => []
  | x :: xs => insB x (isort xs)
/-- all can be compared -/
def allOk (xs : List PV) : Bool := xs.all fun x => xs.all fun y => ltOk x y
def isTup1 : PV → Bool
  | .tup (_ :: _) => true
  | _ => false
def noTup : PV → Bool
  | .tup _ => false
  | _ => true
def fSorted (h : LH) : List PV → Option PV
  | [x] => match view h x with
    | .lst xs => if allOk xs && (xs.all isTup1 || xs.all noTup) && sizeOk xs.length then some (.lst (isort xs)) else none
    | .tup xs => if allOk xs && (xs.all isTup1 || xs.all noTup) && sizeOk xs.length then some (.lst (isort xs)) else none
    | _ => none
  | _ => none
/-- the built-in types that isinstance is asked of -/
inductive BT where
  | int | bool | tuple | str | list
def isBT : BT → PV → Bool
  | .int, .int _ => true
  | .int, .bl _ => true
  | .bool, .bl _ => true
  | .tuple, .tup _ => true
  | .str, .str _ => true
  | .list, .lst _ => true
  | _, _ => false
def fIs (t : BT) (h : LH) : List PV → Option PV
  | [x] => match view h x with
    | .ref _ => none
    | .ext _ _ => none
    | .scr _ => none
    | y => some (.bl (isBT t y))
  | _ => none

/-! ### sets -/
/-- without what stands again behind -/
def dedP : List PV → List PV
  | [] => []
  | x :: xs => if inL x xs then dedP xs else x :: dedP xs
def dedI {α : Type} [DecidableEq α] : List α → List α
  | [] => []
  | x :: xs => if x ∈ xs then dedI xs else x :: dedI xs
def intTup : PV → Option (List Int)
  | .tup xs => intsOf xs
  | _ => none
def intTups : List PV → Option (List (List Int))
  | [] => some []
  | x :: xs => match intTup x, intTups xs with
    | some k, some ks => some (k :: ks)
    | _, _ => none
def evenOk (d : Nat) (ks : List (List Int)) : Bool := ks.all fun k => k.length == d && k.all fun i => decide (0 ≤ i) && decide (i < 1048576)
def fSetSort (_ : LH) : List PV → Option PV
  | [.tup xs] => match intTups xs with
    | some (k :: ks) => if decide ((k :: ks).length < 64) && (decide (1 ≤ k.length) && evenOk k.length (k :: ks)) then some (.lst (isort (dedP xs))) else none
    | _ => none
  | _ => none
def fSetLen (_ : LH) : List PV → Option PV
  | [.lst xs] => match intsOf xs with
    | some ks => if decide (ks.length ≤ 4000) then some (.int (dedI ks).length) else none
    | none => none
  | _ => none
/-- the text of an error, by its class's number -/
def nmE : Nat → Option Str
  | 1 => some "value"
  | 2 => some "table value"
  | 3 => some "delay value"
  | 4 => some "number value"
  | 5 => some "plan value"
  | 6 => some "facts value"
  | 7 => some "text value"
  | 8 => some "unlike value"
  | 9 => some "late value"
  | 10 => some "undo value"
  | _ => none
/-- a lambda's error, told -/
def cLam (c : CE) : CE := fun F env h => match c F env h with
  | .ok _ h => .ok (.str "") h
  | .exc k h => match nmE k with
    | some out => .ok (.str out) h
    | none => .fail
  | .fail => .fail
end G
end
section
set_option Elab.async false
set_option linter.all false
set_option maxRecDepth 100000
/-! G2: how pure values stand in the abstract heap. -/
namespace G
open PySem PySem.Spec PyProof.Rows L2

/-- the ghost: where the live objects stand, what they are, the abstract heap -/
structure GS where
  ρ : List Addr
  h : LH
  H : Hp
  /-- reserved: lists that a comprehension is filling -/
  rv : List Addr

/-- an address of an object that may change -/
def Live (S : GS) (a : Addr) : Prop := (∃ (n : Nat) (o : LO), S.ρ[n]? = some a ∧ S.h[n]? = some o ∧ o ≠ .dead) ∨ a ∈ S.rv

/-- the tables of code objects that the module's own functions fill (by the fragment) -/
class Tabl where
  tabs : PySem.W.Frag → List (Addr × Str)
variable [Tabl]

def strOk (x : Str) : Prop := PyData.strOk x = true

/-- a tuple of the module's -/
def KTup (K : PySem.W.Frag) (a : Addr) (vs : List V) : Prop :=
  ∃ (o : Obj) (its : Array Value) (n : Nat), K.lookup a = some o ∧ o.cls = .type "tuple" ∧ o.data = .seq its n ∧ its.size ≤ sizeLine ∧ Vals vs its.toList
/-- a list that nothing changes: frozen, or the module's -/
def ScrAt (K : PySem.W.Frag) (S : GS) (a : Addr) (vs : List V) : Prop :=
  (¬ Live S a ∧ Rd S.H a (.lst vs)) ∨ ∃ (o : Obj) (its : Array Value) (n : Nat), K.lookup a = some o ∧ o.cls = .type "list" ∧ o.dict = none ∧ o.data = .seq its n ∧ its.size ≤ sizeLine ∧ Vals vs its.toList
def TupAt (K : PySem.W.Frag) (S : GS) (a : Addr) (xs : List PV) (vs : List V) : Prop :=
  (¬ Live S a ∧ S.H a = some (.tup vs)) ∨ (strHead xs = false ∧ KTup K a vs)

mutual
def RepV (K : PySem.W.Frag) (S : GS) : PV → V → Prop
  | .non, v => v = .non
  | .bl b, v => v = .bl b
  | .int i, v => v = .int i
  | .str s, v => v = .str s ∧ strOk s
  | .tup xs, v => ∃ a vs, v = .ref a ∧ TupAt K S a xs vs ∧ RepL K S xs vs
  | .lst xs, v => ∃ a vs, v = .ref a ∧ ¬ Live S a ∧ S.H a = some (.lst vs) ∧ RepL K S xs vs
  | .dT kvs, v => ∃ a ws, v = .ref a ∧ ¬ Live S a ∧ S.H a = some (.dT ws) ∧ RepP K S kvs ws
  | .dK kvs, v => ∃ a ws, v = .ref a ∧ ¬ Live S a ∧ S.H a = some (.dK ws) ∧ RepQ K S kvs ws
  | .ref n, v => ∃ a, v = .ref a ∧ S.ρ[n]? = some a
  | .ext a _, v => v = .ref a
  | .scr xs, v => ∃ a vs, v = .ref a ∧ ScrAt K S a vs ∧ RepL K S xs vs
def RepL (K : PySem.W.Frag) (S : GS) : List PV → List V → Prop
  | [], vs => vs = []
  | x :: xs, vs => ∃ v r, vs = v :: r ∧ RepV K S x v ∧ RepL K S xs r
def RepP (K : PySem.W.Frag) (S : GS) : List (List Key × PV) → List (List Key × V) → Prop
  | [], vs => vs = []
  | (k, x) :: xs, vs => ∃ v r, vs = (k, v) :: r ∧ RepV K S x v ∧ RepP K S xs r
def RepQ (K : PySem.W.Frag) (S : GS) : List (Key × PV) → List (Key × V) → Prop
  | [], vs => vs = []
  | (k, x) :: xs, vs => ∃ v r, vs = (k, v) :: r ∧ RepV K S x v ∧ RepQ K S xs r
end

/-- a live object as it stands -/
def RepO (K : PySem.W.Frag) (S : GS) (a : Addr) : LO → Prop
  | .lst xs => ∃ vs, S.H a = some (.lst vs) ∧ RepL K S xs vs
  | .dT kvs => ∃ ws, S.H a = some (.dT ws) ∧ RepP K S kvs ws
  | .dK kvs => ∃ ws, S.H a = some (.dK ws) ∧ RepQ K S kvs ws
  | .dead => True

structure Rel (K : PySem.W.Frag) (S : GS) : Prop where
  tabs : LamX.Tabs (Tabl.tabs K) S.H
  len : S.ρ.length = S.h.length
  nd : S.ρ.Nodup
  trk : ∀ a ∈ S.ρ, ∃ o, S.H a = some o ∧ ∀ ps, o ≠ .tbl ps
  rsv : ∀ a ∈ S.rv, a ∉ S.ρ ∧ ∃ xs, S.H a = some (.lst xs)
  obj : ∀ (n : Nat) (a : Addr) (o : LO), S.ρ[n]? = some a → S.h[n]? = some o → RepO K S a o

/-- what holds from one ghost to a later one: what stands still stands still -/
structure ExtW (S S' : GS) : Prop where
  pre : ∀ (n : Nat) (a : Addr), S.ρ[n]? = some a → S'.ρ[n]? = some a
  keep : ∀ a o, S.H a = some o → ¬ Live S a → (∀ ps, o ≠ .tbl ps) → S'.H a = some o ∧ ¬ Live S' a
/-- .. and what is reserved is left alone -/
structure Ext (S S' : GS) : Prop extends ExtW S S' where
  rv : S'.rv = S.rv
  rvk : ∀ a ∈ S.rv, S'.H a = S.H a

theorem ExtW.refl (S : GS) : ExtW S S := ⟨fun _ _ h => h, fun _ _ h l _ => ⟨h, l⟩⟩
theorem ExtW.trans {S S1 S2 : GS} (a : ExtW S S1) (b : ExtW S1 S2) : ExtW S S2 :=
  ⟨fun n x h => b.pre n x (a.pre n x h), fun x o h l n => let ⟨h1, l1⟩ := a.keep x o h l n; b.keep x o h1 l1 n⟩
theorem Ext.refl (S : GS) : Ext S S := ⟨ExtW.refl S, rfl, fun _ _ => rfl⟩
theorem Ext.trans {S S1 S2 : GS} (a : Ext S S1) (b : Ext S1 S2) : Ext S S2 :=
  ⟨a.toExtW.trans b.toExtW, b.rv.trans a.rv, fun x hx => (b.rvk x (by rw [a.rv]; exact hx)).trans (a.rvk x hx)⟩

section
variable {K : PySem.W.Frag} {S S' : GS}
/-- a live object is a list or a dict -/
theorem Rel.live (R : Rel K S) {a : Addr} (l : Live S a) : ∃ u, S.H a = some u ∧ Mut (some u) := by
  rcases l with ⟨n, o, h1, h2, h3⟩ | l
  rotate_left
  · obtain ⟨xs, e⟩ := (R.rsv a l).2
    exact ⟨_, e, trivial⟩
  have q := R.obj n a o h1 h2
  cases o with
  | lst xs => obtain ⟨vs, e, _⟩ := q; exact ⟨_, e, trivial⟩
  | dT kvs => obtain ⟨vs, e, _⟩ := q; exact ⟨_, e, trivial⟩
  | dK kvs => obtain ⟨vs, e, _⟩ := q; exact ⟨_, e, trivial⟩
  | dead => exact absurd rfl h3
theorem Rel.notLive (R : Rel K S) {a : Addr} (h : S.H a = none) : ¬ Live S a := fun l => by
  obtain ⟨u, e, _⟩ := R.live l
  rw [h] at e; cases e
theorem TupAt.mono {a : Addr} {xs : List PV} {vs : List V} (E : ExtW S S') (h : TupAt K S a xs vs) : TupAt K S' a xs vs := by
  rcases h with ⟨l, h⟩ | h
  · obtain ⟨h1, l1⟩ := E.keep a _ h l (fun _ z => by cases z)
    exact .inl ⟨l1, h1⟩
  · exact .inr h
theorem ScrAt.mono {a : Addr} {vs : List V} (E : ExtW S S') (h : ScrAt K S a vs) : ScrAt K S' a vs := by
  rcases h with ⟨l, h | ⟨o, h⟩⟩ | h
  · obtain ⟨h1, l1⟩ := E.keep a _ h l (fun _ z => by cases z)
    exact .inl ⟨l1, .inl h1⟩
  · obtain ⟨h1, l1⟩ := E.keep a _ h l (fun _ z => by cases z)
    exact .inl ⟨l1, .inr ⟨o, h1⟩⟩
  · exact .inr h
theorem ScrAt.sq {a : Addr} {vs : List V} (h : ScrAt K S a vs) : SqL K S.H a vs := by
  rcases h with ⟨l, h⟩ | h
  · exact .inl h
  · exact .inr h
theorem TupAt.sq {a : Addr} {xs : List PV} {vs : List V} (h : TupAt K S a xs vs) : SqT K S.H a vs := by
  rcases h with h | h
  · exact .inl (.inl h.2)
  · exact .inr h.2

mutual
theorem RepV.mono (E : ExtW S S') : ∀ (x : PV) (v : V), RepV K S x v → RepV K S' x v
  | .non, _, h => by simpa only [RepV] using h
  | .bl _, _, h => by simpa only [RepV] using h
  | .int _, _, h => by simpa only [RepV] using h
  | .str _, _, h => by simpa only [RepV] using h
  | .tup xs, v, h => by
    rw [RepV] at h ⊢
    obtain ⟨a, vs, e, t, r⟩ := h
    exact ⟨a, vs, e, t.mono E, RepL.mono E xs vs r⟩
  | .lst xs, v, h => by
    rw [RepV] at h ⊢
    obtain ⟨a, vs, e, l, t, r⟩ := h
    obtain ⟨t1, l1⟩ := E.keep a _ t l (fun _ z => by cases z)
    exact ⟨a, vs, e, l1, t1, RepL.mono E xs vs r⟩
  | .dT xs, v, h => by
    rw [RepV] at h ⊢
    obtain ⟨a, vs, e, l, t, r⟩ := h
    obtain ⟨t1, l1⟩ := E.keep a _ t l (fun _ z => by cases z)
    exact ⟨a, vs, e, l1, t1, RepP.mono E xs vs r⟩
  | .dK xs, v, h => by
    rw [RepV] at h ⊢
    obtain ⟨a, vs, e, l, t, r⟩ := h
    obtain ⟨t1, l1⟩ := E.keep a _ t l (fun _ z => by cases z)
    exact ⟨a, vs, e, l1, t1, RepQ.mono E xs vs r⟩
  | .ref n, v, h => by
    rw [RepV] at h ⊢
    obtain ⟨a, e, p⟩ := h
    exact ⟨a, e, E.pre n a p⟩
  | .ext _ _, _, h => by simpa only [RepV] using h
  | .scr xs, v, h => by
    rw [RepV] at h ⊢
    obtain ⟨a, vs, e, t, r⟩ := h
    exact ⟨a, vs, e, t.mono E, RepL.mono E xs vs r⟩
theorem RepL.mono (E : ExtW S S') : ∀ (x : List PV) (v : List V), RepL K S x v → RepL K S' x v
  | [], _, h => by simpa only [RepL] using h
  | x :: xs, v, h => by
    rw [RepL] at h ⊢
    obtain ⟨v, r, e, h1, h2⟩ := h
    exact ⟨v, r, e, RepV.mono E x v h1, RepL.mono E xs r h2⟩
theorem RepP.mono (E : ExtW S S') : ∀ (x : List (List Key × PV)) (v : List (List Key × V)), RepP K S x v → RepP K S' x v
  | [], _, h => by simpa only [RepP] using h
  | (k, x) :: xs, v, h => by
    rw [RepP] at h ⊢
    obtain ⟨v, r, e, h1, h2⟩ := h
    exact ⟨v, r, e, RepV.mono E x v h1, RepP.mono E xs r h2⟩
theorem RepQ.mono (E : ExtW S S') : ∀ (x : List (Key × PV)) (v : List (Key × V)), RepQ K S x v → RepQ K S' x v
  | [], _, h => by simpa only [RepQ] using h
  | (k, x) :: xs, v, h => by
    rw [RepQ] at h ⊢
    obtain ⟨v, r, e, h1, h2⟩ := h
    exact ⟨v, r, e, RepV.mono E x v h1, RepQ.mono E xs r h2⟩
end

/-! ### lists of values, pointwise -/
theorem RepL.length : ∀ {xs : List PV} {vs : List V}, RepL K S xs vs → vs.length = xs.length
  | [], _, h => by rw [RepL] at h; subst h; rfl
  | x :: xs, _, h => by
    rw [RepL] at h
    obtain ⟨v, r, e, _, h2⟩ := h
    subst e
    simp [RepL.length h2]
theorem repL_nil : RepL K S [] [] := by rw [RepL]
theorem repL_cons {x : PV} {v : V} {xs : List PV} {vs : List V} (h : RepV K S x v) (r : RepL K S xs vs) : RepL K S (x :: xs) (v :: vs) := by
  rw [RepL]; exact ⟨v, vs, rfl, h, r⟩
theorem RepL.append : ∀ {xs ys : List PV} {vs ws : List V}, RepL K S xs vs → RepL K S ys ws → RepL K S (xs ++ ys) (vs ++ ws)
  | [], _, _, _, h, r => by rw [RepL] at h; subst h; exact r
  | x :: xs, ys, vs, ws, h, r => by
    rw [RepL] at h
    obtain ⟨v, t, e, h1, h2⟩ := h
    subst e
    exact repL_cons h1 (RepL.append h2 r)
theorem RepL.get : ∀ {xs : List PV} {vs : List V} {i : Nat} {x : PV}, RepL K S xs vs → xs[i]? = some x → ∃ v, vs[i]? = some v ∧ RepV K S x v
  | [], _, _, _, _, e => by simp at e
  | y :: ys, vs, 0, x, h, e => by
    rw [RepL] at h
    obtain ⟨v, t, e1, h1, h2⟩ := h
    subst e1
    simp at e
    subst e
    exact ⟨v, rfl, h1⟩
  | y :: ys, vs, i + 1, x, h, e => by
    rw [RepL] at h
    obtain ⟨v, t, e1, h1, h2⟩ := h
    subst e1
    obtain ⟨w, h3, h4⟩ := RepL.get (i := i) (x := x) h2 (by simpa using e)
    exact ⟨w, by simpa using h3, h4⟩
theorem RepL.getV : ∀ {xs : List PV} {vs : List V} {i : Nat} {v : V}, RepL K S xs vs → vs[i]? = some v → ∃ x, xs[i]? = some x ∧ RepV K S x v
  | [], _, _, _, h, e => by rw [RepL] at h; subst h; simp at e
  | y :: ys, vs, 0, v, h, e => by
    rw [RepL] at h
    obtain ⟨w, t, e1, h1, h2⟩ := h
    subst e1
    simp at e
    subst e
    exact ⟨y, rfl, h1⟩
  | y :: ys, vs, i + 1, v, h, e => by
    rw [RepL] at h
    obtain ⟨w, t, e1, h1, h2⟩ := h
    subst e1
    obtain ⟨x, h3, h4⟩ := RepL.getV (i := i) (v := v) h2 (by simpa using e)
    exact ⟨x, by simpa using h3, h4⟩
theorem RepL.take : ∀ {xs : List PV} {vs : List V} (n : Nat), RepL K S xs vs → RepL K S (xs.take n) (vs.take n)
  | _, _, 0, _ => by simp [RepL]
  | [], _, _ + 1, h => by rw [RepL] at h; subst h; simp [RepL]
  | x :: xs, vs, n + 1, h => by
    rw [RepL] at h
    obtain ⟨v, t, e, h1, h2⟩ := h
    subst e
    exact repL_cons h1 (RepL.take n h2)
theorem RepL.drop : ∀ {xs : List PV} {vs : List V} (n : Nat), RepL K S xs vs → RepL K S (xs.drop n) (vs.drop n)
  | _, _, 0, h => by simpa using h
  | [], _, _ + 1, h => by rw [RepL] at h; subst h; simp [RepL]
  | x :: xs, vs, n + 1, h => by
    rw [RepL] at h
    obtain ⟨v, t, e, h1, h2⟩ := h
    subst e
    exact RepL.drop n h2
theorem RepL.cut {xs : List PV} {vs : List V} (lo hi : Option Int) (h : RepL K S xs vs) : RepL K S (cutL xs lo hi) (cutV vs lo hi) := by
  unfold cutL cutV
  rw [h.length]
  exact (h.drop _).take _
theorem RepL.flatten (k : Nat) {xs : List PV} {vs : List V} (h : RepL K S xs vs) : RepL K S (List.replicate k xs).flatten (List.replicate k vs).flatten := by
  induction k with
  | zero => exact repL_nil
  | succ n ih =>
    rw [List.replicate_succ, List.replicate_succ, List.flatten_cons, List.flatten_cons]
    exact h.append ih
theorem RepL.atI {xs : List PV} {vs : List V} {i : Int} {x : PV} (h : RepL K S xs vs) (e : L2.atI xs i = some x) : ∃ v, L2.atI vs i = some v ∧ RepV K S x v := by
  unfold L2.atI at e ⊢
  rw [h.length]
  obtain ⟨j, hj, hx⟩ := Option.bind_eq_some_iff.mp e
  rw [hj]
  exact h.get hx
theorem RepL.set : ∀ {xs : List PV} {vs : List V} {x : PV} {v : V} (i : Nat), RepL K S xs vs → RepV K S x v → RepL K S (xs.set i x) (vs.set i v)
  | [], _, _, _, _, h, _ => by rw [RepL] at h; subst h; simp [RepL]
  | y :: ys, vs, x, v, 0, h, q => by
    rw [RepL] at h
    obtain ⟨w, t, e, h1, h2⟩ := h
    subst e
    exact repL_cons q h2
  | y :: ys, vs, x, v, i + 1, h, q => by
    rw [RepL] at h
    obtain ⟨w, t, e, h1, h2⟩ := h
    subst e
    exact repL_cons h1 (RepL.set i h2 q)
/-- a list or a dict is written: the tables stay -/
theorem tabs_wr {H : Hp} {T : List (Addr × Str)} {a : Addr} {u o : HO} (t : LamX.Tabs T H) (e : H a = some u) (n1 : ∀ ps, u ≠ .tbl ps) (n2 : ∀ φ, u ≠ .ext φ) : LamX.Tabs T (upd H a o) := fun p hp => by
  obtain ⟨ps, h1, h2, h3⟩ := t p hp
  refine ⟨ps, ?_, h2, fun pos cv hc => ?_⟩
  · rw [upd_ne fun z => by rw [z] at h1; rw [h1] at e; exact n1 ps (Option.some.inj e).symm]
    exact h1
  · obtain ⟨c, e1, e2⟩ := h3 pos cv hc
    refine ⟨c, e1, ?_⟩
    rw [upd_ne fun z => by rw [z] at e2; rw [e2] at e; exact n2 _ (Option.some.inj e).symm]
    exact e2
theorem Rel.alloc {p : Addr} {o : HO} (R : Rel K S) (hp : S.H p = none) : Ext S { S with H := upd S.H p o } ∧ Rel K { S with H := upd S.H p o } := by
  have ne : ∀ a u, S.H a = some u → a ≠ p := fun a u e z => by subst z; rw [hp] at e; cases e
  have E : Ext S { S with H := upd S.H p o } := ⟨⟨fun _ _ h => h, fun a u e l _ => ⟨by show upd S.H p o a = _; rw [upd_ne (ne a u e)]; exact e, fun z => l z⟩⟩, rfl, fun a ha => by
    obtain ⟨xs, e⟩ := (R.rsv a ha).2
    exact upd_ne (ne a _ e)⟩
  refine ⟨E, R.tabs.ext fun b u e => by show upd S.H p o b = _; rw [upd_ne (ne b u e)]; exact e, R.len, R.nd, fun a ha => ?_, fun a ha => ?_, fun n a q h1 h2 => ?_⟩
  · obtain ⟨u, e, nt⟩ := R.trk a ha
    exact ⟨u, by show upd S.H p o a = _; rw [upd_ne (ne a u e)]; exact e, nt⟩
  · obtain ⟨n, xs, e⟩ := R.rsv a ha
    exact ⟨n, xs, by show upd S.H p o a = _; rw [upd_ne (ne a _ e)]; exact e⟩
  · have z := R.obj n a q h1 h2
    cases q with
    | lst xs =>
      obtain ⟨vs, e, r⟩ := z
      exact ⟨vs, by show upd S.H p o a = _; rw [upd_ne (ne a _ e)]; exact e, r.mono E.toExtW xs vs⟩
    | dT xs =>
      obtain ⟨vs, e, r⟩ := z
      exact ⟨vs, by show upd S.H p o a = _; rw [upd_ne (ne a _ e)]; exact e, r.mono E.toExtW xs vs⟩
    | dK xs =>
      obtain ⟨vs, e, r⟩ := z
      exact ⟨vs, by show upd S.H p o a = _; rw [upd_ne (ne a _ e)]; exact e, r.mono E.toExtW xs vs⟩
    | dead => trivial
theorem notLive_alloc {p : Addr} {o : HO} (R : Rel K S) (hp : S.H p = none) : ¬ Live { S with H := upd S.H p o } p := fun z => R.notLive hp z
/-- a new frozen list, a new tuple -/
theorem rep_newL {p : Addr} {xs : List PV} {vs : List V} (R : Rel K S) (hp : S.H p = none) (r : RepL K S xs vs) : RepV K { S with H := upd S.H p (.lst vs) } (.lst xs) (.ref p) := by
  rw [RepV]
  exact ⟨p, vs, rfl, notLive_alloc R hp, upd_same, r.mono (R.alloc hp).1.toExtW xs vs⟩
theorem rep_newT {p : Addr} {xs : List PV} {vs : List V} (R : Rel K S) (hp : S.H p = none) (r : RepL K S xs vs) : RepV K { S with H := upd S.H p (.tup vs) } (.tup xs) (.ref p) := by
  rw [RepV]
  exact ⟨p, vs, rfl, .inl ⟨notLive_alloc R hp, upd_same⟩, r.mono (R.alloc hp).1.toExtW xs vs⟩

/-! ### what a value is, seen through a reference -/
/-- v is a list of xs, wherever it stands -/
theorem rep_view {x : PV} {v : V} (R : Rel K S) (h : RepV K S x v) :
    (∃ xs, view S.h x = .lst xs ∧ ∃ a vs, v = .ref a ∧ S.H a = some (.lst vs) ∧ RepL K S xs vs) ∨
    (∃ xs, view S.h x = .dT xs ∧ ∃ a vs, v = .ref a ∧ S.H a = some (.dT vs) ∧ RepP K S xs vs) ∨
    (∃ xs, view S.h x = .dK xs ∧ ∃ a vs, v = .ref a ∧ S.H a = some (.dK vs) ∧ RepQ K S xs vs) ∨
    (∃ n, view S.h x = .ref n) ∨
    (view S.h x = x ∧ ((∃ xs, x = .tup xs) ∨ x.flat = true)) := by
  cases x with
  | non => exact .inr (.inr (.inr (.inr ⟨rfl, .inr rfl⟩)))
  | bl b => exact .inr (.inr (.inr (.inr ⟨rfl, .inr rfl⟩)))
  | int i => exact .inr (.inr (.inr (.inr ⟨rfl, .inr rfl⟩)))
  | str s => exact .inr (.inr (.inr (.inr ⟨rfl, .inr rfl⟩)))
  | tup xs => exact .inr (.inr (.inr (.inr ⟨rfl, .inl ⟨xs, rfl⟩⟩)))
  | lst xs =>
    rw [RepV] at h
    obtain ⟨a, vs, e, _, t, r⟩ := h
    exact .inl ⟨xs, rfl, a, vs, e, t, r⟩
  | dT xs =>
    rw [RepV] at h
    obtain ⟨a, vs, e, _, t, r⟩ := h
    exact .inr (.inl ⟨xs, rfl, a, vs, e, t, r⟩)
  | dK xs =>
    rw [RepV] at h
    obtain ⟨a, vs, e, _, t, r⟩ := h
    exact .inr (.inr (.inl ⟨xs, rfl, a, vs, e, t, r⟩))
  | ref n =>
    rw [RepV] at h
    obtain ⟨a, e, p⟩ := h
    cases q : S.h[n]? with
    | none => exact .inr (.inr (.inr (.inl ⟨n, by simp only [view, q]⟩)))
    | some o =>
      have z := R.obj n a o p q
      cases o with
      | lst xs =>
        obtain ⟨vs, t, r⟩ := z
        exact .inl ⟨xs, by simp only [view, q], a, vs, e, t, r⟩
      | dT xs =>
        obtain ⟨vs, t, r⟩ := z
        exact .inr (.inl ⟨xs, by simp only [view, q], a, vs, e, t, r⟩)
      | dK xs =>
        obtain ⟨vs, t, r⟩ := z
        exact .inr (.inr (.inl ⟨xs, by simp only [view, q], a, vs, e, t, r⟩))
      | dead => exact .inr (.inr (.inr (.inl ⟨n, by simp only [view, q]⟩)))
  | ext a k => exact .inr (.inr (.inr (.inl ⟨0, rfl⟩)))
  | scr xs => exact .inr (.inr (.inr (.inl ⟨0, rfl⟩)))
theorem rep_viewL {x : PV} {v : V} {xs : List PV} (R : Rel K S) (h : RepV K S x v) (e : view S.h x = .lst xs) : ∃ a vs, v = .ref a ∧ S.H a = some (.lst vs) ∧ RepL K S xs vs := by
  rcases rep_view R h with ⟨ys, e1, q⟩ | ⟨ys, e1, q⟩ | ⟨ys, e1, q⟩ | ⟨n, e1⟩ | ⟨e1, q⟩
  · rw [e] at e1; cases e1; exact q
  · rw [e] at e1; cases e1
  · rw [e] at e1; cases e1
  · rw [e] at e1; cases e1
  · rw [e] at e1; subst e1; rcases q with ⟨_, q⟩ | q <;> cases q
theorem rep_viewDT {x : PV} {v : V} {xs : List (List Key × PV)} (R : Rel K S) (h : RepV K S x v) (e : view S.h x = .dT xs) : ∃ a vs, v = .ref a ∧ S.H a = some (.dT vs) ∧ RepP K S xs vs := by
  rcases rep_view R h with ⟨ys, e1, q⟩ | ⟨ys, e1, q⟩ | ⟨ys, e1, q⟩ | ⟨n, e1⟩ | ⟨e1, q⟩
  · rw [e] at e1; cases e1
  · rw [e] at e1; cases e1; exact q
  · rw [e] at e1; cases e1
  · rw [e] at e1; cases e1
  · rw [e] at e1; subst e1; rcases q with ⟨_, q⟩ | q <;> cases q
theorem rep_viewDK {x : PV} {v : V} {xs : List (Key × PV)} (R : Rel K S) (h : RepV K S x v) (e : view S.h x = .dK xs) : ∃ a vs, v = .ref a ∧ S.H a = some (.dK vs) ∧ RepQ K S xs vs := by
  rcases rep_view R h with ⟨ys, e1, q⟩ | ⟨ys, e1, q⟩ | ⟨ys, e1, q⟩ | ⟨n, e1⟩ | ⟨e1, q⟩
  · rw [e] at e1; cases e1
  · rw [e] at e1; cases e1
  · rw [e] at e1; cases e1; exact q
  · rw [e] at e1; cases e1
  · rw [e] at e1; subst e1; rcases q with ⟨_, q⟩ | q <;> cases q
/-- what is neither list nor dict is itself -/
theorem view_self {h : LH} {x y : PV} (e : view h x = y) (hy : (∃ xs, y = .tup xs) ∨ y.flat = true) : x = y := by
  cases x with
  | ref n =>
    exfalso
    unfold view at e
    have key : ∀ o : Option LO, (match o with
      | some (.lst xs) => PV.lst xs
      | some (.dT kvs) => .dT kvs
      | some (.dK kvs) => .dK kvs
      | _ => .ref n) = y → False := fun o e => by
      rcases hy with ⟨_, q⟩ | q
      · subst q
        split at e <;> cases e
      · split at e <;> (subst e; cases q)
    exact key _ e
  | ext a k =>
    exfalso
    have e : PV.ref 0 = y := e
    subst e
    rcases hy with ⟨_, q⟩ | q <;> cases q
  | scr xs =>
    exfalso
    have e : PV.ref 0 = y := e
    subst e
    rcases hy with ⟨_, q⟩ | q <;> cases q
  | _ => exact e
theorem view_noExt (h : LH) (x : PV) (a k : Nat) : view h x ≠ .ext a k := by
  cases x with
  | ref n =>
    simp only [view]
    split <;> exact fun z => PV.noConfusion z
  | _ => exact fun z => PV.noConfusion z
theorem view_noScr (h : LH) (x : PV) (xs : List PV) : view h x ≠ .scr xs := by
  cases x with
  | ref n =>
    simp only [view]
    split <;> exact fun z => PV.noConfusion z
  | _ => exact fun z => PV.noConfusion z
theorem rep_tup {xs : List PV} {v : V} (h : RepV K S (.tup xs) v) : ∃ a vs, v = .ref a ∧ TupAt K S a xs vs ∧ RepL K S xs vs := by rw [RepV] at h; exact h
theorem rep_int {i : Int} {v : V} (h : RepV K S (.int i) v) : v = .int i := by rw [RepV] at h; exact h
theorem rep_bl {i : Bool} {v : V} (h : RepV K S (.bl i) v) : v = .bl i := by rw [RepV] at h; exact h
theorem rep_non {v : V} (h : RepV K S .non v) : v = .non := by rw [RepV] at h; exact h
theorem rep_str {s : Str} {v : V} (h : RepV K S (.str s) v) : v = .str s ∧ strOk s := by rw [RepV] at h; exact h
end
end G
end
section
set_option Elab.async false
set_option linter.all false
set_option maxRecDepth 100000
/-! G3: the combinators are the program: expressions. -/
namespace G
open PySem PySem.Spec PyProof.Rows L2
variable [Tabl]

abbrev St := L2.St
theorem takes0N {X : Cx} : L2N.Takes X (fun _ _ _ _ => False) := fun _ _ x => by
  obtain ⟨_, _, _, _, _, _, _, _, _, _, _, _, _, _, _, _, z⟩ := x
  exact z.elim
/-- the slots -/
def EnvR (K : PySem.W.Frag) (S : GS) (env : Env) (σ : St) : Prop := σ.length = env.length ∧ ∀ (i : Nat) (x : PV), env[i]? = some (some x) → ∃ v, σ[i]? = some (some v) ∧ RepV K S x v
theorem EnvR.mono {K : PySem.W.Frag} {S S' : GS} {env : Env} {σ : St} (E : ExtW S S') (h : EnvR K S env σ) : EnvR K S' env σ :=
  ⟨h.1, fun i x e => let ⟨v, e1, r⟩ := h.2 i x e; ⟨v, e1, r.mono E x v⟩⟩
theorem EnvR.set {K : PySem.W.Frag} {S : GS} {env : Env} {σ : St} {x : PV} {v : V} (h : EnvR K S env σ) (i : Nat) (r : RepV K S x v) : EnvR K S (env.set i (some x)) (σ.set i (some v)) := by
  refine ⟨by simpa using h.1, fun j y e => ?_⟩
  by_cases hj : i = j
  · subst hj
    by_cases hi : i < env.length
    · rw [List.getElem?_set_self hi] at e
      cases e
      exact ⟨v, List.getElem?_set_self (by rw [h.1]; exact hi), r⟩
    · rw [List.getElem?_eq_none (by simpa using hi)] at e; cases e
  · rw [List.getElem?_set_ne hj] at e
    obtain ⟨w, e1, q⟩ := h.2 j y e
    exact ⟨w, by rw [List.getElem?_set_ne hj]; exact e1, q⟩

/-- where classes of errors stand -/
abbrev CA := Nat → Addr

section
variable (K : PySem.W.Frag) (ca : CA) (W : WX)
def PostE (S : GS) (σ : St) (Q : VK) : Res PV → Prop
  | .ok x h => ∀ S' z, S'.h = h → Ext S S' → Rel K S' → RepV K S' x z → Q z S'.H
  | .exc c h => ∀ S', S'.h = h → Ext S S' → Rel K S' → W (.ref (ca c)) none σ S'.H
  | .fail => False
def PostA (S : GS) (σ : St) (Q : List V → Hp → Prop) : Res (List PV) → Prop
  | .ok x h => ∀ S' z, S'.h = h → Ext S S' → Rel K S' → RepL K S' x z → Q z S'.H
  | .exc c h => ∀ S', S'.h = h → Ext S S' → Rel K S' → W (.ref (ca c)) none σ S'.H
  | .fail => False
def PostT (S : GS) (σ : St) (Q : Bool → Hp → Prop) : Res Bool → Prop
  | .ok x h => ∀ S', S'.h = h → Ext S S' → Rel K S' → Q x S'.H
  | .exc c h => ∀ S', S'.h = h → Ext S S' → Rel K S' → W (.ref (ca c)) none σ S'.H
  | .fail => False
variable (F : FEnv)
/-- the state stands as pure data say, and c's result is what follows -/
def tE (c : CE) : TE := fun σ H Q => ∃ (S : GS) (env : Env), S.H = H ∧ Rel K S ∧ EnvR K S env σ ∧ PostE K ca W S σ Q (c F env S.h)
def tA (c : CL) : TA := fun σ H Q => ∃ (S : GS) (env : Env), S.H = H ∧ Rel K S ∧ EnvR K S env σ ∧ PostA K ca W S σ Q (c F env S.h)
def tT (c : CB) : TT := fun σ H Q => ∃ (S : GS) (env : Env), S.H = H ∧ Rel K S ∧ EnvR K S env σ ∧ PostT K ca W S σ Q (c F env S.h)
end

theorem PE.imp {X : Cx} {e : Expr} {t t' : TE} (h : PE X e t) (k : ∀ σ H Q, t' σ H Q → t σ H Q) : PE X e t' := ⟨fun pins s σ H Q I q => h.run pins s σ H Q I (k σ H Q q)⟩
theorem PT.imp {X : Cx} {e : Expr} {t t' : TT} (h : PT X e t) (k : ∀ σ H Q, t' σ H Q → t σ H Q) : PT X e t' := ⟨fun pins s σ H Q I q => h.run pins s σ H Q I (k σ H Q q)⟩
theorem PW.imp {X : Cx} {e : Expr} {t t' : TT} (h : PW X e t) (k : ∀ σ H Q, t' σ H Q → t σ H Q) : PW X e t' := ⟨fun wh pins s σ H Q I q => h.run wh pins s σ H Q I (k σ H Q q)⟩
theorem PA.imp {X : Cx} {e : List Expr} {t t' : TA} (h : PA X e t) (k : ∀ σ H Q, t' σ H Q → t σ H Q) : PA X e t' := ⟨fun p pins s σ H Q I q => h.run p pins s σ H Q I (k σ H Q q)⟩
theorem PS.imp {X : Cx} {e : Stmt} {t t' : TS} (h : PS X e t) (k : ∀ σ H Q, t' σ H Q → t σ H Q) : PS X e t' := ⟨fun pins s σ H D I q => h.run pins s σ H D I (k D σ H q)⟩
theorem PSs.imp {X : Cx} {e : List Stmt} {t t' : TS} (h : PSs X e t) (k : ∀ σ H Q, t' σ H Q → t σ H Q) : PSs X e t' := ⟨fun pins s σ H D I q => h.run pins s σ H D I (k D σ H q)⟩

section
variable {K : PySem.W.Frag} {ca : CA} {W : WX} {S S' : GS} {σ : St} {Q : VK}
theorem PostE.ext (E : Ext S S') {r : Res PV} (h : PostE K ca W S σ Q r) : PostE K ca W S' σ Q r := by
  cases r with
  | ok x g => exact fun S1 z eh e R q => h S1 z eh (E.trans e) R q
  | exc c g => exact fun S1 eh e R => h S1 eh (E.trans e) R
  | fail => exact h
theorem PostA.ext {Q : List V → Hp → Prop} (E : Ext S S') {r : Res (List PV)} (h : PostA K ca W S σ Q r) : PostA K ca W S' σ Q r := by
  cases r with
  | ok x g => exact fun S1 z eh e R q => h S1 z eh (E.trans e) R q
  | exc c g => exact fun S1 eh e R => h S1 eh (E.trans e) R
  | fail => exact h
theorem PostT.ext {Q : Bool → Hp → Prop} (E : Ext S S') {r : Res Bool} (h : PostT K ca W S σ Q r) : PostT K ca W S' σ Q r := by
  cases r with
  | ok x g => exact fun S1 eh e R => h S1 eh (E.trans e) R
  | exc c g => exact fun S1 eh e R => h S1 eh (E.trans e) R
  | fail => exact h
/-- what follows a value -/
theorem PostE.bindE {r : Res PV} {f : PV → LH → Res PV} (h : PostE K ca W S σ Q (r.bind f))
    {Q1 : VK} (k : ∀ x S' z, Ext S S' → Rel K S' → RepV K S' x z → PostE K ca W S' σ Q (f x S'.h) → Q1 z S'.H) : PostE K ca W S σ Q1 r := by
  cases r with
  | ok x g => exact fun S1 z eh e R q => by subst eh; exact k x S1 z e R q (PostE.ext e h)
  | exc c g => exact h
  | fail => exact h
theorem PostE.bindEA {Q : List V → Hp → Prop} {r : Res PV} {f : PV → LH → Res (List PV)} (h : PostA K ca W S σ Q (r.bind f))
    {Q1 : VK} (k : ∀ x S' z, Ext S S' → Rel K S' → RepV K S' x z → PostA K ca W S' σ Q (f x S'.h) → Q1 z S'.H) : PostE K ca W S σ Q1 r := by
  cases r with
  | ok x g => exact fun S1 z eh e R q => by subst eh; exact k x S1 z e R q (PostA.ext e h)
  | exc c g => exact h
  | fail => exact h
theorem PostE.bindET {Q : Bool → Hp → Prop} {r : Res PV} {f : PV → LH → Res Bool} (h : PostT K ca W S σ Q (r.bind f))
    {Q1 : VK} (k : ∀ x S' z, Ext S S' → Rel K S' → RepV K S' x z → PostT K ca W S' σ Q (f x S'.h) → Q1 z S'.H) : PostE K ca W S σ Q1 r := by
  cases r with
  | ok x g => exact fun S1 z eh e R q => by subst eh; exact k x S1 z e R q (PostT.ext e h)
  | exc c g => exact h
  | fail => exact h
theorem PostA.bindE {r : Res (List PV)} {f : List PV → LH → Res PV} (h : PostE K ca W S σ Q (r.bind f))
    {Q1 : List V → Hp → Prop} (k : ∀ x S' z, Ext S S' → Rel K S' → RepL K S' x z → PostE K ca W S' σ Q (f x S'.h) → Q1 z S'.H) : PostA K ca W S σ Q1 r := by
  cases r with
  | ok x g => exact fun S1 z eh e R q => by subst eh; exact k x S1 z e R q (PostE.ext e h)
  | exc c g => exact h
  | fail => exact h
theorem PostA.bindA {Q : List V → Hp → Prop} {r : Res (List PV)} {f : List PV → LH → Res (List PV)} (h : PostA K ca W S σ Q (r.bind f))
    {Q1 : List V → Hp → Prop} (k : ∀ x S' z, Ext S S' → Rel K S' → RepL K S' x z → PostA K ca W S' σ Q (f x S'.h) → Q1 z S'.H) : PostA K ca W S σ Q1 r := by
  cases r with
  | ok x g => exact fun S1 z eh e R q => by subst eh; exact k x S1 z e R q (PostA.ext e h)
  | exc c g => exact h
  | fail => exact h
theorem PostT.bindE {r : Res Bool} {f : Bool → LH → Res PV} (h : PostE K ca W S σ Q (r.bind f))
    {Q1 : Bool → Hp → Prop} (k : ∀ x S', Ext S S' → Rel K S' → PostE K ca W S' σ Q (f x S'.h) → Q1 x S'.H) : PostT K ca W S σ Q1 r := by
  cases r with
  | ok x g => exact fun S1 eh e R => by subst eh; exact k x S1 e R (PostE.ext e h)
  | exc c g => exact h
  | fail => exact h
theorem PostT.bindT {Q : Bool → Hp → Prop} {r : Res Bool} {f : Bool → LH → Res Bool} (h : PostT K ca W S σ Q (r.bind f))
    {Q1 : Bool → Hp → Prop} (k : ∀ x S', Ext S S' → Rel K S' → PostT K ca W S' σ Q (f x S'.h) → Q1 x S'.H) : PostT K ca W S σ Q1 r := by
  cases r with
  | ok x g => exact fun S1 eh e R => by subst eh; exact k x S1 e R (PostT.ext e h)
  | exc c g => exact h
  | fail => exact h
theorem PostE.ofT {Q : Bool → Hp → Prop} {r : Res PV} (h : PostT K ca W S σ Q (r.bind fun x h => match x with | .bl c => .ok c h | _ => .fail)) : PostE K ca W S σ (fun x H' => ∃ k, x = .bl k ∧ Q k H') r :=
  PostE.bindET h fun x S' z E R q p => by
    cases x with
    | bl c => rw [RepV] at q; exact ⟨c, q, p S' rfl (Ext.refl _) R⟩
    | _ => exact p.elim
/-- a value is there -/
theorem PostE.here {x : PV} {z : V} (R : Rel K S) (r : RepV K S x z) (h : PostE K ca W S σ Q (.ok x S.h)) : Q z S.H := h S z rfl (Ext.refl S) R r
theorem PostE.lift_some {o : Option PV} (h : PostE K ca W S σ Q (lift S.h o)) : ∃ x, o = some x ∧ PostE K ca W S σ Q (.ok x S.h) := by
  cases o with
  | none => exact h.elim
  | some x => exact ⟨x, rfl, h⟩
end

/-! ### the judgements -/
def SE (X : Cx) (ca : CA) (F : FEnv) (c : CE) (e : Expr) : Prop := ∀ W : WX, L2N.Takes X W → PE X e (tE X.K ca W F c)
def SA (X : Cx) (ca : CA) (F : FEnv) (c : CL) (e : List Expr) : Prop := ∀ W : WX, L2N.Takes X W → PA X e (tA X.K ca W F c)
def ST (X : Cx) (ca : CA) (F : FEnv) (c : CB) (e : Expr) : Prop := ∀ W : WX, L2N.Takes X W → PT X e (tT X.K ca W F c)
def STW (X : Cx) (ca : CA) (F : FEnv) (c : CB) (e : Expr) : Prop := ∀ W : WX, L2N.Takes X W → PW X e (tT X.K ca W F c)

section
variable {X : Cx} {ca : CA} {F : FEnv} {a b : Expr} {ca1 cb : CE} {pos : Pos}
theorem se_var {i : Nat} {x : Str} (hN : X.N[i]? = some x) (hv : Vis X.env.scope x) (hd : (x == ("__debug__" : Str)) = false) (hcd : (x == ("__classdict__" : Str)) = false) : SE X ca F (cVar i) (.Name x pos) := fun W _ =>
  PE.imp (pe_var hN hv hd hcd) fun σ H Q ⟨S, env, eH, R, e, p⟩ => by
    subst eH
    unfold cVar at p
    cases q : env[i]? with
    | none => rw [q] at p; exact p.elim
    | some o =>
      cases o with
      | none => rw [q] at p; exact p.elim
      | some x =>
        rw [q] at p
        obtain ⟨v, e1, r⟩ := e.2 i x q
        exact ⟨v, e1, p.here R r⟩
theorem se_int {i : Int} {j} : SE X ca F (cC (.int i)) (.Constant (.int i) j pos) := fun W _ =>
  PE.imp pe_int fun σ H Q ⟨S, env, eH, R, e, p⟩ => by
    subst eH
    exact PostE.here R (by rw [RepV]) p
theorem se_bl {i : Bool} {j} : SE X ca F (cC (.bl i)) (.Constant (.bool i) j pos) := fun W _ =>
  PE.imp pe_bl fun σ H Q ⟨S, env, eH, R, e, p⟩ => by
    subst eH
    exact PostE.here R (by rw [RepV]) p
theorem se_non {j} : SE X ca F (cC .non) (.Constant .none j pos) := fun W _ =>
  PE.imp pe_non fun σ H Q ⟨S, env, eH, R, e, p⟩ => by
    subst eH
    exact PostE.here R (by rw [RepV]) p
theorem se_str {s : Str} {j} (h : PyData.strOk s = true) : SE X ca F (cC (.str s)) (.Constant (.str s) j pos) := fun W _ =>
  PE.imp pe_str fun σ H Q ⟨S, env, eH, R, e, p⟩ => by
    subst eH
    exact PostE.here R (by rw [RepV]; exact ⟨rfl, h⟩) p

/-! ### operators by values -/
/-- op is what f does -/
def OpS (X : Cx) (f : Value → Value → Sem Value) (op : LH → PV → PV → Option PV) : Prop :=
  ∀ (pins : List (Addr × Obj)) (s : Shared) (σ : St) (S : GS) (x y : PV) (xv yv : V) (v u : Value) (r : PV) (Q : VK), Inv X pins σ S.H s → Rel X.K S → RepV X.K S x xv → RepV X.K S y yv → RelV xv v → RelV yv u → op S.h x y = some r →
    (∀ H' z, Ext S { S with H := H' } → Rel X.K { S with H := H' } → RepV X.K { S with H := H' } r z → Q z H') → wpAny (model X.prog X.w) X.A (f v u) (EP X pins σ Q) X.xe s
def rOp (K : PySem.W.Frag) (op : LH → PV → PV → Option PV) : R2 := fun xv yv H Q => ∃ (S : GS) (x y r : PV), S.H = H ∧ Rel K S ∧ RepV K S x xv ∧ RepV K S y yv ∧ op S.h x y = some r ∧
  ∀ H' z, Ext S { S with H := H' } → Rel K { S with H := H' } → RepV K { S with H := H' } r z → Q z H'
theorem OpS.opR {f : Value → Value → Sem Value} {op : LH → PV → PV → Option PV} (h : OpS X f op) : OpR X f (rOp X.K op) := by
  intro pins s σ H x y v u Q I r1 r2 ⟨S, px, py, r, eH, R, h1, h2, e, k⟩
  subst eH
  exact h pins s σ S px py x y v u r Q I R h1 h2 r1 r2 e k
/-- from a reading of the layer's -/
theorem OpS.of {f : Value → Value → Sem Value} {op : LH → PV → PV → Option PV} {r2 : R2} (h : OpR X f r2)
    (k : ∀ (S : GS) (x y : PV) (xv yv : V) (r : PV) (Q : VK), Rel X.K S → RepV X.K S x xv → RepV X.K S y yv → op S.h x y = some r →
      (∀ H' z, Ext S { S with H := H' } → Rel X.K { S with H := H' } → RepV X.K { S with H := H' } r z → Q z H') → r2 xv yv S.H Q) : OpS X f op := by
  intro pins s σ S x y xv yv v u r Q I R h1 h2 r1 r2' e q
  exact h pins s σ S.H xv yv v u Q I r1 r2' (k S x y xv yv r Q R h1 h2 e q)
/-- the end of a binary operation -/
theorem op2_end {op : LH → PV → PV → Option PV} {W : WX} {S : GS} {σ : St} {Q : VK} {x y : PV} {xv yv : V} (R : Rel X.K S) (hx : RepV X.K S x xv) (hy : RepV X.K S y yv) (p : PostE X.K ca W S σ Q (lift S.h (op S.h x y))) : rOp X.K op xv yv S.H Q := by
  obtain ⟨r, e, p⟩ := p.lift_some
  exact ⟨S, x, y, r, rfl, R, hx, hy, e, fun H' z E R' q => p _ z (by rfl) E R' q⟩
theorem op2_imp {op : LH → PV → PV → Option PV} {W : WX} {σ : St} {H : Hp} {Q : VK} (h : tE X.K ca W F (cOp2 op ca1 cb) σ H Q) : tOp (rOp X.K op) (tE X.K ca W F ca1) (tE X.K ca W F cb) σ H Q := by
  obtain ⟨S, env, eH, R, e, p⟩ := h
  subst eH
  refine ⟨S, env, rfl, R, e, PostE.bindE p fun x S1 z E1 R1 r1 p1 => ?_⟩
  refine ⟨S1, env, rfl, R1, e.mono E1.toExtW, PostE.bindE p1 fun y S2 z2 E2 R2 r2 p2 => ?_⟩
  exact op2_end R2 (r1.mono E2.toExtW x z) r2 p2
theorem se_op {op : Operator} {f : LH → PV → PV → Option PV} (ho : OpS X (binaryOp op) f) (ha : SE X ca F ca1 a) (hb : SE X ca F cb b) : SE X ca F (cOp2 f ca1 cb) (.BinOp a op b pos) := fun W tk =>
  PE.imp (pe_op ho.opR (ha W tk) (hb W tk)) fun _ _ _ h => op2_imp h
theorem se_cmp {op : CmpOp} {f : LH → PV → PV → Option PV} (ho : OpS X (compareOp op) f) (ha : SE X ca F ca1 a) (hb : SE X ca F cb b) (hm : behindInMarks op b = false) : SE X ca F (cOp2 f ca1 cb) (.Compare a [op] [b] pos) := fun W tk =>
  PE.imp (pe_cmpR ho.opR (ha W tk) (hb W tk) hm) fun _ _ _ h => op2_imp h
theorem st_cmp {op : CmpOp} {f : LH → PV → PV → Option PV} (ho : OpS X (compareOp op) f) (ha : SE X ca F ca1 a) (hb : SE X ca F cb b) (hm : behindInMarks op b = false) : ST X ca F (tVal (cOp2 f ca1 cb)) (.Compare a [op] [b] pos) := fun W tk =>
  PT.imp (pt_cmpR ho.opR (ha W tk) (hb W tk) hm) fun σ H Q ⟨S, env, eH, R, e, p⟩ => by
    subst eH
    refine op2_imp (Q := fun x H' => ∃ k, x = .bl k ∧ Q k H') ⟨S, env, rfl, R, e, PostE.bindET p fun x S1 z E1 R1 r1 p1 => ?_⟩
    cases x with
    | bl c => exact ⟨c, rep_bl r1, p1 S1 rfl (Ext.refl _) R1⟩
    | _ => exact p1.elim
/-! ### lists of expressions -/
theorem sa_nil : SA X ca F lNil [] := fun W _ => PA.imp pa_nil fun σ H Q ⟨S, env, eH, R, e, p⟩ => by
  subst eH
  exact p S [] rfl (Ext.refl S) R repL_nil
theorem sa_cons {es : List Expr} {cl : CL} (ha : SE X ca F ca1 a) (hr : SA X ca F cl es) (hs : starEach (a :: es) X.env = (false, eval a X.env) :: starEach es X.env) : SA X ca F (lCons ca1 cl) (a :: es) := fun W tk =>
  PA.imp (pa_cons (ha W tk) (hr W tk) hs) fun σ H Q ⟨S, env, eH, R, e, p⟩ => by
    subst eH
    refine ⟨S, env, rfl, R, e, PostE.bindEA p fun x S1 z E1 R1 r1 p1 => ?_⟩
    refine ⟨S1, env, rfl, R1, e.mono E1.toExtW, PostA.bindA p1 fun xs S2 zs E2 R2 r2 p2 => ?_⟩
    exact p2 S2 (z :: zs) rfl (Ext.refl _) R2 (repL_cons (r1.mono E2.toExtW x z) r2)
theorem sizeOk_le {n : Nat} (h : sizeOk n = true) : n ≤ sizeLine := by
  unfold sizeOk at h
  have := of_decide_eq_true h
  rw [sizeLine_eq]
  omega
theorem se_tup {es : List Expr} {cl : CL} {x1} (h : SA X ca F cl es) : SE X ca F (cTup cl) (.Tuple es x1 pos) := fun W tk =>
  PE.imp (pe_tup (h W tk)) fun σ H Q ⟨S, env, eH, R, e, p⟩ => by
    subst eH
    refine ⟨S, env, rfl, R, e, PostA.bindE p fun xs S1 zs E1 R1 r1 p1 => ?_⟩
    by_cases hz : sizeOk xs.length = true
    · rw [if_pos hz] at p1
      refine ⟨by rw [r1.length]; exact sizeOk_le hz, fun q hq => ?_⟩
      obtain ⟨E2, R2⟩ := R1.alloc (o := .tup zs) hq
      exact p1 _ _ (by rfl) E2 R2 (rep_newT R1 hq r1)
    · rw [if_neg hz] at p1
      exact p1.elim
theorem se_lst {es : List Expr} {cl : CL} (h : SA X ca F cl es) : SE X ca F (cLst cl) (.List es pos) := fun W tk =>
  PE.imp (pe_lst (h W tk)) fun σ H Q ⟨S, env, eH, R, e, p⟩ => by
    subst eH
    refine ⟨S, env, rfl, R, e, PostA.bindE p fun xs S1 zs E1 R1 r1 p1 => ?_⟩
    by_cases hz : sizeOk xs.length = true
    · rw [if_pos hz] at p1
      refine ⟨by rw [r1.length]; exact sizeOk_le hz, fun q hq => ?_⟩
      obtain ⟨E2, R2⟩ := R1.alloc (o := .lst zs) hq
      exact p1 _ _ (by rfl) E2 R2 (rep_newL R1 hq r1)
    · rw [if_neg hz] at p1
      exact p1.elim

/-! ### and, or, not, if -/
theorem se_one {op} (h : SE X ca F ca1 a) : SE X ca F ca1 (.BoolOp op [a] pos) := fun W tk => pe_one (h W tk)
theorem se_and {rest : List Expr} (ha : SE X ca F ca1 a) (hb : SE X ca F cb (.BoolOp .And (b :: rest) pos)) : SE X ca F (cAnd ca1 cb) (.BoolOp .And (a :: b :: rest) pos) := fun W tk =>
  PE.imp (pe_and (ha W tk) (hb W tk)) fun σ H Q ⟨S, env, eH, R, e, p⟩ => by
    subst eH
    refine ⟨S, env, rfl, R, e, PostE.bindE p fun x S1 z E1 R1 r1 p1 => ?_⟩
    cases x with
    | bl c =>
      refine ⟨c, rep_bl r1, ?_⟩
      cases c with
      | true => exact ⟨S1, env, rfl, R1, e.mono E1.toExtW, p1⟩
      | false => exact p1.here R1 (by rw [RepV])
    | _ => exact p1.elim
theorem se_or {rest : List Expr} (ha : SE X ca F ca1 a) (hb : SE X ca F cb (.BoolOp .Or (b :: rest) pos)) : SE X ca F (cOr ca1 cb) (.BoolOp .Or (a :: b :: rest) pos) := fun W tk =>
  PE.imp (pe_or (ha W tk) (hb W tk)) fun σ H Q ⟨S, env, eH, R, e, p⟩ => by
    subst eH
    refine ⟨S, env, rfl, R, e, PostE.bindE p fun x S1 z E1 R1 r1 p1 => ?_⟩
    cases x with
    | bl c =>
      refine ⟨c, rep_bl r1, ?_⟩
      cases c with
      | true => exact p1.here R1 (by rw [RepV])
      | false => exact ⟨S1, env, rfl, R1, e.mono E1.toExtW, p1⟩
    | _ => exact p1.elim
theorem se_not (ha : SE X ca F ca1 a) : SE X ca F (cNot ca1) (.UnaryOp .Not a pos) := fun W tk =>
  PE.imp (pe_not (ha W tk)) fun σ H Q ⟨S, env, eH, R, e, p⟩ => by
    subst eH
    refine ⟨S, env, rfl, R, e, PostE.bindE p fun x S1 z E1 R1 r1 p1 => ?_⟩
    cases x with
    | bl c => exact ⟨c, rep_bl r1, p1.here R1 (by rw [RepV])⟩
    | _ => exact p1.elim
theorem se_if {c : Expr} {cc : CB} (hc : ST X ca F cc c) (ha : SE X ca F ca1 a) (hb : SE X ca F cb b) : SE X ca F (cIf cc ca1 cb) (.IfExp c a b pos) := fun W tk =>
  PE.imp (pe_ifExp (hc W tk) (ha W tk) (hb W tk)) fun σ H Q ⟨S, env, eH, R, e, p⟩ => by
    subst eH
    refine ⟨S, env, rfl, R, e, PostT.bindE p fun x S1 E1 R1 p1 => ?_⟩
    cases x with
    | true => exact ⟨S1, env, rfl, R1, e.mono E1.toExtW, p1⟩
    | false => exact ⟨S1, env, rfl, R1, e.mono E1.toExtW, p1⟩
theorem chain_imp {f f' : LH → PV → PV → Option PV} {cc : CE} {W : WX} {σ : St} {H : Hp} {Q : VK} (h : tE X.K ca W F (cChain f f' ca1 cb cc) σ H Q) :
    tChain (rOp X.K f) (rOp X.K f') (tE X.K ca W F ca1) (tE X.K ca W F cb) (tE X.K ca W F cc) σ H Q := by
  obtain ⟨S, env, eH, R, e, p⟩ := h
  subst eH
  refine ⟨S, env, rfl, R, e, PostE.bindE p fun x S1 z E1 R1 r1 p1 => ?_⟩
  refine ⟨S1, env, rfl, R1, e.mono E1.toExtW, PostE.bindE p1 fun y S2 z2 E2 R2 r2 p2 => ?_⟩
  cases q : f S2.h x y with
  | none => simp only [q] at p2; exact p2.elim
  | some o =>
    simp only [q] at p2
    cases o with
    | bl k =>
      refine ⟨S2, x, y, .bl k, rfl, R2, r1.mono E2.toExtW x z, r2, q, fun H' w' E3 R3 r3 => ⟨k, rep_bl r3, ?_⟩⟩
      cases k with
      | true =>
        refine ⟨{ S2 with H := H' }, env, rfl, R3, ((e.mono E1.toExtW).mono E2.toExtW).mono E3.toExtW, PostE.bindE (PostE.ext E3 p2) fun t S4 z4 E4 R4 r4 p4 => ?_⟩
        exact op2_end R4 ((r2.mono E3.toExtW y z2).mono E4.toExtW y z2) r4 p4
      | false => exact (PostE.ext E3 p2) _ _ (by rfl) (Ext.refl _) R3 (by rw [RepV])
    | _ => exact p2.elim
theorem se_chain {op op' : CmpOp} {f f' : LH → PV → PV → Option PV} {c : Expr} {cc : CE} (ho : OpS X (compareOp op) f) (ho' : OpS X (compareOp op') f') (ha : SE X ca F ca1 a) (hb : SE X ca F cb b) (hc : SE X ca F cc c)
    (hm : behindInMarks op b = false) (hm' : behindInMarks op' c = false)
    (pe : ∀ {r r' : R2} {ta tb tc : TE}, OpR X (compareOp op) r → OpR X (compareOp op') r' → PE X a ta → PE X b tb → PE X c tc → PE X (.Compare a [op, op'] [b, c] pos) (tChain r r' ta tb tc)) : SE X ca F (cChain f f' ca1 cb cc) (.Compare a [op, op'] [b, c] pos) := fun W tk =>
  PE.imp (pe ho.opR ho'.opR (ha W tk) (hb W tk) (hc W tk)) fun σ H Q h => chain_imp h
/-! ### tests -/
theorem st_val (ha : SE X ca F ca1 a) (he : ∀ whole, isTrue a X.env whole = (do let v ← whole; standAt a.pos; holding [v] (truthy v))) : ST X ca F (tVal ca1) a := fun W tk =>
  PT.imp (pt_val (ha W tk) he) fun σ H Q ⟨S, env, eH, R, e, p⟩ => by
    subst eH
    refine ⟨S, env, rfl, R, e, PostE.bindET p fun x S1 z E1 R1 r1 p1 => ?_⟩
    cases x with
    | bl c => exact ⟨c, rep_bl r1, p1 S1 rfl (Ext.refl _) R1⟩
    | _ => exact p1.elim
theorem stw_and1 {ct : CB} (ha : ST X ca F ct a) : STW X ca F ct (.BoolOp .And [a] pos) := fun W tk => pw_and1 (ha W tk)
theorem stw_or1 {ct : CB} (ha : ST X ca F ct a) : STW X ca F ct (.BoolOp .Or [a] pos) := fun W tk => pw_or1 (ha W tk)
theorem stw_and {ct cu : CB} {rest : List Expr} (ha : ST X ca F ct a) (hb : STW X ca F cu (.BoolOp .And (b :: rest) pos)) : STW X ca F (tAnd ct cu) (.BoolOp .And (a :: b :: rest) pos) := fun W tk =>
  PW.imp (pw_and (ha W tk) (hb W tk)) fun σ H Q ⟨S, env, eH, R, e, p⟩ => by
    subst eH
    refine ⟨S, env, rfl, R, e, PostT.bindT p fun x S1 E1 R1 p1 => ?_⟩
    cases x with
    | true => exact ⟨S1, env, rfl, R1, e.mono E1.toExtW, p1⟩
    | false => exact p1 S1 rfl (Ext.refl _) R1
theorem stw_or {ct cu : CB} {rest : List Expr} (ha : ST X ca F ct a) (hb : STW X ca F cu (.BoolOp .Or (b :: rest) pos)) : STW X ca F (tOr ct cu) (.BoolOp .Or (a :: b :: rest) pos) := fun W tk =>
  PW.imp (pw_or (ha W tk) (hb W tk)) fun σ H Q ⟨S, env, eH, R, e, p⟩ => by
    subst eH
    refine ⟨S, env, rfl, R, e, PostT.bindT p fun x S1 E1 R1 p1 => ?_⟩
    cases x with
    | true => exact p1 S1 rfl (Ext.refl _) R1
    | false => exact ⟨S1, env, rfl, R1, e.mono E1.toExtW, p1⟩
theorem STW.st {ct : CB} (h : STW X ca F ct a) : ST X ca F ct a := fun W tk => (h W tk).pt
theorem st_not {ct : CB} (ha : ST X ca F ct a) : ST X ca F (tNot ct) (.UnaryOp .Not a pos) := fun W tk =>
  PT.imp (pt_not (ha W tk)) fun σ H Q ⟨S, env, eH, R, e, p⟩ => by
    subst eH
    exact ⟨S, env, rfl, R, e, PostT.bindT p fun x S1 E1 R1 p1 => p1 S1 rfl (Ext.refl _) R1⟩
theorem st_chain {op op' : CmpOp} {f f' : LH → PV → PV → Option PV} {c : Expr} {cc : CE} (h : SE X ca F (cChain f f' ca1 cb cc) (.Compare a [op, op'] [b, c] pos))
    (pt : ∀ {t : TE}, PE X (.Compare a [op, op'] [b, c] pos) t → PT X (.Compare a [op, op'] [b, c] pos) (tTest t)) : ST X ca F (tVal (cChain f f' ca1 cb cc)) (.Compare a [op, op'] [b, c] pos) := fun W tk =>
  PT.imp (pt (h W tk)) fun σ H Q ⟨S, env, eH, R, e, p⟩ => by
    subst eH
    refine ⟨S, env, rfl, R, e, PostE.bindET p fun x S1 z E1 R1 r1 p1 => ?_⟩
    cases x with
    | bl c => exact ⟨c, rep_bl r1, p1 S1 rfl (Ext.refl _) R1⟩
    | _ => exact p1.elim
end
end G
end
section
set_option Elab.async false
set_option linter.all false
set_option maxRecDepth 100000
/-! G4: the operators on values. -/
namespace G
open PySem PySem.Spec PyProof.Rows L2
variable [Tabl]

/-! ### as data -/
mutual
theorem depth_toD : ∀ x : PV, x.data = true → (toD x).depth = x.depth
  | .non, _ => by simp only [toD, PyData.depth, PV.depth]
  | .bl _, _ => by simp only [toD, PyData.depth, PV.depth]
  | .int _, _ => by simp only [toD, PyData.depth, PV.depth]
  | .str _, _ => by simp only [toD, PyData.depth, PV.depth]
  | .tup xs, h => by
    rw [PV.data] at h
    simp only [toD, PyData.depth, PV.depth, depth_toDL xs h]
  | .lst xs, h => by
    rw [PV.data] at h
    simp only [toD, PyData.depth, PV.depth, depth_toDL xs h]
  | .dT _, h => by rw [PV.data] at h; cases h
  | .dK _, h => by rw [PV.data] at h; cases h
  | .ref _, h => by rw [PV.data] at h; cases h
theorem depth_toDL : ∀ x : List PV, PV.dataL x = true → PyData.depthAll (toDL x) = PV.depthL x
  | [], _ => by simp only [toDL, PyData.depthAll, PV.depthL]
  | x :: xs, h => by
    rw [PV.dataL, Bool.and_eq_true] at h
    simp only [toDL, PyData.depthAll, PV.depthL, depth_toD x h.1, depth_toDL xs h.2]
end
section
variable {K : PySem.W.Frag} {S : GS}
mutual
theorem lay_toD : ∀ (x : PV) (v : V), RepV K S x v → (toD x).canLay0 = true
  | .non, _, _ => by simp only [toD, PyData.canLay0]
  | .bl _, _, _ => by simp only [toD, PyData.canLay0]
  | .int _, _, _ => by simp only [toD, PyData.canLay0]
  | .str _, _, h => by simp only [toD, PyData.canLay0]; exact (rep_str h).2
  | .tup xs, _, h => by
    obtain ⟨a, vs, _, _, r⟩ := rep_tup h
    simp only [toD, PyData.canLay0]
    exact lay_toDL xs vs r
  | .lst xs, _, h => by
    rw [RepV] at h
    obtain ⟨a, vs, _, _, _, r⟩ := h
    simp only [toD, PyData.canLay0]
    exact lay_toDL xs vs r
  | .dT _, _, _ => by simp only [toD, PyData.canLay0]
  | .dK _, _, _ => by simp only [toD, PyData.canLay0]
  | .ref _, _, _ => by simp only [toD, PyData.canLay0]
  | .ext _ _, _, _ => by simp only [toD, PyData.canLay0]
  | .scr _, _, _ => by simp only [toD, PyData.canLay0]
theorem lay_toDL : ∀ (x : List PV) (v : List V), RepL K S x v → PyData.canLayAll0 (toDL x) = true
  | [], _, _ => by simp only [toDL, PyData.canLayAll0]
  | x :: xs, _, h => by
    rw [RepL] at h
    obtain ⟨v, r, _, h1, h2⟩ := h
    simp only [toDL, PyData.canLayAll0, lay_toD x v h1, lay_toDL xs r h2, Bool.and_self]
end
mutual
theorem rep_dp : ∀ (x : PV) (v : V), RepV K S x v → x.data = true → Dp K S.H v (toD x)
  | .non, _, h, _ => by rw [rep_non h, toD]; exact .non
  | .bl _, _, h, _ => by rw [rep_bl h, toD]; exact .bl _
  | .int _, _, h, _ => by rw [rep_int h, toD]; exact .int _
  | .str _, _, h, _ => by rw [(rep_str h).1, toD]; exact .str _
  | .tup xs, _, h, d => by
    obtain ⟨a, vs, e, t, r⟩ := rep_tup h
    rw [PV.data] at d
    rw [e, toD]
    exact .tup t.sq (rep_dpL xs vs r d)
  | .lst xs, _, h, d => by
    rw [RepV] at h
    obtain ⟨a, vs, e, _, t, r⟩ := h
    rw [PV.data] at d
    rw [e, toD]
    exact .lst (SqL.of t) (rep_dpL xs vs r d)
  | .dT _, _, _, d => by rw [PV.data] at d; cases d
  | .dK _, _, _, d => by rw [PV.data] at d; cases d
  | .ref _, _, _, d => by rw [PV.data] at d; cases d
  | .ext _ _, _, _, d => by rw [PV.data] at d; cases d
  | .scr _, _, _, d => by rw [PV.data] at d; cases d
theorem rep_dpL : ∀ (x : List PV) (v : List V), RepL K S x v → PV.dataL x = true → DpAll K S.H v (toDL x)
  | [], _, h, _ => by rw [RepL] at h; rw [h, toDL]; exact .nil
  | x :: xs, _, h, d => by
    rw [RepL] at h
    obtain ⟨v, r, e, h1, h2⟩ := h
    rw [PV.dataL, Bool.and_eq_true] at d
    rw [e, toDL]
    exact .cons (rep_dp x v h1 d.1) (rep_dpL xs r h2 d.2)
end
/-- .. seen through a reference -/
theorem rep_dpv (R : Rel K S) {x : PV} {v : V} (h : RepV K S x v) (ok : (view S.h x).ok = true) : Dp K S.H v (toD (view S.h x)) ∧ SeqAt.shaped (toD (view S.h x)) = true := by
  unfold PV.ok at ok
  rw [Bool.and_eq_true] at ok
  obtain ⟨od, op⟩ := ok
  have op := of_decide_eq_true op
  have sh : (toD (view S.h x)).canLay0 = true → SeqAt.shaped (toD (view S.h x)) = true := fun l => by
    show ((toD (view S.h x)).canLay0 && decide ((toD (view S.h x)).depth ≤ 64)) = true
    rw [l, depth_toD _ od, Bool.true_and]
    exact decide_eq_true (by omega)
  rcases rep_view R h with ⟨ys, e1, a, vs, ev, t, r⟩ | ⟨ys, e1, q⟩ | ⟨ys, e1, q⟩ | ⟨n, e1⟩ | ⟨e1, q⟩
  · rw [e1] at od sh ⊢
    rw [PV.data] at od
    refine ⟨?_, sh (by simp only [toD, PyData.canLay0]; exact lay_toDL ys vs r)⟩
    rw [ev, toD]
    exact .lst (SqL.of t) (rep_dpL ys vs r od)
  · rw [e1, PV.data] at od; cases od
  · rw [e1, PV.data] at od; cases od
  · rw [e1, PV.data] at od; cases od
  · rw [e1] at od sh ⊢
    exact ⟨rep_dp x v h od, sh (lay_toD x v h)⟩
end
mutual
theorem pyEq_eqv : ∀ x y : PV, x.data = true → y.data = true → pyEq x y = PyData.eqv (toD x) (toD y)
  | .non, y, _, dy => by cases y <;> first | (rw [PV.data] at dy; exact absurd dy (by decide)) | simp [pyEq, toD, PyData.eqv]
  | .bl a, y, _, dy => by cases y <;> first | (rw [PV.data] at dy; exact absurd dy (by decide)) | simp [pyEq, toD, PyData.eqv]
  | .int a, y, _, dy => by cases y <;> first | (rw [PV.data] at dy; exact absurd dy (by decide)) | simp [pyEq, toD, PyData.eqv]
  | .str a, y, _, dy => by
    cases y with
    | str b =>
      simp only [pyEq, toD, PyData.eqv]
      by_cases h : a = b
      · subst h; simp
      · rw [decide_eq_false h]; exact (beq_eq_false_iff_ne.mpr h).symm
    | dT _ => rw [PV.data] at dy; cases dy
    | dK _ => rw [PV.data] at dy; cases dy
    | ref _ => rw [PV.data] at dy; cases dy
    | _ => simp [pyEq, toD, PyData.eqv]
  | .tup xs, y, dx, dy => by
    rw [PV.data] at dx
    cases y with
    | tup ys =>
      rw [PV.data] at dy
      simp only [pyEq, toD, PyData.eqv]
      exact pyEqL_eqv xs ys dx dy
    | dT _ => rw [PV.data] at dy; cases dy
    | dK _ => rw [PV.data] at dy; cases dy
    | ref _ => rw [PV.data] at dy; cases dy
    | _ => simp [pyEq, toD, PyData.eqv]
  | .lst xs, y, dx, dy => by
    rw [PV.data] at dx
    cases y with
    | lst ys =>
      rw [PV.data] at dy
      simp only [pyEq, toD, PyData.eqv]
      exact pyEqL_eqv xs ys dx dy
    | dT _ => rw [PV.data] at dy; cases dy
    | dK _ => rw [PV.data] at dy; cases dy
    | ref _ => rw [PV.data] at dy; cases dy
    | _ => simp [pyEq, toD, PyData.eqv]
  | .dT _, _, d, _ => by rw [PV.data] at d; cases d
  | .dK _, _, d, _ => by rw [PV.data] at d; cases d
  | .ref _, _, d, _ => by rw [PV.data] at d; cases d
theorem pyEqL_eqv : ∀ x y : List PV, PV.dataL x = true → PV.dataL y = true → pyEqL x y = PyData.eqvAll (toDL x) (toDL y)
  | [], [], _, _ => by simp [pyEqL, toDL, PyData.eqvAll]
  | [], _ :: _, _, _ => by simp [pyEqL, toDL, PyData.eqvAll]
  | _ :: _, [], _, _ => by simp [pyEqL, toDL, PyData.eqvAll]
  | x :: xs, y :: ys, dx, dy => by
    rw [PV.dataL, Bool.and_eq_true] at dx dy
    simp only [pyEqL, toDL, PyData.eqvAll]
    rw [pyEq_eqv x y dx.1 dy.1, pyEqL_eqv xs ys dx.2 dy.2]
end

/-! ### the operators -/
section
variable {X : Cx}
theorem OpS.or {f : Value → Value → Sem Value} {op : LH → PV → PV → Option PV} (h : ∀ (S : GS) (x y : PV) (xv yv : V) (r : PV), Rel X.K S → RepV X.K S x xv → RepV X.K S y yv → op S.h x y = some r →
    ∃ r2 : R2, OpR X f r2 ∧ ∀ Q : VK, (∀ H' z, Ext S { S with H := H' } → Rel X.K { S with H := H' } → RepV X.K { S with H := H' } r z → Q z H') → r2 xv yv S.H Q) : OpS X f op := by
  intro pins s σ S x y xv yv v u r Q I R h1 h2 r1 r2' e q
  obtain ⟨r2, ho, k⟩ := h S x y xv yv r R h1 h2 e
  exact ho pins s σ S.H xv yv v u Q I r1 r2' (k Q q)
/-- a scalar result -/
theorem fin_int {S : GS} {i : Int} {Q : VK} (R : Rel X.K S) (q : ∀ H' z, Ext S { S with H := H' } → Rel X.K { S with H := H' } → RepV X.K { S with H := H' } (.int i) z → Q z H') : Q (.int i) S.H := q S.H _ (Ext.refl S) R (by rw [RepV])
theorem fin_b {S : GS} {i : Bool} {Q : VK} (R : Rel X.K S) (q : ∀ H' z, Ext S { S with H := H' } → Rel X.K { S with H := H' } → RepV X.K { S with H := H' } (.bl i) z → Q z H') : Q (.bl i) S.H := q S.H _ (Ext.refl S) R (by rw [RepV])
theorem strOk_append {x y : Str} (hx : strOk x) (hy : strOk y) : strOk (x ++ y) := by
  unfold strOk PyData.strOk at *
  rw [Str.cps_append, Array.all_append, hx, hy]
  rfl
theorem os_add : OpS X (binaryOp .Add) opAdd := OpS.or fun S x y xv yv r R h1 h2 e => by
  unfold opAdd at e
  split at e
  · rename_i i j ex ey
    cases e
    have ex := view_self ex (.inr rfl)
    have ey := view_self ey (.inr rfl)
    subst ex ey
    exact ⟨_, op_add, fun Q q => ⟨i, j, rep_int h1, rep_int h2, fin_int R q⟩⟩
  · rename_i i j ex ey
    have ex := view_self ex (.inr rfl)
    have ey := view_self ey (.inr rfl)
    subst ex ey
    split at e
    · rename_i hz
      cases e
      obtain ⟨e1, s1⟩ := rep_str h1
      obtain ⟨e2, s2⟩ := rep_str h2
      exact ⟨_, op_add_str, fun Q q => ⟨i, j, e1, e2, sizeOk_le hz, q S.H _ (Ext.refl S) R (by rw [RepV]; exact ⟨rfl, strOk_append s1 s2⟩)⟩⟩
    · cases e
  · rename_i xs ys ex ey
    have ex := view_self ex (.inl ⟨_, rfl⟩)
    have ey := view_self ey (.inl ⟨_, rfl⟩)
    subst ex ey
    split at e
    · rename_i hz
      cases e
      obtain ⟨a, vs, e1, t1, q1⟩ := rep_tup h1
      obtain ⟨b, ws, e2, t2, q2⟩ := rep_tup h2
      refine ⟨_, op_catA, fun Q q => ⟨a, b, vs, ws, e1, e2, t1.sq, t2.sq, by rw [q1.length, q2.length]; exact sizeOk_le hz, fun z => ?_, fun _ z => ?_, fun _ _ p hp => ?_⟩⟩
      · have zx : xs = [] := List.eq_nil_of_length_eq_zero (by rw [← q1.length, z]; rfl)
        subst zx
        rw [← e2]
        exact q S.H _ (Ext.refl S) R h2
      · have zy : ys = [] := List.eq_nil_of_length_eq_zero (by rw [← q2.length, z]; rfl)
        subst zy
        rw [← e1]
        exact q S.H _ (Ext.refl S) R (by rw [List.append_nil]; exact h1)
      · exact q _ _ (R.alloc hp).1 (R.alloc hp).2 (rep_newT R hp (q1.append q2))
    · cases e
  · rename_i xs ys ex ey
    split at e
    · rename_i hz
      cases e
      obtain ⟨a, vs, e1, t1, q1⟩ := rep_viewL R h1 ex
      obtain ⟨b, ws, e2, t2, q2⟩ := rep_viewL R h2 ey
      exact ⟨_, op_cat, fun Q q => ⟨a, b, vs, ws, e1, e2, t1, t2, by rw [q1.length, q2.length]; exact sizeOk_le hz, fun p hp => q _ _ (R.alloc hp).1 (R.alloc hp).2 (rep_newL R hp (q1.append q2))⟩⟩
    · cases e
  · cases e
theorem os_sub : OpS X (binaryOp .Sub) opSub := OpS.or fun S x y xv yv r R h1 h2 e => by
  unfold opSub at e
  split at e
  · cases e
    exact ⟨_, op_sub, fun Q q => ⟨_, _, rep_int h1, rep_int h2, fin_int R q⟩⟩
  · cases e
theorem os_mul : OpS X (binaryOp .Mult) opMul := OpS.or fun S x y xv yv r R h1 h2 e => by
  unfold opMul at e
  split at e
  · rename_i i j ex ey
    have ex := view_self ex (.inr rfl)
    have ey := view_self ey (.inr rfl)
    subst ex ey
    split at e
    · rename_i hz
      cases e
      exact ⟨_, op_mulW, fun Q q => ⟨_, _, rep_int h1, rep_int h2, hz, fin_int R q⟩⟩
    · cases e
  · rename_i xs k ex ey
    have ey := view_self ey (.inr rfl)
    subst ey
    split at e
    · rename_i hz
      cases e
      rw [Bool.and_eq_true, Bool.and_eq_true] at hz
      obtain ⟨⟨hz, k1⟩, k2⟩ := hz
      have k1 := of_decide_eq_true k1
      have k2 := of_decide_eq_true k2
      obtain ⟨a, vs, e1, t1, q1⟩ := rep_viewL R h1 ex
      exact ⟨_, op_rep, fun Q q => ⟨a, k, vs, e1, rep_int h2, t1, by omega, by omega, by rw [q1.length]; exact sizeOk_le hz, fun p hp => q _ _ (R.alloc hp).1 (R.alloc hp).2 (rep_newL R hp (q1.flatten _))⟩⟩
    · cases e
  · cases e
theorem os_fdiv : OpS X (binaryOp .FloorDiv) opFdiv := OpS.or fun S x y xv yv r R h1 h2 e => by
  unfold opFdiv at e
  split at e
  · split at e
    · rename_i hz
      cases e
      rw [Bool.and_eq_true] at hz
      exact ⟨_, op_fdivW, fun Q q => ⟨_, _, rep_int h1, rep_int h2, ⟨of_decide_eq_true hz.1, Nat.lt_trans (of_decide_eq_true hz.2) (by decide)⟩, fin_int R q⟩⟩
    · cases e
  · cases e
theorem os_mod : OpS X (binaryOp .Mod) opMod := OpS.or fun S x y xv yv r R h1 h2 e => by
  unfold opMod at e
  split at e
  · split at e
    · rename_i hz
      cases e
      exact ⟨_, op_modN, fun Q q => ⟨_, _, rep_int h1, rep_int h2, hz, fin_int R q⟩⟩
    · cases e
  · cases e
theorem os_pow : OpS X (binaryOp .Pow) opPow := OpS.or fun S x y xv yv r R h1 h2 e => by
  unfold opPow at e
  split at e
  · split at e
    · rename_i hz
      cases e
      rw [Bool.and_eq_true, Bool.and_eq_true] at hz
      obtain ⟨⟨hz, k1⟩, k2⟩ := hz
      exact ⟨_, op_pow, fun Q q => ⟨_, _, rep_int h1, rep_int h2, ⟨of_decide_eq_true hz, Int.le_trans (of_decide_eq_true k1) (by decide), of_decide_eq_true k2⟩, fin_int R q⟩⟩
    · cases e
  · cases e
theorem os_lt_int : OpS X (compareOp .Gt) opGt := OpS.or fun S x y xv yv r R h1 h2 e => by
  unfold opGt at e
  split at e
  · cases e
    exact ⟨_, op_gt, fun Q q => ⟨_, _, rep_int h1, rep_int h2, fin_b R q⟩⟩
  · cases e
theorem os_le : OpS X (compareOp .LtE) opLe := OpS.or fun S x y xv yv r R h1 h2 e => by
  unfold opLe at e
  split at e
  · cases e
    exact ⟨_, op_le, fun Q q => ⟨_, _, rep_int h1, rep_int h2, fin_b R q⟩⟩
  · cases e
theorem os_ge : OpS X (compareOp .GtE) opGe := OpS.or fun S x y xv yv r R h1 h2 e => by
  unfold opGe at e
  split at e
  · cases e
    exact ⟨_, op_ge, fun Q q => ⟨_, _, rep_int h1, rep_int h2, fin_b R q⟩⟩
  · cases e
/-- a general equality -/
theorem opEq_cases {h : LH} {x y r : PV} (e : opEq h x y = some r) : (∃ i j, x = .int i ∧ y = .int j ∧ r = .bl (i == j)) ∨ (∃ i j, x = .str i ∧ y = .str j ∧ r = .bl (decide (i = j))) ∨
    ((view h x).ok = true ∧ (view h y).ok = true ∧ r = .bl (pyEq (view h x) (view h y))) := by
  unfold opEq at e
  split at e
  · exact .inl ⟨_, _, rfl, rfl, (Option.some.inj e).symm⟩
  · exact .inr (.inl ⟨_, _, rfl, rfl, (Option.some.inj e).symm⟩)
  · dsimp only at e
    split at e
    · rename_i hz
      rw [Bool.and_eq_true] at hz
      exact .inr (.inr ⟨hz.1, hz.2, (Option.some.inj e).symm⟩)
    · cases e
theorem os_eq (hu : X.A.units + 64 < cLine) : OpS X (compareOp .Eq) opEq := OpS.or fun S x y xv yv r R h1 h2 e => by
  rcases opEq_cases e with ⟨i, j, rfl, rfl, rfl⟩ | ⟨i, j, rfl, rfl, rfl⟩ | ⟨ox, oy, rfl⟩
  · refine ⟨_, op_eq, fun Q q => ?_⟩
    rw [rep_int h1, rep_int h2]
    exact ⟨rfl, by rw [dec_int]; exact fin_b R q⟩
  · refine ⟨_, op_eq, fun Q q => ?_⟩
    rw [(rep_str h1).1, (rep_str h2).1]
    refine ⟨rfl, ?_⟩
    rw [show decide (V.str i = V.str j) = decide (i = j) by simp]
    exact fin_b R q
  · obtain ⟨d1, s1⟩ := rep_dpv R h1 ox
    obtain ⟨d2, s2⟩ := rep_dpv R h2 oy
    unfold PV.ok at ox oy
    rw [Bool.and_eq_true] at ox oy
    refine ⟨_, op_eqD hu, fun Q q => ⟨_, _, d1, d2, s1, s2, ?_⟩⟩
    rw [← pyEq_eqv _ _ ox.1 oy.1]
    exact fin_b R q
theorem os_ne (hu : X.A.units + 64 < cLine) : OpS X (compareOp .NotEq) opNe := OpS.or fun S x y xv yv r R h1 h2 e => by
  unfold opNe at e
  split at e
  · rename_i b e1
    cases e
    rcases opEq_cases e1 with ⟨i, j, rfl, rfl, eb⟩ | ⟨i, j, rfl, rfl, eb⟩ | ⟨ox, oy, eb⟩
    · cases eb
      refine ⟨_, op_ne, fun Q q => ?_⟩
      rw [rep_int h1, rep_int h2]
      exact ⟨rfl, by rw [dec_int]; exact fin_b R q⟩
    · cases eb
      refine ⟨_, op_ne, fun Q q => ?_⟩
      rw [(rep_str h1).1, (rep_str h2).1]
      refine ⟨rfl, ?_⟩
      rw [show decide (V.str i = V.str j) = decide (i = j) by simp]
      exact fin_b R q
    · cases eb
      obtain ⟨d1, s1⟩ := rep_dpv R h1 ox
      obtain ⟨d2, s2⟩ := rep_dpv R h2 oy
      unfold PV.ok at ox oy
      rw [Bool.and_eq_true] at ox oy
      refine ⟨_, op_neD hu, fun Q q => ⟨_, _, d1, d2, s1, s2, ?_⟩⟩
      rw [← pyEq_eqv _ _ ox.1 oy.1]
      exact fin_b R q
  · cases e
theorem opIs_cases {h : LH} {x y r : PV} (e : opIs h x y = some r) : (y = .non ∧ r = .bl x.isNon) ∨ ∃ a b, x = .bl a ∧ y = .bl b ∧ r = .bl (a == b) := by
  cases y with
  | non => exact .inl ⟨rfl, (Option.some.inj e).symm⟩
  | bl b =>
    cases x with
    | bl a => exact .inr ⟨a, b, rfl, rfl, (Option.some.inj e).symm⟩
    | _ => cases e
  | _ => cases e
theorem rep_isnon {K : PySem.W.Frag} {S : GS} {x : PV} {v : V} (h : RepV K S x v) : decide (v = .non) = x.isNon := by
  cases x with
  | non => rw [rep_non h]; rfl
  | bl b => rw [rep_bl h]; rfl
  | int b => rw [rep_int h]; rfl
  | str b => rw [(rep_str h).1]; rfl
  | tup xs => obtain ⟨a, _, e, _⟩ := rep_tup h; rw [e]; rfl
  | lst xs => rw [RepV] at h; obtain ⟨a, _, e, _⟩ := h; rw [e]; rfl
  | dT xs => rw [RepV] at h; obtain ⟨a, _, e, _⟩ := h; rw [e]; rfl
  | dK xs => rw [RepV] at h; obtain ⟨a, _, e, _⟩ := h; rw [e]; rfl
  | ref n => rw [RepV] at h; obtain ⟨a, e, _⟩ := h; rw [e]; rfl
  | ext a k => rw [RepV] at h; rw [h]; rfl
  | scr xs => rw [RepV] at h; obtain ⟨a, _, e, _⟩ := h; rw [e]; rfl
theorem os_is : OpS X (compareOp .Is) opIs := OpS.or fun S x y xv yv r R h1 h2 e => by
  rcases opIs_cases e with ⟨rfl, rfl⟩ | ⟨a, b, rfl, rfl, rfl⟩
  · refine ⟨_, op_isN, fun Q q => ⟨rep_non h2, ?_⟩⟩
    rw [rep_isnon h1]
    exact fin_b R q
  · refine ⟨_, op_isBl, fun Q q => ⟨a, b, rep_bl h1, rep_bl h2, ?_⟩⟩
    rw [show decide (a = b) = (a == b) by cases a <;> cases b <;> rfl]
    exact fin_b R q
theorem os_isnot : OpS X (compareOp .IsNot) opIsNot := OpS.or fun S x y xv yv r R h1 h2 e => by
  unfold opIsNot at e
  split at e
  · rename_i b e1
    cases e
    rcases opIs_cases e1 with ⟨rfl, eb⟩ | ⟨a, b, rfl, rfl, eb⟩
    · cases eb
      refine ⟨_, op_notN, fun Q q => ⟨rep_non h2, ?_⟩⟩
      rw [rep_isnon h1]
      exact fin_b R q
    · cases eb
      refine ⟨_, op_notBl, fun Q q => ⟨a, b, rep_bl h1, rep_bl h2, ?_⟩⟩
      rw [show decide (a = b) = (a == b) by cases a <;> cases b <;> rfl]
      exact fin_b R q
  · cases e
end
end G
end
section
set_option Elab.async false
set_option linter.all false
set_option maxRecDepth 100000
/-! G5: order, membership, items, slices. -/
namespace G
open PySem PySem.Spec PyProof.Rows L2
variable [Tabl]

/-! ### < -/
mutual
theorem pyLt_data : ∀ x y : PV, x.data = true → y.data = true → W.alike (toD x) (toD y) = true → pyLt x y = W.dataLt (toD x) (toD y)
  | .non, y, _, _, h => by
    cases y <;> first | (simp only [toD, W.alike] at h; cases h; done) | skip
    all_goals (simp only [toD, pyLt]; rfl)
  | .bl a, y, _, _, h => by
    cases y with
    | bl b =>
      simp only [toD, pyLt, W.dataLt_bool]
      cases a <;> cases b <;> decide
    | _ => simp only [toD, W.alike] at h; cases h
  | .int a, y, _, _, h => by
    cases y <;> first | (simp only [toD, W.alike] at h; cases h; done) | skip
    simp only [toD, pyLt, W.dataLt_int]
  | .str a, y, _, _, h => by
    cases y <;> first | (simp only [toD, W.alike] at h; cases h; done) | skip
    simp only [toD, pyLt, W.dataLt_str]
  | .tup xs, y, dx, dy, h => by
    cases y <;> first | (simp only [toD, W.alike] at h; cases h; done) | skip
    rename_i ys
    simp only [toD, W.alike] at h
    rw [PV.data] at dx dy
    simp only [toD, pyLt, W.dataLt_tuple]
    exact pyLtL_data xs ys dx dy h
  | .lst xs, y, dx, dy, h => by
    cases y <;> first | (simp only [toD, W.alike] at h; cases h; done) | skip
    rename_i ys
    simp only [toD, W.alike] at h
    rw [PV.data] at dx dy
    simp only [toD, pyLt, W.dataLt_list]
    exact pyLtL_data xs ys dx dy h
  | .dT _, _, d, _, _ => by rw [PV.data] at d; cases d
  | .dK _, _, d, _, _ => by rw [PV.data] at d; cases d
  | .ref _, _, d, _, _ => by rw [PV.data] at d; cases d
theorem pyLtL_data : ∀ x y : List PV, PV.dataL x = true → PV.dataL y = true → W.alikeAll (toDL x) (toDL y) = true → pyLtL x y = PyProof.Rows.lexLt itemOrd (W.keyToksAll (toDL x)) (W.keyToksAll (toDL y))
  | [], [], _, _, _ => by simp only [pyLtL, toDL]; rw [lex_irrefl]
  | [], y :: ys, _, _, _ => by
    simp only [pyLtL, toDL, W.keyToksAll]
    rfl
  | x :: xs, [], _, _, _ => by
    simp only [pyLtL, toDL, W.keyToksAll]
    rfl
  | x :: xs, y :: ys, dx, dy, h => by
    rw [PV.dataL, Bool.and_eq_true] at dx dy
    simp only [toDL] at h ⊢
    obtain ⟨h1, h2⟩ := W.alike_all_cons h
    rw [pyLtL, pyEq_eqv x y dx.1 dy.1]
    cases e : PyData.eqv (toD x) (toD y) with
    | true =>
      rw [if_pos rfl, W.dataLt_all_yes h1 e]
      exact pyLtL_data xs ys dx.2 dy.2 h2
    | false =>
      rw [if_neg Bool.false_ne_true, W.dataLt_all_no h1 e]
      exact pyLt_data x y dx.1 dy.1 h1
end

section
variable {X : Cx}
theorem ltOk_of {a b : PV} (h : ltOk a b = true) : a.ok = true ∧ b.ok = true ∧ W.alike (toD a) (toD b) = true ∧ a.isNon = false := by
  unfold ltOk at h
  rw [Bool.and_eq_true, Bool.and_eq_true, Bool.and_eq_true] at h
  exact ⟨h.1.1.1, h.1.1.2, h.1.2, by simpa using h.2⟩
theorem ok_of {a : PV} (h : a.ok = true) : a.data = true ∧ a.depth ≤ 60 := by
  unfold PV.ok at h
  rw [Bool.and_eq_true] at h
  exact ⟨h.1, of_decide_eq_true h.2⟩
theorem ok_view {h : LH} {a : PV} (o : a.ok = true) : view h a = a := by
  cases a with
  | ref n => exact absurd (ok_of o).1 (by rw [PV.data]; exact Bool.false_ne_true)
  | ext _ _ => exact absurd (ok_of o).1 (by rw [PV.data]; exact Bool.false_ne_true)
  | scr _ => exact absurd (ok_of o).1 (by rw [PV.data]; exact Bool.false_ne_true)
  | _ => rfl
theorem toD_none {a : PV} (h : a.data = true) (n : a.isNon = false) : toD a ≠ .none := by
  cases a with
  | non => cases n
  | dT _ => rw [PV.data] at h; cases h
  | dK _ => rw [PV.data] at h; cases h
  | ref _ => rw [PV.data] at h; cases h
  | ext _ _ => rw [PV.data] at h; cases h
  | scr _ => rw [PV.data] at h; cases h
  | _ => rw [toD]; intro z; cases z
theorem rep_dp_ok {K : PySem.W.Frag} {S : GS} (R : Rel K S) {x : PV} {v : V} (h : RepV K S x v) (ok : x.ok = true) : Dp K S.H v (toD x) ∧ SeqAt.shaped (toD x) = true := by
  have q := rep_dpv R h (by rw [ok_view ok]; exact ok)
  rwa [ok_view ok] at q
/-- a rule that asks what the two read as -/
theorem op_lt_data (hu : X.A.units + 64 < cLine) : OpR X (compareOp .Lt) (fun x y H Q => ∃ d e, Dp X.K H x d ∧ Dp X.K H y e ∧ SeqAt.shaped d = true ∧ W.alike d e = true ∧ d ≠ .none ∧ Q (.bl (W.dataLt d e)) H) := by
  intro pins s σ H x y v u Q I rx ry h
  obtain ⟨d, e, hd, he, sd, al, hn, q⟩ := h
  obtain ⟨as, r1⟩ := Dp.reads I d x v hd rx
  obtain ⟨bs, r2⟩ := Dp.reads I e y u he ry
  have hdep : d.depth ≤ 64 := by
    have sd' : (d.canLay0 && decide (d.depth ≤ 64)) = true := sd
    rw [Bool.and_eq_true] at sd'
    exact of_decide_eq_true sd'.2
  have hm : min d.depth e.depth ≤ d.depth := Nat.min_le_left _ _
  exact W.rcLt_alike d e X.A s v u as bs r1 r2 al hn (by omega) X.prog X.w X.xe _ ⟨.bl _, H, I, rfl, q⟩
theorem os_lt (hu : X.A.units + 64 < cLine) : OpS X (compareOp .Lt) opLt := OpS.or fun S x y xv yv r R h1 h2 e => by
  have gen : ltOk x y = true → r = .bl (pyLt x y) → ∃ r2 : R2, OpR X (compareOp .Lt) r2 ∧ ∀ Q : VK, (∀ H' z, Ext S { S with H := H' } → Rel X.K { S with H := H' } → RepV X.K { S with H := H' } r z → Q z H') → r2 xv yv S.H Q := fun hz er => by
    subst er
    obtain ⟨ox, oy, al, nn⟩ := ltOk_of hz
    obtain ⟨d1, s1⟩ := rep_dp_ok R h1 ox
    obtain ⟨d2, s2⟩ := rep_dp_ok R h2 oy
    refine ⟨_, op_lt_data hu, fun Q q => ⟨_, _, d1, d2, s1, al, toD_none (ok_of ox).1 nn, ?_⟩⟩
    rw [← pyLt_data x y (ok_of ox).1 (ok_of oy).1 al]
    exact fin_b R q
  unfold opLt at e
  split at e
  · cases e
    exact ⟨_, op_lt, fun Q q => ⟨_, _, rep_int h1, rep_int h2, fin_b R q⟩⟩
  · split at e
    · rename_i hz
      exact gen hz (Option.some.inj e).symm
    · cases e

/-! ### membership -/
def rInS (K : PySem.W.Frag) (neg : Bool) : R2 := fun x y H Q => ∃ d ds, Dp K H x d ∧ (Dp K H y (.list ds) ∨ Dp K H y (.tuple ds)) ∧ SeqAt.shaped d = true ∧ SeqAt.shaped (.list ds) = true ∧ Q (.bl (if neg then !(ds.any fun z => PyData.eqv z d) else ds.any fun z => PyData.eqv z d)) H
theorem op_inS (hu : X.A.units + 65 < cLine) : OpR X (compareOp .In) (rInS X.K false) := by
  intro pins s σ H x y v u Q I rx ry h
  obtain ⟨d, ds, hd, he, sd, se, q⟩ := h
  obtain ⟨as, r1⟩ := Dp.reads I d x v hd rx
  rcases he with he | he
  · obtain ⟨bs, r2⟩ := Dp.reads I (.list ds) y u he ry
    exact SeqAt.in_list_reads r2 r1 (SeqAt.canLay_of_shaped se) (SeqAt.canLay_of_shaped sd) (room_in_shaped sd hu) ⟨.bl _, H, I, rfl, q⟩
  · obtain ⟨bs, r2⟩ := Dp.reads I (.tuple ds) y u he ry
    exact SeqAt.in_tuple_reads r2 r1 (SeqAt.canLay_of_shaped se) (SeqAt.canLay_of_shaped sd) (room_in_shaped sd hu) ⟨.bl _, H, I, rfl, q⟩
theorem op_notInS' (hu : X.A.units + 65 < cLine) : OpR X (compareOp .NotIn) (rInS X.K true) := by
  intro pins s σ H x y v u Q I rx ry h
  obtain ⟨d, ds, hd, he, sd, se, q⟩ := h
  obtain ⟨as, r1⟩ := Dp.reads I d x v hd rx
  rcases he with he | he
  · obtain ⟨bs, r2⟩ := Dp.reads I (.list ds) y u he ry
    exact SeqAt.notIn_list_reads r2 r1 (SeqAt.canLay_of_shaped se) (SeqAt.canLay_of_shaped sd) (room_in_shaped sd hu) ⟨.bl _, H, I, rfl, q⟩
  · obtain ⟨bs, r2⟩ := Dp.reads I (.tuple ds) y u he ry
    exact SeqAt.notIn_tuple_reads r2 r1 (SeqAt.canLay_of_shaped se) (SeqAt.canLay_of_shaped sd) (room_in_shaped sd hu) ⟨.bl _, H, I, rfl, q⟩
theorem any_toDL (x : PV) (hx : x.data = true) : ∀ xs : List PV, PV.dataL xs = true → ((toDL xs).any fun z => PyData.eqv z (toD x)) = inL x xs
  | [], _ => by simp [toDL, inL]
  | y :: ys, h => by
    rw [PV.dataL, Bool.and_eq_true] at h
    have ih := any_toDL x hx ys h.2
    unfold inL at ih ⊢
    rw [toDL, List.any_cons, List.any_cons, ih, pyEq_eqv y x h.1 hx]
/-! the keys of dicts -/
theorem keysOf_rep {K : PySem.W.Frag} {S : GS} : ∀ {xs : List PV} {vs : List V} {ks : List Key}, RepL K S xs vs → keysOf xs = some ks → vs = ks.map kV
  | [], _, _, h, e => by
    rw [RepL] at h
    rw [keysOf] at e
    cases e
    exact h
  | x :: xs, _, ks, h, e => by
    rw [RepL] at h
    obtain ⟨v, r, rfl, h1, h2⟩ := h
    rw [keysOf] at e
    cases q : keyT1 x with
    | none => rw [q] at e; cases e
    | some k =>
      cases q2 : keysOf xs with
      | none => rw [q, q2] at e; cases e
      | some ks' =>
        rw [q, q2] at e
        cases e
        rw [keysOf_rep h2 q2, List.map_cons]
        cases x with
        | int i => cases q; rw [rep_int h1]; rfl
        | str s => cases q; rw [(rep_str h1).1]; rfl
        | _ => cases q
theorem keyT_rep {K : PySem.W.Frag} {S : GS} {x : PV} {v : V} {ks : List Key} (h : RepV K S x v) (e : keyT x = some ks) : ∃ b, v = .ref b ∧ S.H b = some (.tup (ks.map kV)) := by
  cases x with
  | tup xs =>
    obtain ⟨a, vs, ev, t, r⟩ := rep_tup h
    unfold keyT at e
    dsimp only at e
    split at e
    · rename_i hs
      rcases t with t | t
      · exact ⟨a, ev, by rw [← keysOf_rep r e]; exact t.2⟩
      · rw [hs] at t; cases t.1
    · cases e
  | _ => cases e
theorem keyT1_rep {K : PySem.W.Frag} {S : GS} {x : PV} {v : V} {k : Key} (h : RepV K S x v) (e : keyT1 x = some k) : v = kV k := by
  cases x with
  | int i => cases e; exact rep_int h
  | str s => cases e; exact (rep_str h).1
  | _ => cases e
theorem repP_get {K : PySem.W.Frag} {S : GS} (k : List Key) : ∀ {xs : List (List Key × PV)} {vs : List (List Key × V)}, RepP K S xs vs → (∀ x, getP xs k = some x → ∃ v, valV vs k = some v ∧ RepV K S x v) ∧ (getP xs k).isSome = (valV vs k).isSome
  | [], _, h => by
    rw [RepP] at h
    subst h
    exact ⟨fun x e => by simp [getP] at e, rfl⟩
  | (k', y) :: ys, _, h => by
    rw [RepP] at h
    obtain ⟨v, r, rfl, h1, h2⟩ := h
    obtain ⟨i1, i2⟩ := repP_get k h2
    by_cases q : k' = k
    · have e1 : getP ((k', y) :: ys) k = some y := by simp [getP, q]
      have e2 : valV ((k', v) :: r) k = some v := valV_pos q
      rw [e1, e2]
      exact ⟨fun x e => ⟨v, rfl, by cases e; exact h1⟩, rfl⟩
    · have e1 : getP ((k', y) :: ys) k = getP ys k := by simp [getP, q]
      have e2 : valV ((k', v) :: r) k = valV r k := valV_neg q
      rw [e1, e2]
      exact ⟨i1, i2⟩
theorem repQ_get {K : PySem.W.Frag} {S : GS} (k : Key) : ∀ {xs : List (Key × PV)} {vs : List (Key × V)}, RepQ K S xs vs → (∀ x, getP xs k = some x → ∃ v, valV vs k = some v ∧ RepV K S x v) ∧ (getP xs k).isSome = (valV vs k).isSome
  | [], _, h => by
    rw [RepQ] at h
    subst h
    exact ⟨fun x e => by simp [getP] at e, rfl⟩
  | (k', y) :: ys, _, h => by
    rw [RepQ] at h
    obtain ⟨v, r, rfl, h1, h2⟩ := h
    obtain ⟨i1, i2⟩ := repQ_get k h2
    by_cases q : k' = k
    · have e1 : getP ((k', y) :: ys) k = some y := by simp [getP, q]
      have e2 : valV ((k', v) :: r) k = some v := valV_pos q
      rw [e1, e2]
      exact ⟨fun x e => ⟨v, rfl, by cases e; exact h1⟩, rfl⟩
    · have e1 : getP ((k', y) :: ys) k = getP ys k := by simp [getP, q]
      have e2 : valV ((k', v) :: r) k = valV r k := valV_neg q
      rw [e1, e2]
      exact ⟨i1, i2⟩
theorem op_inDict (hu : X.A.units + 1 < cLine) : OpR X (compareOp .In) (fun y x H Q => ∃ a o, x = .ref a ∧ DGet H a y o ∧ Q (.bl o.isSome) H) := by
  intro pins s σ H y x u v Q I ry rx h
  obtain ⟨a, o, rfl, g, q⟩ := h
  cases rx
  exact d_in hu I g ry fun s' I' => ⟨.bl _, H, I', rfl, q⟩
theorem op_notInDict (hu : X.A.units + 1 < cLine) : OpR X (compareOp .NotIn) (fun y x H Q => ∃ a o, x = .ref a ∧ DGet H a y o ∧ Q (.bl (!o.isSome)) H) := by
  intro pins s σ H y x u v Q I ry rx h
  obtain ⟨a, o, rfl, g, q⟩ := h
  cases rx
  exact d_notIn hu I g ry fun s' I' => ⟨.bl _, H, I', rfl, q⟩
/-- the cases of in -/
inductive InCase (K : PySem.W.Frag) (S : GS) (xv yv : V) (b : Bool) : Prop where
  | seq (d : PyData) (ds : List PyData) (h1 : Dp K S.H xv d) (h2 : Dp K S.H yv (.list ds) ∨ Dp K S.H yv (.tuple ds)) (s1 : SeqAt.shaped d = true) (s2 : SeqAt.shaped (.list ds) = true) (e : b = ds.any fun z => PyData.eqv z d)
  | sign (c : Nat) (z : Str) (h1 : xv = .str ⟨#[c]⟩) (h2 : yv = .str z) (e : b = decide (c ∈ z.cps.toList))
  | dict (a : Addr) (o : Option V) (h : yv = .ref a) (g : DGet S.H a xv o) (e : b = o.isSome)
theorem in_cases {K : PySem.W.Frag} {S : GS} {x y r : PV} {xv yv : V} (R : Rel K S) (h1 : RepV K S x xv) (h2 : RepV K S y yv) (e : opIn S.h x y = some r) : ∃ b, r = .bl b ∧ InCase K S xv yv b := by
  unfold opIn at e
  split at e
  · rename_i xs ex
    split at e
    · rename_i hz
      cases e
      rw [Bool.and_eq_true] at hz
      obtain ⟨d1, s1⟩ := rep_dpv R h1 hz.1
      obtain ⟨d2, s2⟩ := rep_dpv R h2 (by rw [ex]; exact hz.2)
      rw [ex, toD] at d2 s2
      have dx := (ok_of hz.2).1
      rw [PV.data] at dx
      exact ⟨_, rfl, .seq _ _ d1 (.inl d2) s1 s2 (any_toDL _ (ok_of hz.1).1 xs dx).symm⟩
    · cases e
  · rename_i xs ex
    split at e
    · rename_i hz
      cases e
      rw [Bool.and_eq_true] at hz
      obtain ⟨d1, s1⟩ := rep_dpv R h1 hz.1
      obtain ⟨d2, s2⟩ := rep_dpv R h2 (by rw [ex]; exact hz.2)
      rw [ex, toD] at d2 s2
      have dx := (ok_of hz.2).1
      rw [PV.data] at dx
      refine ⟨_, rfl, .seq _ _ d1 (.inr d2) s1 ?_ (any_toDL _ (ok_of hz.1).1 xs dx).symm⟩
      have z : (PyData.canLay0 (.tuple (toDL xs)) && decide (PyData.depth (.tuple (toDL xs)) ≤ 64)) = true := s2
      rw [Bool.and_eq_true] at z
      obtain ⟨z1, z2⟩ := z
      have z2 := of_decide_eq_true z2
      simp only [PyData.canLay0] at z1
      simp only [PyData.depth] at z2
      show (PyData.canLay0 (.list (toDL xs)) && decide (PyData.depth (.list (toDL xs)) ≤ 64)) = true
      rw [Bool.and_eq_true]
      exact ⟨by simp only [PyData.canLay0]; exact z1, decide_eq_true (by simp only [PyData.depth]; exact z2)⟩
    · cases e
  · rename_i s ex
    have ex := view_self ex (.inr rfl)
    subst ex
    split at e
    · rename_i z
      split at e
      · rename_i c ec
        cases e
        refine ⟨_, rfl, .sign c s ?_ (rep_str h2).1 rfl⟩
        rw [(rep_str h1).1]
        cases z with
        | mk cps =>
          have q : cps = #[c] := Array.toList_inj.mp ec
          rw [q]
      · cases e
    · cases e
  · rename_i kvs ex
    split at e
    · rename_i k ek
      cases e
      obtain ⟨a, ws, ev, t, p⟩ := rep_viewDT R h2 ex
      obtain ⟨b, eb, tb⟩ := keyT_rep h1 ek
      exact ⟨_, rfl, .dict a _ ev (by rw [eb]; exact DGet.t t tb) (repP_get k p).2⟩
    · cases e
  · rename_i kvs ex
    split at e
    · rename_i k ek
      cases e
      obtain ⟨a, ws, ev, t, p⟩ := rep_viewDK R h2 ex
      exact ⟨_, rfl, .dict a _ ev (by rw [keyT1_rep h1 ek]; exact DGet.k t) (repQ_get k p).2⟩
    · cases e
  · cases e
theorem os_in (hu : X.A.units + 65 < cLine) : OpS X (compareOp .In) opIn := OpS.or fun S x y xv yv r R h1 h2 e => by
  obtain ⟨b, rfl, c⟩ := in_cases R h1 h2 e
  cases c with
  | seq d ds a1 a2 s1 s2 e => subst e; exact ⟨_, op_inS hu, fun Q q => ⟨d, ds, a1, a2, s1, s2, fin_b R q⟩⟩
  | sign c z a1 a2 e => subst e; exact ⟨_, op_in_sign, fun Q q => ⟨c, z, a1, a2, fin_b R q⟩⟩
  | dict a o h g e => subst e; exact ⟨_, op_inDict (by omega), fun Q q => ⟨a, o, h, g, fin_b R q⟩⟩
theorem os_notin (hu : X.A.units + 65 < cLine) : OpS X (compareOp .NotIn) opNotIn := OpS.or fun S x y xv yv r R h1 h2 e => by
  unfold opNotIn at e
  split at e
  · rename_i b0 e0
    cases e
    obtain ⟨b, eb, c⟩ := in_cases R h1 h2 e0
    cases eb
    cases c with
    | seq d ds a1 a2 s1 s2 e => subst e; exact ⟨_, op_notInS' hu, fun Q q => ⟨d, ds, a1, a2, s1, s2, fin_b R q⟩⟩
    | sign c z a1 a2 e => subst e; exact ⟨_, op_notIn_sign, fun Q q => ⟨c, z, a1, a2, fin_b R q⟩⟩
    | dict a o h g e => subst e; exact ⟨_, op_notInDict (by omega), fun Q q => ⟨a, o, h, g, fin_b R q⟩⟩
  · cases e

/-! ### items -/
theorem ix_dict (hu : X.A.units + 1 < cLine) : IxR X (fun x y H Q => ∃ a v, x = .ref a ∧ DGet H a y (some v) ∧ Q v H) := by
  intro value slice pins s σ H x y v u Q I rx ry h hs
  obtain ⟨a, z, rfl, g, q⟩ := h
  cases rx
  unfold subscriptTail
  refine wpAny_bind ?_
  have hT := dict_typeIs I g
  rw [getitemInPython_of_ne hT.not_modules]
  refine wpAny_bind (wpAny_specialOf hT PySem.F.slot_dict_getitem.lookup ?_)
  have fin : wpAny (model X.prog X.w) X.A (subscripted slice false (.ref a) u) (fun r s₃ => wpAny (model X.prog X.w) X.A (letTemporaryGo value (.ref a) r >>= fun _ => pure r) (EP X pins σ Q) X.xe s₃) X.xe s := by
    rw [hs]
    exact wpAny_operating (d_getItem hu I g ry fun w' s3 I3 rw' => wpAny_bind (wpAny_letTemporaryGo (wpAny_pure ⟨z, H, I3, rw', q⟩)))
  first
    | exact wpAny_pure (wpAny_bind fin)
    | exact wpAny_bind (wpAny_pure (wpAny_bind fin))
    | exact wpAny_bind fin
theorem ix_s (hu : X.A.units + 1 < cLine) : IxR X (rOp X.K opIx) := by
  intro value slice pins s σ H x y v u Q I rx ry h hs
  obtain ⟨S, px, py, r, eH, R, h1, h2, e, q⟩ := h
  subst eH
  have go : ∀ r2 : R2, IxR X r2 → r2 x y S.H Q → wpAny (model X.prog X.w) X.A (subscriptTail value slice v u) (EP X pins σ Q) X.xe s := fun r2 hr z => hr value slice pins s σ S.H x y v u Q I rx ry z hs
  unfold opIx at e
  split at e
  · rename_i xs
    split at e
    · rename_i i
      rw [RepV] at h1
      obtain ⟨a, vs, ev, t, p⟩ := h1
      obtain ⟨w, ew, rw'⟩ := p.atI e
      exact go _ ix_list ⟨a, vs, i, w, ev, rep_int h2, t.sq, ew, q S.H w (Ext.refl S) R rw'⟩
    · cases e
  split at e
  · rename_i xs ex
    split at e
    · rename_i i
      obtain ⟨a, vs, ev, t, p⟩ := rep_viewL R h1 ex
      obtain ⟨w, ew, rw'⟩ := p.atI e
      exact go _ ix_list ⟨a, vs, i, w, ev, rep_int h2, SqL.of t, ew, q S.H w (Ext.refl S) R rw'⟩
    · cases e
  · rename_i xs ex
    have ex := view_self ex (.inl ⟨_, rfl⟩)
    subst ex
    split at e
    · rename_i i
      obtain ⟨a, vs, ev, t, p⟩ := rep_tup h1
      obtain ⟨w, ew, rw'⟩ := p.atI e
      exact go _ ix_tup ⟨a, vs, i, w, ev, rep_int h2, t.sq, ew, q S.H w (Ext.refl S) R rw'⟩
    · cases e
  · rename_i kvs ex
    obtain ⟨k, ek, eg⟩ := Option.bind_eq_some_iff.mp e
    obtain ⟨a, ws, ev, t, p⟩ := rep_viewDT R h1 ex
    obtain ⟨b, eb, tb⟩ := keyT_rep h2 ek
    obtain ⟨w, ew, rw'⟩ := (repP_get k p).1 r eg
    exact go _ (ix_dict hu) ⟨a, w, ev, by rw [eb, ← ew]; exact DGet.t t tb, q S.H w (Ext.refl S) R rw'⟩
  · rename_i kvs ex
    obtain ⟨k, ek, eg⟩ := Option.bind_eq_some_iff.mp e
    obtain ⟨a, ws, ev, t, p⟩ := rep_viewDK R h1 ex
    obtain ⟨w, ew, rw'⟩ := (repQ_get k p).1 r eg
    exact go _ (ix_dict hu) ⟨a, w, ev, by rw [keyT1_rep h2 ek, ← ew]; exact DGet.k t, q S.H w (Ext.refl S) R rw'⟩
  · cases e
variable {ca : CA} {F : FEnv} {a b : Expr} {c1 c2 : CE} {pos : Pos}
theorem se_ix (hu : X.A.units + 1 < cLine) (ha : SE X ca F c1 a) (hb : SE X ca F c2 b) (hs : PlainIx b) : SE X ca F (cOp2 opIx c1 c2) (.Subscript a b pos) := fun W tk =>
  PE.imp (pe_ix (ix_s hu) (ha W tk) (hb W tk) hs) fun _ _ _ h => op2_imp h

/-! ### slices -/
def rSl (K : PySem.W.Frag) : V → Option Int → Option Int → Hp → VK → Prop := fun x lo hi H Q =>
  (∃ a xs, x = .ref a ∧ SqL K H a xs ∧ ∀ p, H p = none → Q (.ref p) (upd H p (.lst (cutV xs lo hi)))) ∨ rSlA K x lo hi H Q
theorem sl_s : SlR X (rSl X.K) := sl_list.or sl_tupA
theorem cut_whole {α : Type} {xs : List α} {lo hi : Option Int} (h : HT.sIx xs.length 0 lo = 0 ∧ HT.sIx xs.length xs.length hi = xs.length) : (xs.drop (HT.sIx xs.length 0 lo)).take (HT.sIx xs.length xs.length hi - HT.sIx xs.length 0 lo) = xs := by
  rw [h.1, h.2]
  simp
theorem slice_end {W : WX} {S : GS} {σ : St} {Q : VK} {x : PV} {xv : V} {lo hi : Option PV} {l u : Option Int} (R : Rel X.K S) (hx : RepV X.K S x xv) (el : partOf lo = some l) (eu : partOf hi = some u)
    (p : PostE X.K ca W S σ Q (lift S.h (opSlice S.h x lo hi))) : rSl X.K xv l u S.H Q := by
  obtain ⟨r, e, p⟩ := p.lift_some
  unfold opSlice at e
  rw [el, eu] at e
  dsimp only at e
  split at e
  · rename_i xs ex
    cases e
    obtain ⟨a, vs, ev, t, q⟩ := rep_viewL R hx ex
    exact .inl ⟨a, vs, ev, SqL.of t, fun n hn => p _ _ (by rfl) (R.alloc hn).1 (R.alloc hn).2 (rep_newL R hn (q.cut l u))⟩
  · rename_i xs ex
    have ex := view_self ex (.inl ⟨_, rfl⟩)
    subst ex
    cases e
    obtain ⟨a, vs, ev, t, q⟩ := rep_tup hx
    refine .inr ⟨a, vs, ev, t.sq, fun z => ?_, fun _ n hn => p _ _ (by rfl) (R.alloc hn).1 (R.alloc hn).2 (rep_newT R hn (q.cut l u))⟩
    rw [q.length] at z
    have w : cutL xs l u = xs := cut_whole z
    rw [w] at p
    rw [← ev]
    exact p.here R hx
  · cases e
theorem po_s {o : Expr} {c : CE} (h : SE X ca F c o) (W : WX) (tk : L2N.Takes X W) : PO X (some o) (tPart (tE X.K ca W F c)) := po_some (h W tk)
theorem se_slice00 {p2} (ha : SE X ca F c1 a) : SE X ca F (cSlice c1 none none) (.Subscript a (.Slice none none none p2) pos) := fun W tk =>
  PE.imp (pe_slice sl_s (ha W tk) po_none po_none) fun σ H Q ⟨S, env, eH, R, e, p⟩ => by
    subst eH
    refine ⟨S, env, rfl, R, e, PostE.bindE p fun x S1 z E1 R1 r1 p1 => ?_⟩
    exact slice_end R1 r1 rfl rfl p1
theorem se_slice10 {p2} {o : Expr} (ha : SE X ca F c1 a) (ho : SE X ca F c2 o) : SE X ca F (cSlice c1 (some c2) none) (.Subscript a (.Slice (some o) none none p2) pos) := fun W tk =>
  PE.imp (pe_slice sl_s (ha W tk) (po_s ho W tk) po_none) fun σ H Q ⟨S, env, eH, R, e, p⟩ => by
    subst eH
    refine ⟨S, env, rfl, R, e, PostE.bindE p fun x S1 z E1 R1 r1 p1 => ?_⟩
    refine ⟨S1, env, rfl, R1, e.mono E1.toExtW, PostE.bindE p1 fun l S2 z2 E2 R2 r2 p2 => ?_⟩
    cases l with
    | int i => exact ⟨i, rep_int r2, slice_end R2 (r1.mono E2.toExtW x z) rfl rfl p2⟩
    | _ => exact (by obtain ⟨_, e, _⟩ := p2.lift_some; cases e)
theorem se_slice01 {p2} {o : Expr} (ha : SE X ca F c1 a) (ho : SE X ca F c2 o) : SE X ca F (cSlice c1 none (some c2)) (.Subscript a (.Slice none (some o) none p2) pos) := fun W tk =>
  PE.imp (pe_slice sl_s (ha W tk) po_none (po_s ho W tk)) fun σ H Q ⟨S, env, eH, R, e, p⟩ => by
    subst eH
    refine ⟨S, env, rfl, R, e, PostE.bindE p fun x S1 z E1 R1 r1 p1 => ?_⟩
    refine ⟨S1, env, rfl, R1, e.mono E1.toExtW, PostE.bindE p1 fun l S2 z2 E2 R2 r2 p2 => ?_⟩
    cases l with
    | int i => exact ⟨i, rep_int r2, slice_end R2 (r1.mono E2.toExtW x z) rfl rfl p2⟩
    | _ => exact (by obtain ⟨_, e, _⟩ := p2.lift_some; cases e)
theorem se_slice11 {p2} {o o2 : Expr} {c3 : CE} (ha : SE X ca F c1 a) (ho : SE X ca F c2 o) (ho2 : SE X ca F c3 o2) : SE X ca F (cSlice c1 (some c2) (some c3)) (.Subscript a (.Slice (some o) (some o2) none p2) pos) := fun W tk =>
  PE.imp (pe_slice sl_s (ha W tk) (po_s ho W tk) (po_s ho2 W tk)) fun σ H Q ⟨S, env, eH, R, e, p⟩ => by
    subst eH
    refine ⟨S, env, rfl, R, e, PostE.bindE p fun x S1 z E1 R1 r1 p1 => ?_⟩
    refine ⟨S1, env, rfl, R1, e.mono E1.toExtW, PostE.bindE p1 fun l S2 z2 E2 R2 r2 p2 => ?_⟩
    cases l with
    | int i =>
      refine ⟨i, rep_int r2, S2, env, rfl, R2, (e.mono E1.toExtW).mono E2.toExtW, PostE.bindE p2 fun u S3 z3 E3 R3 r3 p3 => ?_⟩
      cases u with
      | int j => exact ⟨j, rep_int r3, slice_end R3 ((r1.mono E2.toExtW x z).mono E3.toExtW x z) rfl rfl p3⟩
      | _ => exact (by obtain ⟨_, e, _⟩ := p3.lift_some; cases e)
    | _ => exact p2.elim
end
end G
end
section
set_option Elab.async false
set_option linter.all false
set_option maxRecDepth 100000
/-! GTs: sorted of a tuple (the library's road for lists, turned). -/
namespace G
open PySem PySem.Spec PySem.Calls PyProof.Rows
section
variable {prog : Program} {w : World} {A : Around} {E : Value → Shared → Prop} {s : Shared}
theorem collect_tup {l : Addr} {vs : List Value} {Q : List Value → Shared → Prop} (hl : s.heap.IsTuple l vs.toArray)
    (h : Q vs { s with heap := (s.heap.push (seqObj "list" #[] 0)).update s.heap.objs.size (Obj.mapSeq (· ++ vs.toArray)) }) (hsz : vs.length ≤ sizeLine) :
    wpAny (model prog w) A (collect (.ref l)) Q E s := by
  obtain ⟨o, ho, hc, n, hd⟩ := id hl
  unfold collect
  refine wpAny_bind (wpAny_runValue (codeAny_builtin entry_proto_collect' ?_))
  show wpAny _ _ (do again (.builtin "list.__iadd__" ⟨[← newList [], .ref l], []⟩)) _ _ s
  refine wpAny_bind (wpAny_newList (wpAny_pure ⟨Code.quiet_builtin _ (by decide +kernel), codeAny_builtin entry_list_iadd' ?_⟩))
  show wpAny _ _ (Builtin.List.listExtendWith (.ref s.heap.objs.size) (.ref l) (.ref s.heap.objs.size)) _ _ { s with heap := s.heap.push (seqObj "list" #[] 0) }
  unfold Builtin.List.listExtendWith
  have ho' : (s.heap.push (seqObj "list" #[] 0)).get? l = some o := Heap.get?_push_of_some _ ho
  refine wpAny_bind (wpAny_typeOf (T := "tuple") ⟨o, ho', hc⟩ ?_)
  have ht : (Value.type "tuple" == Value.type "tuple") = true := by rfl
  rw [if_pos (by rw [ht]; simp)]
  refine wpAny_bind (listItems_at ho' hd ?_)
  refine wpAny_bind (listItems_at (xs := #[]) (n := 0) (Heap.get?_push_size _ rfl) rfl ?_)
  rw [if_neg (by simp)]
  refine wpAny_bind (listUpdate_at (xs := #[]) (n := 0) (Heap.get?_push_size _ rfl) rfl ?_ (Nat.zero_le _) (by show (#[] ++ vs.toArray).size ≤ sizeLine + 1; simp only [Array.size_append, List.size_toArray, List.length_nil]; omega))
  refine wpAny_pure ?_
  show wpAny (model prog w) A (do
      let o ← load s.heap.objs.size
      match o.data with
      | .seq xs _ => pure xs.toList
      | _ => unsupported "internal:collect") Q E { s with heap := (s.heap.push (seqObj "list" #[] 0)).update s.heap.objs.size (Obj.mapSeq (· ++ vs.toArray)) }
  refine wpAny_bind (wpAny_load (get?_update_seq (Heap.get?_push_size _ rfl) _) ?_)
  show wpAny _ _ (pure ((#[] : Array Value) ++ vs.toArray).toList) Q E _
  rw [show ((#[] : Array Value) ++ vs.toArray).toList = vs by simp]
  exact wpAny_pure h
theorem sortedT_of_sort {l : Addr} {vs : List Value} {kw : List (Str × Value)} {Q : Value → Shared → Prop} (hl : s.heap.IsTuple l vs.toArray) (hL : vs.length ≤ sizeLine) (ha1 : argsOk "sorted" ⟨[.ref l], kw⟩) (ha2 : ∀ x, argsOk "list.sort" ⟨[.ref x], kw⟩)
    (body : ∀ E' : Value → Shared → Prop, wpAny (model prog w) A.in1.in1 (Builtin.«list.sort» ⟨[.ref (s.heap.objs.size + 1)], kw⟩) (fun f s' => f = .done (.ret .none) ∧ Q (.ref (s.heap.objs.size + 1)) s') E' { s with heap := W.copyHeap s.heap vs }) :
    wpAny (model prog w) A (call (.builtin "sorted") [.ref l] kw) Q E s := by
  refine call_function_entry_kw kind_sorted plain_sorted entry_sorted ha1 ?_
  unfold Builtin.«sorted»
  refine wpAny_bind (m := checkCount "sorted" 1 1 _) (wpAny_pure ?_)
  refine wpAny_bind (collect_tup hl ?_ hL)
  refine wpAny_bind (wpAny_newList ?_ hL)
  have hsz : ((s.heap.push (seqObj "list" #[] 0)).update s.heap.objs.size (Obj.mapSeq (· ++ vs.toArray))).objs.size = s.heap.objs.size + 1 := by
    rw [Heap.size_update, size_push']
  show wpAny _ _ _ _ _ { s with heap := W.copyHeap s.heap vs }
  rw [hsz]
  refine wpAny_bind (wpAny_holding (wpAny_call_entry_kw slot_list_sort ⟨_, W.copyHeap_at s.heap vs, rfl⟩ entry_list_sort ?body (ha2 _)))
  case body =>
    show wpAny (model prog w) A.in1.in1 (Builtin.«list.sort» ⟨[.ref (s.heap.objs.size + 1)], kw⟩) _ _ _
    refine wpAny_mono (body _) (fun f s' hf => ?_) fun _ _ e => e
    obtain ⟨rfl, hq⟩ := hf
    exact ⟨_, rfl, wpAny_pure ⟨_, rfl, hq⟩⟩
open W in
theorem sortedT_data {β : Type} {vs : List Value} {bs : List β} {enc : β → PyData} {R : Value → β → Prop} {l : Addr} {Q : Value → Shared → Prop} (hl : s.heap.IsTuple l vs.toArray) (e : W.EachIs R vs bs) (er : W.EachIs (fun v b => ∃ as, Reads s.heap v (enc b) as) vs bs) (hal : W.AllAlike (bs.map enc)) (hk : W.Sortable (bs.map enc)) (hL : bs.length ≤ sizeLine)
    (hu : ∀ b, b ∈ bs → A.units + 2 + (enc b).depth < cLine) (h : ∀ out, out.length = bs.length → W.EachIs R out (bs.mergeSort (W.dataLe false enc)) → Q (.ref (s.heap.objs.size + 1)) { s with heap := sortedAll s.heap vs (List.toArray out) }) :
    wpAny (model prog w) A (call (.builtin "sorted") [.ref l]) Q E s := by
  have er' : EachIs (fun v b => ∃ as, Reads (sortingHeap (copyHeap s.heap vs) (s.heap.objs.size + 1) vs) v (enc b) as) vs bs := er.mono fun _ _ ⟨as, r⟩ => ⟨as, PyProof.Rows.Reads.keeps (fun _ _ => sorting_copy_old) r⟩
  have hL' : vs.length ≤ sizeLine := by rw [e.length]; exact hL
  refine sortedT_of_sort hl hL' (args_sorted1 _) (fun _ => args_list_sort _) fun _ => list_sort_vals (s := { s with heap := copyHeap s.heap vs }) (copyHeap_at s.heap vs) (SortsAt.data (s := { s with heap := sortingHeap (copyHeap s.heap vs) (s.heap.objs.size + 1) vs }) (each_map (R := fun v d => ∃ as, Reads (sortingHeap (copyHeap s.heap vs) (s.heap.objs.size + 1) vs) v d as) enc er') hal hk (bound_map hu)) hL' ⟨rfl, ?_⟩
  exact h _ (by rw [sortVals_length false rfl]; exact e.length) (sortVals_data false e er' hal)
end
end G
end
section
set_option Elab.async false
set_option linter.all false
set_option maxRecDepth 100000
/-! G6: built-in functions, sorting, truth. -/
namespace G
open PySem PySem.Spec PyProof.Rows L2
variable [Tabl]

/-! ### insertion is merge -/
def leK (a b : PV) : Bool := W.dataLe false toD a b
theorem leK_eq (a b : PV) : leK a b = !W.dataLt (toD b) (toD a) := rfl
theorem leK_total : W.TotalLe leK := show W.TotalLe (W.sortLe (listOrd itemOrd) false fun b => W.keyToks (toD b)) from W.sortLe_total _ _ _
def insK (x : PV) : List PV → List PV
  | [] => [x]
  | y :: ys => if leK x y then x :: y :: ys else y :: insK x ys
def isortK : List PV → List PV
  | [] => []
  | x :: xs => insK x (isortK xs)
theorem insK_at {x : PV} : ∀ {l1 l2 : List PV}, (∀ b ∈ l1, leK x b = false) → (∀ b ∈ l2, leK x b = true) → insK x (l1 ++ l2) = l1 ++ x :: l2
  | [], [], _, _ => rfl
  | [], y :: ys, _, h => by
    rw [List.nil_append, List.nil_append, insK, if_pos (h y List.mem_cons_self)]
  | z :: zs, l2, h1, h2 => by
    rw [List.cons_append, List.cons_append, insK, if_neg (by rw [h1 z List.mem_cons_self]; exact Bool.false_ne_true), insK_at (fun b hb => h1 b (List.mem_cons_of_mem _ hb)) h2]
theorem isortK_merge : ∀ xs : List PV, isortK xs = xs.mergeSort leK
  | [] => by rw [isortK, List.mergeSort_nil]
  | x :: xs => by
    have tot : ∀ a b, (leK a b || leK b a) = true := fun a b => by
      rw [Bool.or_eq_true]; exact leK_total.total a b
    obtain ⟨l1, l2, e1, e2, e3⟩ := List.mergeSort_cons leK_total.trans tot x xs
    have pw := List.pairwise_mergeSort leK_total.trans tot (x :: xs)
    rw [e1] at pw ⊢
    rw [isortK, isortK_merge xs, e2]
    refine insK_at (fun b hb => by simpa using e3 b hb) fun b hb => ?_
    rw [List.pairwise_append] at pw
    exact (List.pairwise_cons.mp pw.2.1).1 b hb
theorem insB_insK {x : PV} : ∀ {ys : List PV}, (∀ y ∈ ys, pyLt y x = W.dataLt (toD y) (toD x)) → insB x ys = insK x ys
  | [], _ => rfl
  | y :: ys, h => by
    have e := h y List.mem_cons_self
    have ih := insB_insK (x := x) (ys := ys) fun z hz => h z (List.mem_cons_of_mem _ hz)
    rw [insB, insK, leK_eq, e, ih]
    cases W.dataLt (toD y) (toD x) <;> rfl
theorem insK_perm (x : PV) : ∀ ys : List PV, (insK x ys).Perm (x :: ys)
  | [] => .refl _
  | y :: ys => by
    rw [insK]
    split
    · exact .refl _
    · exact ((insK_perm x ys).cons y).trans (.swap x y ys)
theorem isortK_perm : ∀ xs : List PV, (isortK xs).Perm xs
  | [] => .refl _
  | x :: xs => (insK_perm x _).trans ((isortK_perm xs).cons x)
theorem isort_isortK : ∀ {xs : List PV}, (∀ x ∈ xs, ∀ y ∈ xs, pyLt y x = W.dataLt (toD y) (toD x)) → isort xs = isortK xs
  | [], _ => rfl
  | x :: xs, h => by
    have ih := isort_isortK (xs := xs) fun a ha b hb => h a (List.mem_cons_of_mem _ ha) b (List.mem_cons_of_mem _ hb)
    rw [isort, isortK, ih]
    exact insB_insK fun y hy => h x List.mem_cons_self y (List.mem_cons_of_mem _ ((isortK_perm xs).mem_iff.mp hy))
theorem allOk_of {xs : List PV} (h : allOk xs = true) : ∀ x ∈ xs, ∀ y ∈ xs, ltOk x y = true := by
  unfold allOk at h
  intro x hx y hy
  exact List.all_eq_true.mp (List.all_eq_true.mp h x hx) y hy
theorem isort_merge {xs : List PV} (h : allOk xs = true) : isort xs = xs.mergeSort leK := by
  rw [isort_isortK, isortK_merge]
  intro x hx y hy
  obtain ⟨o1, o2, al, _⟩ := ltOk_of (allOk_of h y hy x hx)
  exact pyLt_data y x (ok_of o1).1 (ok_of o2).1 al

/-! ### built-in functions by values -/
section
variable {X : Cx}
def rFn (K : PySem.W.Frag) (op : LH → List PV → Option PV) : List V → Hp → VK → Prop := fun vs H Q => ∃ (S : GS) (xs : List PV) (r : PV), S.H = H ∧ Rel K S ∧ RepL K S xs vs ∧ op S.h xs = some r ∧
  ∀ H' z, Ext S { S with H := H' } → Rel K { S with H := H' } → RepV K { S with H := H' } r z → Q z H'
def FnS (X : Cx) (f : Value) (op : LH → List PV → Option PV) : Prop := CallR X f (rFn X.K op)
theorem FnS.or {f : Value} {op : LH → List PV → Option PV} (h : ∀ (S : GS) (xs : List PV) (vs : List V) (r : PV), Rel X.K S → RepL X.K S xs vs → op S.h xs = some r →
    ∃ rr : List V → Hp → VK → Prop, CallR X f rr ∧ ∀ Q : VK, (∀ H' z, Ext S { S with H := H' } → Rel X.K { S with H := H' } → RepV X.K { S with H := H' } r z → Q z H') → rr vs S.H Q) : FnS X f op := by
  intro pins s σ H vs us Q I rv ⟨S, xs, r, eH, R, rl, e, q⟩
  subst eH
  obtain ⟨rr, hr, k⟩ := h S xs vs r R rl e
  exact hr pins s σ S.H vs us Q I rv (k Q q)
theorem repL_one {K : PySem.W.Frag} {S : GS} {x : PV} {vs : List V} (h : RepL K S [x] vs) : ∃ v, vs = [v] ∧ RepV K S x v := by
  rw [RepL] at h
  obtain ⟨v, r, e, h1, h2⟩ := h
  rw [RepL] at h2
  subst h2
  exact ⟨v, e, h1⟩
theorem repL_two {K : PySem.W.Frag} {S : GS} {x y : PV} {vs : List V} (h : RepL K S [x, y] vs) : ∃ v w, vs = [v, w] ∧ RepV K S x v ∧ RepV K S y w := by
  rw [RepL] at h
  obtain ⟨v, r, e, h1, h2⟩ := h
  obtain ⟨w, e2, h3⟩ := repL_one h2
  subst e2
  exact ⟨v, w, e, h1, h3⟩
/-- one argument -/
theorem FnS.one {f : Value} {op : LH → List PV → Option PV} (h0 : ∀ h xs r, op h xs = some r → ∃ x, xs = [x]) (h : ∀ (S : GS) (x : PV) (v : V) (r : PV), Rel X.K S → RepV X.K S x v → op S.h [x] = some r →
    ∃ rr : List V → Hp → VK → Prop, CallR X f rr ∧ ∀ Q : VK, (∀ H' z, Ext S { S with H := H' } → Rel X.K { S with H := H' } → RepV X.K { S with H := H' } r z → Q z H') → rr [v] S.H Q) : FnS X f op := FnS.or fun S xs vs r R rl e => by
  obtain ⟨x, rfl⟩ := h0 _ _ _ e
  obtain ⟨v, rfl, rx⟩ := repL_one rl
  exact h S x v r R rx e
theorem one_arg {op : LH → List PV → Option PV} (hn : ∀ h, op h [] = none) (h2 : ∀ h x y r, op h (x :: y :: r) = none) : ∀ h xs r, op h xs = some r → ∃ x, xs = [x] := fun h xs r e => by
  match xs, e with
  | [], e => rw [hn] at e; cases e
  | [x], _ => exact ⟨x, rfl⟩
  | x :: y :: r, e => rw [h2] at e; cases e
theorem fs_len : FnS X (.builtin "len") fLen := FnS.one (one_arg (fun _ => rfl) fun _ _ _ _ => rfl) fun S x v r R h e => by
  by_cases hscr : ∃ xs, x = .scr xs
  · obtain ⟨xs, rfl⟩ := hscr
    simp only [fLen] at e
    cases e
    rw [RepV] at h
    obtain ⟨a, vs, ev, t, q⟩ := h
    refine ⟨_, call_len, fun Q k => ⟨v, vs.length, rfl, ?_, ?_⟩⟩
    · subst ev; exact .inl ⟨vs, t.sq, rfl⟩
    · rw [q.length]; exact fin_int R k
  replace e : (match view S.h x with
    | .lst xs => some (.int xs.length)
    | .tup xs => some (.int xs.length)
    | .str s => if sizeOk s.length then some (.int s.length) else none
    | _ => none) = some r := by
    cases x <;> first | exact e | exact absurd ⟨_, rfl⟩ hscr
  split at e
  · rename_i xs ex
    cases e
    obtain ⟨a, vs, ev, t, q⟩ := rep_viewL R h ex
    refine ⟨_, call_len, fun Q k => ⟨v, vs.length, rfl, ?_, ?_⟩⟩
    · subst ev; exact .inl ⟨vs, SqL.of t, rfl⟩
    · rw [q.length]; exact fin_int R k
  · rename_i xs ex
    have ex := view_self ex (.inl ⟨_, rfl⟩)
    subst ex
    cases e
    obtain ⟨a, vs, ev, t, q⟩ := rep_tup h
    refine ⟨_, call_len, fun Q k => ⟨v, vs.length, rfl, ?_, ?_⟩⟩
    · subst ev; exact .inr ⟨vs, t.sq, rfl⟩
    · rw [q.length]; exact fin_int R k
  · rename_i s ex
    have ex := view_self ex (.inr rfl)
    subst ex
    split at e
    · rename_i hz
      cases e
      refine ⟨_, call_len, fun Q k => ⟨_, s.length, rfl, ?_, fin_int R k⟩⟩
      rw [(rep_str h).1]
      exact ⟨sizeOk_le hz, rfl⟩
    · cases e
  · cases e
theorem fs_int : FnS X (.type "int") fInt := FnS.or fun S xs vs r R rl e => by
  unfold fInt at e
  split at e
  · cases e
    obtain ⟨v, rfl, rx⟩ := repL_one rl
    exact ⟨_, call_int1, fun Q k => .inl ⟨_, by rw [rep_int rx], fin_int R k⟩⟩
  · cases e
    obtain ⟨v, rfl, rx⟩ := repL_one rl
    exact ⟨_, call_int1, fun Q k => .inr ⟨_, by rw [rep_bl rx], fin_int R k⟩⟩
  · cases e
theorem fs_bool : FnS X (.type "bool") fBool := FnS.or fun S xs vs r R rl e => by
  unfold fBool at e
  split at e
  · cases e
    obtain ⟨v, rfl, rx⟩ := repL_one rl
    exact ⟨_, call_bool1, fun Q k => .inr ⟨_, by rw [rep_bl rx], fin_b R k⟩⟩
  · cases e
theorem fs_abs : FnS X (.builtin "abs") fAbs := FnS.or fun S xs vs r R rl e => by
  unfold fAbs at e
  split at e
  · cases e
    obtain ⟨v, rfl, rx⟩ := repL_one rl
    exact ⟨_, call_abs, fun Q k => ⟨_, by rw [rep_int rx], fin_int R k⟩⟩
  · cases e
theorem fs_max (hc : X.calm = true) : FnS X (.builtin "max") fMax := FnS.or fun S xs vs r R rl e => by
  unfold fMax at e
  split at e
  · cases e
    obtain ⟨v, w, rfl, rx, ry⟩ := repL_two rl
    exact ⟨_, call_max2 hc, fun Q k => ⟨_, _, by rw [rep_int rx, rep_int ry], fin_int R k⟩⟩
  · cases e
theorem fs_min (hc : X.calm = true) : FnS X (.builtin "min") fMin := FnS.or fun S xs vs r R rl e => by
  unfold fMin at e
  split at e
  · cases e
    obtain ⟨v, w, rfl, rx, ry⟩ := repL_two rl
    exact ⟨_, call_min2 hc, fun Q k => ⟨_, _, by rw [rep_int rx, rep_int ry], fin_int R k⟩⟩
  · cases e
theorem fs_tuple : FnS X (.type "tuple") fTuple := FnS.one (one_arg (fun _ => rfl) fun _ _ _ _ => rfl) fun S x v r R h e => by
  simp only [fTuple] at e
  split at e
  · rename_i xs ex
    cases e
    obtain ⟨a, vs, ev, t, q⟩ := rep_viewL R h ex
    exact ⟨_, call_tuple_of, fun Q k => ⟨a, vs, by rw [ev], .inl ⟨SqL.of t, fun n hn => k _ _ (R.alloc hn).1 (R.alloc hn).2 (rep_newT R hn q)⟩⟩⟩
  · rename_i xs ex
    have ex := view_self ex (.inl ⟨_, rfl⟩)
    subst ex
    cases e
    obtain ⟨a, vs, ev, t, q⟩ := rep_tup h
    exact ⟨_, call_tuple_of, fun Q k => ⟨a, vs, by rw [ev], .inr ⟨t.sq, by rw [← ev]; exact k S.H v (Ext.refl S) R h⟩⟩⟩
  · cases e
theorem fs_list : FnS X (.type "list") fList := FnS.one (one_arg (fun _ => rfl) fun _ _ _ _ => rfl) fun S x v r R h e => by
  simp only [fList] at e
  split at e
  · rename_i xs ex
    cases e
    obtain ⟨a, vs, ev, t, q⟩ := rep_viewL R h ex
    exact ⟨_, call_list_of, fun Q k => ⟨a, vs, by rw [ev], .inl (SqL.of t), fun n hn => k _ _ (R.alloc hn).1 (R.alloc hn).2 (rep_newL R hn q)⟩⟩
  · rename_i xs ex
    have ex := view_self ex (.inl ⟨_, rfl⟩)
    subst ex
    cases e
    obtain ⟨a, vs, ev, t, q⟩ := rep_tup h
    exact ⟨_, call_list_of, fun Q k => ⟨a, vs, by rw [ev], .inr t.sq, fun n hn => k _ _ (R.alloc hn).1 (R.alloc hn).2 (rep_newL R hn q)⟩⟩
  · cases e
theorem boolsOf_rep {K : PySem.W.Frag} {S : GS} : ∀ {xs : List PV} {vs : List V} {bs : List Bool}, RepL K S xs vs → boolsOf xs = some bs → vs = bs.map V.bl
  | [], _, _, h, e => by
    rw [RepL] at h
    cases e
    exact h
  | x :: xs, _, bs, h, e => by
    rw [RepL] at h
    obtain ⟨v, r, rfl, h1, h2⟩ := h
    cases x with
    | bl b =>
      simp only [boolsOf] at e
      obtain ⟨bs', e1, e2⟩ := Option.map_eq_some_iff.mp e
      subst e2
      rw [rep_bl h1, boolsOf_rep h2 e1]
      rfl
    | _ => cases e
theorem intsOf_rep {K : PySem.W.Frag} {S : GS} : ∀ {xs : List PV} {vs : List V} {bs : List Int}, RepL K S xs vs → intsOf xs = some bs → vs = bs.map V.int
  | [], _, _, h, e => by
    rw [RepL] at h
    cases e
    exact h
  | x :: xs, _, bs, h, e => by
    rw [RepL] at h
    obtain ⟨v, r, rfl, h1, h2⟩ := h
    cases x with
    | int b =>
      simp only [intsOf] at e
      obtain ⟨bs', e1, e2⟩ := Option.map_eq_some_iff.mp e
      subst e2
      rw [rep_int h1, intsOf_rep h2 e1]
      rfl
    | _ => cases e
theorem rep_lst {K : PySem.W.Frag} {S : GS} {xs : List PV} {v : V} (h : RepV K S (.lst xs) v) : ∃ a vs, v = .ref a ∧ S.H a = some (.lst vs) ∧ RepL K S xs vs := by
  rw [RepV] at h
  obtain ⟨a, vs, e, _, t, r⟩ := h
  exact ⟨a, vs, e, t, r⟩
theorem fs_all (hc : X.calm = true) : FnS X (.builtin "all") fAll := FnS.or fun S xs vs r R rl e => by
  unfold fAll at e
  split at e
  · obtain ⟨bs, e1, e2⟩ := Option.map_eq_some_iff.mp e
    subst e2
    obtain ⟨v, rfl, rx⟩ := repL_one rl
    obtain ⟨a, ws, ev, t, q⟩ := rep_lst rx
    exact ⟨_, cr_all hc, fun Q k => ⟨a, bs, by rw [ev], by rw [← boolsOf_rep q e1]; exact SqL.of t, fin_b R k⟩⟩
  · cases e
theorem fs_any (hc : X.calm = true) : FnS X (.builtin "any") fAny := FnS.or fun S xs vs r R rl e => by
  unfold fAny at e
  split at e
  · obtain ⟨bs, e1, e2⟩ := Option.map_eq_some_iff.mp e
    subst e2
    obtain ⟨v, rfl, rx⟩ := repL_one rl
    obtain ⟨a, ws, ev, t, q⟩ := rep_lst rx
    exact ⟨_, cr_any hc, fun Q k => ⟨a, bs, by rw [ev], by rw [← boolsOf_rep q e1]; exact SqL.of t, fin_b R k⟩⟩
  · cases e
theorem fs_sum (hc : X.calm = true) : FnS X (.builtin "sum") fSum := FnS.or fun S xs vs r R rl e => by
  unfold fSum at e
  split at e
  · obtain ⟨bs, e1, e2⟩ := Option.map_eq_some_iff.mp e
    subst e2
    obtain ⟨v, rfl, rx⟩ := repL_one rl
    obtain ⟨a, ws, ev, t, q⟩ := rep_lst rx
    exact ⟨_, cr_sum hc, fun Q k => ⟨a, bs, by rw [ev], by rw [← intsOf_rep q e1]; exact SqL.of t, fin_int R k⟩⟩
  · cases e

/-! ### sorted -/
theorem dpAll_get {K : PySem.W.Frag} {H : Hp} : ∀ {vs : List V} {ds : List PyData} {i : Nat} {v : V}, DpAll K H vs ds → vs[i]? = some v → ∃ d, ds[i]? = some d ∧ Dp K H v d
  | _, _, _, _, .nil, e => by simp at e
  | _, _, 0, _, .cons h _, e => by simp at e; subst e; exact ⟨_, rfl, h⟩
  | _, _, i + 1, v, .cons _ t, e => by
    obtain ⟨d, h1, h2⟩ := dpAll_get (i := i) (v := v) t (by simpa using e)
    exact ⟨d, by simpa using h1, h2⟩
theorem each_of {K : PySem.W.Frag} {S : GS} : ∀ {xs : List PV} {vs : List V} {us : List Value}, RepL K S xs vs → Vals vs us → W.EachIs (fun u x => ∃ v, RelV v u ∧ RepV K S x v) us xs
  | [], _, _, h, r => by
    rw [RepL] at h
    subst h
    cases r
    exact .nil
  | x :: xs, _, _, h, r => by
    rw [RepL] at h
    obtain ⟨v, t, rfl, h1, h2⟩ := h
    cases r with
    | cons r1 r2 => exact .cons ⟨v, r1, h1⟩ (each_of h2 r2)
theorem of_each {K : PySem.W.Frag} {S : GS} : ∀ {xs : List PV} {us : List Value}, W.EachIs (fun u x => ∃ v, RelV v u ∧ RepV K S x v) us xs → ∃ vs, Vals vs us ∧ RepL K S xs vs
  | _, _, .nil => ⟨[], .nil, repL_nil⟩
  | _, _, .cons ⟨v, r1, h1⟩ t => by
    obtain ⟨vs, r2, h2⟩ := of_each t
    exact ⟨v :: vs, .cons r1 r2, repL_cons h1 h2⟩
theorem each_mono {R R' : Value → PV → Prop} : ∀ {xs : List PV} {us : List Value}, W.EachIs R us xs → (∀ u, ∀ x ∈ xs, R u x → R' u x) → W.EachIs R' us xs
  | _, _, .nil, _ => .nil
  | _, _, .cons h t, k => .cons (k _ _ List.mem_cons_self h) (each_mono t fun u x hx => k u x (List.mem_cons_of_mem _ hx))
theorem isTup1_of {x : PV} (h : isTup1 x = true) : ∃ d r, toD x = .tuple (d :: r) := by
  match x, h with
  | .tup (y :: ys), _ => exact ⟨toD y, toDL ys, by rw [toD, toDL]⟩
theorem fs_sorted (hu : X.A.units + 80 < cLine) : FnS X (.builtin "sorted") fSorted := by
  intro pins s σ H vs us Q I rv ⟨S, pxs, r, eH, R, rl, e, q⟩
  subst eH
  obtain ⟨x, rfl⟩ := one_arg (op := fSorted) (fun _ => rfl) (fun _ _ _ _ => rfl) _ _ _ e
  obtain ⟨v, rfl, h⟩ := repL_one rl
  simp only [fSorted] at e
  split at e
  · rename_i xs ex
    split at e
    · rename_i hz
      rw [Bool.and_eq_true, Bool.and_eq_true] at hz
      obtain ⟨⟨ok, st⟩, sz⟩ := hz
      cases e
      obtain ⟨a, ws, ev, t, rw'⟩ := rep_viewL R h ex
      subst ev
      rw [Vals.ref1 rv]
      obtain ⟨its, rvs, hl, _⟩ := I.list (SqL.of t)
      have ea := each_of rw' rvs
      have er : W.EachIs (fun u x => ∃ as, Reads s.heap u (toD x) as) its xs := each_mono ea fun u x hx ⟨w, r1, h1⟩ => by
        have o := (ltOk_of (allOk_of ok x hx x hx)).1
        exact Dp.reads I _ w u (rep_dp x w h1 (ok_of o).1) r1
      have al : W.AllAlike (xs.map toD) := fun d hd d' hd' => by
        obtain ⟨x, hx, rfl⟩ := List.mem_map.mp hd
        obtain ⟨y, hy, rfl⟩ := List.mem_map.mp hd'
        exact (ltOk_of (allOk_of ok x hx y hy)).2.2.1
      have so : W.Sortable (xs.map toD) := by
        rw [Bool.or_eq_true] at st
        rcases st with st | st
        · refine .inl fun d hd => ?_
          obtain ⟨x, hx, rfl⟩ := List.mem_map.mp hd
          exact isTup1_of (List.all_eq_true.mp st x hx)
        · refine .inr fun d hd => ?_
          obtain ⟨x, hx, rfl⟩ := List.mem_map.mp hd
          obtain ⟨o, _, _, nn⟩ := ltOk_of (allOk_of ok x hx x hx)
          refine ⟨toD_none (ok_of o).1 nn, fun ys z => ?_⟩
          have nt := List.all_eq_true.mp st x hx
          cases x with
          | tup _ => cases nt
          | _ => rw [toD] at z; cases z
      have hlen := sizeOk_le sz
      refine W.sorted_data (vs := its) (bs := xs) (enc := toD) hl.isList ea er al so hlen (fun x hx => ?_) fun out ho eo => ?_
      · have o := (ltOk_of (allOk_of ok x hx x hx)).1
        rw [depth_toD x (ok_of o).1]
        have := (ok_of o).2
        omega
      · have em : xs.mergeSort (W.dataLe false toD) = isort xs := (isort_merge ok).symm
        rw [em] at eo
        obtain ⟨zs, rz, hz⟩ := of_each eo
        obtain ⟨ep, he'⟩ := sortedAll_at s.heap its (List.toArray out)
        have hp : S.H (s.heap.objs.size + 1) = none := I.hok.fresh (Nat.le_succ _)
        have zl : zs.length ≤ sizeLine := by rw [rz.length, ho]; exact hlen
        exact ⟨.ref _, upd S.H (s.heap.objs.size + 1) (.lst zs), I.laid (t' := s.toks) (fun _ _ => sortedAll_old) (Nat.le_succ _) ⟨zl, out, ep, rz, he'⟩, rfl, q _ _ (R.alloc hp).1 (R.alloc hp).2 (rep_newL R hp hz)⟩
    · cases e
  · rename_i xs ex
    have ex := view_self ex (.inl ⟨_, rfl⟩)
    subst ex
    split at e
    · rename_i hz
      rw [Bool.and_eq_true, Bool.and_eq_true] at hz
      obtain ⟨⟨ok, st⟩, sz⟩ := hz
      cases e
      obtain ⟨a, ws, ev, t, rw'⟩ := rep_tup h
      subst ev
      rw [Vals.ref1 rv]
      obtain ⟨its, rvs, hl, _⟩ := I.tuple t.sq
      have ea := each_of rw' rvs
      have er : W.EachIs (fun u x => ∃ as, Reads s.heap u (toD x) as) its xs := each_mono ea fun u x hx ⟨w, r1, h1⟩ => by
        have o := (ltOk_of (allOk_of ok x hx x hx)).1
        exact Dp.reads I _ w u (rep_dp x w h1 (ok_of o).1) r1
      have al : W.AllAlike (xs.map toD) := fun d hd d' hd' => by
        obtain ⟨x, hx, rfl⟩ := List.mem_map.mp hd
        obtain ⟨y, hy, rfl⟩ := List.mem_map.mp hd'
        exact (ltOk_of (allOk_of ok x hx y hy)).2.2.1
      have so : W.Sortable (xs.map toD) := by
        rw [Bool.or_eq_true] at st
        rcases st with st | st
        · refine .inl fun d hd => ?_
          obtain ⟨x, hx, rfl⟩ := List.mem_map.mp hd
          exact isTup1_of (List.all_eq_true.mp st x hx)
        · refine .inr fun d hd => ?_
          obtain ⟨x, hx, rfl⟩ := List.mem_map.mp hd
          obtain ⟨o, _, _, nn⟩ := ltOk_of (allOk_of ok x hx x hx)
          refine ⟨toD_none (ok_of o).1 nn, fun ys z => ?_⟩
          have nt := List.all_eq_true.mp st x hx
          cases x with
          | tup _ => cases nt
          | _ => rw [toD] at z; cases z
      have hlen := sizeOk_le sz
      refine sortedT_data (vs := its) (bs := xs) (enc := toD) hl ea er al so hlen (fun x hx => ?_) fun out ho eo => ?_
      · have o := (ltOk_of (allOk_of ok x hx x hx)).1
        rw [depth_toD x (ok_of o).1]
        have := (ok_of o).2
        omega
      · have em : xs.mergeSort (W.dataLe false toD) = isort xs := (isort_merge ok).symm
        rw [em] at eo
        obtain ⟨zs, rz, hz⟩ := of_each eo
        obtain ⟨ep, he'⟩ := sortedAll_at s.heap its (List.toArray out)
        have hp : S.H (s.heap.objs.size + 1) = none := I.hok.fresh (Nat.le_succ _)
        have zl : zs.length ≤ sizeLine := by rw [rz.length, ho]; exact hlen
        exact ⟨.ref _, upd S.H (s.heap.objs.size + 1) (.lst zs), I.laid (t' := s.toks) (fun _ _ => sortedAll_old) (Nat.le_succ _) ⟨zl, out, ep, rz, he'⟩, rfl, q _ _ (R.alloc hp).1 (R.alloc hp).2 (rep_newL R hp hz)⟩
    · cases e
  · cases e

/-! ### isinstance -/
def btV : BT → String
  | .int => "int"
  | .bool => "bool"
  | .tuple => "tuple"
  | .str => "str"
  | .list => "list"
/-- the type of a value -/
def tyOf : PV → String
  | .non => "NoneType"
  | .bl _ => "bool"
  | .int _ => "int"
  | .str _ => "str"
  | .tup _ => "tuple"
  | .lst _ => "list"
  | .dT _ => "dict"
  | .dK _ => "dict"
  | .ref _ => ""
  | .ext _ _ => ""
  | .scr _ => ""
theorem rep_tyX {K : PySem.W.Frag} {S : GS} {x : PV} {v : V} (R : Rel K S) (h : RepV K S x v) (hn : ∀ n, view S.h x ≠ .ref n) : TyX K S.H v (.type (tyOf (view S.h x))) := by
  rcases rep_view R h with ⟨ys, e1, a, vs, ev, t, r⟩ | ⟨ys, e1, a, vs, ev, t, r⟩ | ⟨ys, e1, a, vs, ev, t, r⟩ | ⟨n, e1⟩ | ⟨e1, q⟩
  · rw [e1, ev]; exact .base (.lst t)
  · rw [e1, ev]; exact .base (.dT t)
  · rw [e1, ev]; exact .base (.dK t)
  · exact absurd e1 (hn n)
  · rw [e1]
    cases x with
    | non => rw [rep_non h]; exact .base .non
    | bl b => rw [rep_bl h]; exact .base (.bl b)
    | int b => rw [rep_int h]; exact .base (.int b)
    | str b => rw [(rep_str h).1]; exact .base (.str b)
    | tup xs =>
      obtain ⟨a, vs, ev, t, r⟩ := rep_tup h
      rw [ev]
      rcases t with t | ⟨_, o, its, n, hk, hc, _⟩
      · exact .base (.tup t.2)
      · exact .kTuple hk hc
    | lst xs => rcases q with ⟨_, q⟩ | q <;> cases q
    | dT xs => rcases q with ⟨_, q⟩ | q <;> cases q
    | dK xs => rcases q with ⟨_, q⟩ | q <;> cases q
    | ref xs => rcases q with ⟨_, q⟩ | q <;> cases q
    | ext a k => rcases q with ⟨_, q⟩ | q <;> cases q
    | scr xs => rcases q with ⟨_, q⟩ | q <;> cases q
theorem kit_bt (K : PySem.W.Frag) (t : BT) (x : PV) (hn : ∀ n, x ≠ .ref n) (hx : ∀ a k, x ≠ .ext a k) (hs : ∀ xs, x ≠ .scr xs) : PySem.W.kitOne K (.type (tyOf x)) (.type (btV t)) = some (isBT t x) := by
  cases x with
  | ref n => exact absurd rfl (hn n)
  | ext a k => exact absurd rfl (hx a k)
  | scr xs => exact absurd rfl (hs xs)
  | _ => cases t <;> rfl
end
end G
end
section
set_option Elab.async false
set_option linter.all false
set_option maxRecDepth 100000
/-! G7: calls, truth, targets, statements. -/
namespace G
open PySem PySem.Spec PyProof.Rows L2
variable [Tabl]

section
variable {X : Cx} {ca : CA} {F : FEnv} {a b e : Expr} {es : List Expr} {c1 c2 : CE} {cl : CL} {p pos : Pos} {x : Str}
/-! ### built-in functions by name -/
theorem fn_imp {op : LH → List PV → Option PV} {W : WX} {σ : St} {H : Hp} {Q : VK} (h : tE X.K ca W F (cFn op cl) σ H Q) : tCB (rFn X.K op) (tA X.K ca W F cl) σ H Q := by
  obtain ⟨S, env, eH, R, e, p⟩ := h
  subst eH
  refine ⟨S, env, rfl, R, e, PostA.bindE p fun xs S1 zs E1 R1 r1 p1 => ?_⟩
  obtain ⟨r, e1, p1⟩ := p1.lift_some
  exact ⟨S1, xs, r, rfl, R1, r1, e1, fun H' z E R' q => p1 _ z (by rfl) E R' q⟩
theorem se_fnB {id : String} {op : LH → List PV → Option PV} (hc : FnS X (.builtin id) op) (hg : Gl X x) (hm : X.mg x = none) (hv : bootBuiltins x = some (.builtin id)) (ha : SA X ca F cl (e :: es)) (hn : x ≠ "__name__") (hdb : (x == ("__debug__" : Str)) = false)
    (he : starEach (e :: es) X.env = (false, eval e X.env) :: starEach es X.env) (hpl : (backTo pos (starEach es X.env)).any (·.1) = false) : SE X ca F (cFn op cl) (.Call (.Name x p) (e :: es) [] pos) := fun W tk =>
  PE.imp (pe_callB hc hg hm hv (ha W tk) hn hdb he hpl) fun _ _ _ h => fn_imp h
theorem se_fnT {T : String} {op : LH → List PV → Option PV} (hc : FnS X (.type T) op) (hg : Gl X x) (hm : X.mg x = none) (hv : bootBuiltins x = some (.type T)) (ha : SA X ca F cl (e :: es)) (hn : x ≠ "__name__") (hdb : (x == ("__debug__" : Str)) = false)
    (he : starEach (e :: es) X.env = (false, eval e X.env) :: starEach es X.env) (hpl : (backTo pos (starEach es X.env)).any (·.1) = false) : SE X ca F (cFn op cl) (.Call (.Name x p) (e :: es) [] pos) := fun W tk =>
  PE.imp (pe_callTy hc hg hm hv (ha W tk) hn hdb he hpl) fun _ _ _ h => fn_imp h
/-- isinstance(a, T) -/
theorem se_isi {t : BT} {p2 : Pos} {y : Str} (hg : Gl X "isinstance") (hm : X.mg "isinstance" = none) (hv : bootBuiltins "isinstance" = some (.builtin "isinstance")) (hg2 : Gl X y) (hm2 : X.mg y = none) (hv2 : bootBuiltins y = some (.type (btV t))) (hn2 : y ≠ "__name__") (hdb2 : (y == ("__debug__" : Str)) = false) (ha : SE X ca F c1 a)
    (hs : starEach (a :: [.Name y p2]) X.env = (false, eval a X.env) :: starEach [.Name y p2] X.env) :
    SE X ca F (cFn (fIs t) (lCons c1 lNil)) (.Call (.Name "isinstance" p) [a, .Name y p2] [] pos) := fun W tk =>
  PE.imp (pe_callB call_isi hg hm hv (pa_cons (ha W tk) (pa_cons (pe_bltn (v := .ty (btV t)) hg2 hm2 hv2 rfl hn2 hdb2) pa_nil) hs) (by decide) (by decide) hs) fun σ H Q ⟨S, env, eH, R, e, p⟩ => by
    subst eH
    refine ⟨S, env, rfl, R, e, PostE.bindE (Q := Q) (f := fun x h => lift h (fIs t h [x])) ?_ fun x S1 z E1 R1 r1 p1 => ?_⟩
    · have q : PostE X.K ca W S σ Q (((lCons c1 lNil) F env S.h).bind fun xs h => lift h (fIs t h xs)) := p
      unfold lCons lNil at q
      cases e1 : c1 F env S.h with
      | ok y g => rw [e1] at q; exact q
      | exc k g => rw [e1] at q; exact q
      | fail => rw [e1] at q; exact q
    · obtain ⟨r, e1, p1⟩ := p1.lift_some
      simp only [fIs] at e1
      have hn : ∀ n, view S1.h x ≠ .ref n := fun n z => by rw [z] at e1; cases e1
      have er : r = .bl (isBT t (view S1.h x)) := by
        split at e1
        · cases e1
        · cases e1
        · cases e1
        · exact (Option.some.inj e1).symm
      subst er
      exact ⟨z, .ty (btV t), _, _, _, rfl, .ty _, rep_tyX R1 r1 hn, kit_bt X.K t _ hn (view_noExt _ _) (view_noScr _ _), p1 S1 _ rfl (Ext.refl _) R1 (by rw [RepV])⟩

/-! ### truth -/
theorem st_tru (ha : SE X ca F c1 a) (he : ∀ whole, isTrue a X.env whole = (do let v ← whole; standAt a.pos; holding [v] (truthy v))) : ST X ca F (tTru c1) a := fun W tk =>
  PT.imp (pt_truth (ha W tk) he) fun σ H Q ⟨S, env, eH, R, e, p⟩ => by
    subst eH
    refine ⟨S, env, rfl, R, e, PostE.bindET p fun x S1 z E1 R1 r1 p1 => ?_⟩
    cases q : truth S1.h x with
    | none => simp only [q] at p1; exact p1.elim
    | some k =>
      simp only [q] at p1
      refine ⟨k, ?_, p1 S1 rfl (Ext.refl _) R1⟩
      unfold truth at q
      split at q
      · rename_i ex
        have ex := view_self ex (.inr rfl)
        subst ex
        cases q
        rw [rep_non r1]
        exact rfl
      · rename_i ex
        have ex := view_self ex (.inr rfl)
        subst ex
        cases q
        rw [rep_bl r1]
        exact rfl
      · rename_i ex
        have ex := view_self ex (.inr rfl)
        subst ex
        cases q
        rw [rep_int r1]
        exact rfl
      · rename_i s ex
        have ex := view_self ex (.inr rfl)
        subst ex
        split at q
        · rename_i hz
          cases q
          rw [(rep_str r1).1]
          refine ⟨sizeOk_le hz, ?_⟩
          cases s.length <;> rfl
        · cases q
      · rename_i xs ex
        have ex := view_self ex (.inl ⟨_, rfl⟩)
        subst ex
        cases q
        obtain ⟨b, vs, ev, t, r⟩ := rep_tup r1
        rw [ev]
        refine .inr (.inl ⟨vs, t.sq, ?_⟩)
        have l := r.length
        cases xs <;> cases vs <;> first | rfl | cases l
      · rename_i xs ex
        cases q
        obtain ⟨b, vs, ev, t, r⟩ := rep_viewL R1 r1 ex
        rw [ev]
        refine .inl ⟨vs, SqL.of t, ?_⟩
        have l := r.length
        cases xs <;> cases vs <;> first | rfl | cases l
      · cases q

/-! ### calls of the program's own functions -/
def PostF (K : PySem.W.Frag) (ca : CA) (S : GS) (Q : VK) (E : XK) : Res PV → Prop
  | .ok x h => ∀ S' z, S'.h = h → Ext S S' → Rel K S' → RepV K S' x z → Q z S'.H
  | .exc c h => ∀ S', S'.h = h → Ext S S' → Rel K S' → E (.ref (ca c)) none S'.H
  | .fail => False
/-- what a function promises: F's result -/
def spF (K : PySem.W.Frag) (ca : CA) (F : FEnv) (f : Nat) : Sp := fun vs H Q E => ∃ (S : GS) (xs : List PV), S.H = H ∧ Rel K S ∧ RepL K S xs vs ∧ PostF K ca S Q E (F f xs S.h)
theorem se_call {f k : Nat} {fa : Addr} {fd : FuncData} {ps : List Str} (G0 : FnOk X.prog X.w X.K X.mg X.base (L2N.CX X.prog X.w) k fa fd ps (spF X.K ca F f)) (hr : Room k X.A) (hg : Gl X x) (hm : X.mg x = some (.ref fa)) (hk : PySem.W.keepIn X.K (.ref fa) = true) (hb : Binds X.K fd ps [])
    (ha : SA X ca F cl (e :: es)) (hdb : (x == ("__debug__" : Str)) = false) (he : starEach (e :: es) X.env = (false, eval e X.env) :: starEach es X.env) (hpl : (backTo pos (starEach es X.env)).any (·.1) = false) :
    SE X ca F (cCall f cl) (.Call (.Name x p) (e :: es) [] pos) := fun W tk =>
  PE.imp (pe_callSD (E := WE W) G0 hr hg hm hk hb .nil (fun σ => L2N.passAt tk σ) (ha W tk) hdb he hpl) fun σ H Q ⟨S, env, eH, R, e, p⟩ => by
    subst eH
    refine ⟨S, env, rfl, R, e, PostA.bindE p fun xs S1 zs E1 R1 r1 p1 => ?_⟩
    rw [List.append_nil]
    refine ⟨S1, xs, rfl, R1, r1, ?_⟩
    cases q : F f xs S1.h with
    | ok x g => simp only [q] at p1; exact p1
    | exc c g => simp only [q] at p1; exact p1
    | fail => simp only [q] at p1; exact p1.elim

/-! ### targets -/
def tG (K : PySem.W.Frag) (t : TP) : TG := fun v σ H Q => ∃ (S : GS) (env env' : Env) (x : PV), S.H = H ∧ Rel K S ∧ EnvR K S env σ ∧ RepV K S x v ∧ t.put x env = some env' ∧ ∀ σ', EnvR K S env' σ' → (∀ j, j ∉ t.slots → σ'[j]? = σ[j]?) → Q σ' H
def tGs (K : PySem.W.Frag) (ts : List TP) : TGs := fun vs σ H Q => ∃ (S : GS) (env env' : Env) (xs : List PV), S.H = H ∧ Rel K S ∧ EnvR K S env σ ∧ RepL K S xs vs ∧ TP.putL ts xs env = some env' ∧ ∀ σ', EnvR K S env' σ' → (∀ j, j ∉ TP.slotsL ts → σ'[j]? = σ[j]?) → Q σ' H
def SG (X : Cx) (t : TP) (e : Expr) : Prop := PG X e (tG X.K t)
def SGs (X : Cx) (ts : List TP) (es : List Expr) : Prop := PGs X es (tGs X.K ts)
theorem PG.imp {e : Expr} {t t' : TG} (h : PG X e t) (k : ∀ v σ H Q, t' v σ H Q → t v σ H Q) : PG X e t' := ⟨fun pins s σ H v u Q I r q => h.run pins s σ H v u Q I r (k v σ H Q q)⟩
theorem PGs.imp {e : List Expr} {t t' : TGs} (h : PGs X e t) (k : ∀ v σ H Q, t' v σ H Q → t v σ H Q) : PGs X e t' := ⟨fun pins s σ H v u Q I r q => h.run pins s σ H v u Q I r (k v σ H Q q)⟩
theorem sg_name {i : Nat} (hN : X.N.Nodup) (hi : X.N[i]? = some x) (hx : Loc X.env.scope x) (hf : X.fn x = true ∨ X.env.scope.names.lookup x = some .local) : SG X (.name i) (.Name x pos) :=
  PG.imp (pg_name hN hi hx hf) fun v σ H Q ⟨S, env, env', y, eH, R, e, r, ep, k⟩ => by
    rw [TP.put] at ep
    split at ep
    · cases ep
      refine k _ (e.set i r) fun j hj => ?_
      rw [TP.slots] at hj
      exact List.getElem?_set_ne (fun z => hj (by simp [z]))
    · cases ep
theorem sgs_nil : SGs X [] [] := PGs.imp pgs_nil fun v σ H Q ⟨S, env, env', xs, eH, R, e, r, ep, k⟩ => by
  cases xs with
  | nil =>
    rw [TP.putL] at ep
    cases ep
    rw [RepL] at r
    exact ⟨r, k σ e fun _ _ => rfl⟩
  | cons _ _ => rw [TP.putL] at ep <;> first | cases ep | (intros; rename_i z _; cases z) | (intro z; cases z)
theorem sgs_cons {t : TP} {ts : List TP} (h1 : SG X t e) (h2 : SGs X ts es) (hs : (assignEach (e :: es) X.env).map (·.2) = assign e X.env :: (assignEach es X.env).map (·.2)) : SGs X (t :: ts) (e :: es) :=
  PGs.imp (pgs_cons h1 h2 hs) fun v σ H Q ⟨S, env, env', xs, eH, R, e, r, ep, k⟩ => by
    cases xs with
    | nil => simp only [TP.putL] at ep; cases ep
    | cons y ys =>
      rw [RepL] at r
      obtain ⟨v0, vr, rfl, r1, r2⟩ := r
      simp only [TP.putL] at ep
      cases q : t.put y env with
      | none => rw [q] at ep; cases ep
      | some env1 =>
        rw [q] at ep
        exact ⟨v0, vr, rfl, S, env, env1, y, eH, R, e, r1, q, fun σ1 e1 g1 => ⟨S, env1, env', ys, eH, R, e1, r2, ep, fun σ2 e2 g2 => k σ2 e2 fun j hj => by
          rw [TP.slotsL] at hj
          rw [g2 j fun z => hj (List.mem_append_right _ z), g1 j fun z => hj (List.mem_append_left _ z)]⟩⟩
theorem putL_length : ∀ {ts : List TP} {xs : List PV} {env env' : Env}, TP.putL ts xs env = some env' → xs.length = ts.length
  | [], [], _, _, _ => rfl
  | [], _ :: _, _, _, h => by simp only [TP.putL] at h; cases h
  | _ :: _, [], _, _, h => by simp only [TP.putL] at h; cases h
  | t :: ts, x :: xs, env, env', h => by
    simp only [TP.putL] at h
    cases q : t.put x env with
    | none => rw [q] at h; cases h
    | some e1 =>
      rw [q] at h
      rw [List.length_cons, List.length_cons, putL_length h]
theorem sg_tup {ts : List TP} {k : Nat} (hc : X.calm = true) (h : SGs X ts es) (hn : (assignEach es X.env).length = ts.length) (hst : (assignEach es X.env).findIdx? (·.1) = none) : SG X (.tup ts) (.Tuple es k pos) :=
  PG.imp (pg_tup hc h hn hst) fun v σ H Q ⟨S, env, env', y, eH, R, e, r, ep, kk⟩ => by
    cases y with
    | tup xs =>
      rw [TP.put] at ep
      obtain ⟨a, vs, ev, t, rl⟩ := rep_tup r
      subst eH
      exact ⟨a, vs, ev, t.sq, by rw [rl.length]; exact putL_length ep, S, env, env', xs, rfl, R, e, rl, ep, kk⟩
    | _ => simp only [TP.put] at ep; cases ep
end

/-! ### statements -/
section
variable (K : PySem.W.Frag) (ca : CA) (W : WX)
def PostS (S : GS) (D : Ends) : SRes → Prop
  | .nx env h => ∀ S' σ', S'.h = h → Ext S S' → Rel K S' → EnvR K S' env σ' → D.nx σ' S'.H
  | .bk env h => ∀ S' σ', S'.h = h → Ext S S' → Rel K S' → EnvR K S' env σ' → D.bk σ' S'.H
  | .ct env h => ∀ S' σ', S'.h = h → Ext S S' → Rel K S' → EnvR K S' env σ' → D.ct σ' S'.H
  | .ret x h => ∀ S' z, S'.h = h → Ext S S' → Rel K S' → RepV K S' x z → D.rt z S'.H
  | .exc c h => ∀ S' σ', S'.h = h → Ext S S' → Rel K S' → W (.ref (ca c)) none σ' S'.H
  | .fail => False
variable (F : FEnv)
def tS (c : CS) : TS := fun D σ H => ∃ (S : GS) (env : Env), S.H = H ∧ Rel K S ∧ EnvR K S env σ ∧ PostS K ca W S D (c F env S.h)
end
def SS (X : Cx) (ca : CA) (F : FEnv) (c : CS) (st : Stmt) : Prop := ∀ W : WX, L2N.Takes X W → PS X st (tS X.K ca W F c)
def SSs (X : Cx) (ca : CA) (F : FEnv) (c : CS) (st : List Stmt) : Prop := ∀ W : WX, L2N.Takes X W → PSs X st (tS X.K ca W F c)
section
variable {K : PySem.W.Frag} {ca : CA} {W : WX} {S S' : GS} {D D' : Ends} {σ : St}
theorem PostS.ext (E : Ext S S') {r : SRes} (h : PostS K ca W S D r) : PostS K ca W S' D r := by
  cases r with
  | nx x g => exact fun S1 σ' eh e R q => h S1 σ' eh (E.trans e) R q
  | bk x g => exact fun S1 σ' eh e R q => h S1 σ' eh (E.trans e) R q
  | ct x g => exact fun S1 σ' eh e R q => h S1 σ' eh (E.trans e) R q
  | ret x g => exact fun S1 z eh e R q => h S1 z eh (E.trans e) R q
  | exc c g => exact fun S1 σ' eh e R => h S1 σ' eh (E.trans e) R
  | fail => exact h
theorem PostS.bindE {r : Res PV} {f : PV → LH → SRes} (h : PostS K ca W S D (sBind r f)) {Q1 : VK} (k : ∀ x S' z, Ext S S' → Rel K S' → RepV K S' x z → PostS K ca W S' D (f x S'.h) → Q1 z S'.H) : PostE K ca W S σ Q1 r := by
  cases r with
  | ok x g => exact fun S1 z eh e R q => by subst eh; exact k x S1 z e R q (PostS.ext e h)
  | exc c g => exact fun S1 eh e R => h S1 σ eh e R
  | fail => exact h
theorem PostS.bindT {r : Res Bool} {f : Bool → LH → SRes} (h : PostS K ca W S D (sBind r f)) {Q1 : Bool → Hp → Prop} (k : ∀ x S', Ext S S' → Rel K S' → PostS K ca W S' D (f x S'.h) → Q1 x S'.H) : PostT K ca W S σ Q1 r := by
  cases r with
  | ok x g => exact fun S1 eh e R => by subst eh; exact k x S1 e R (PostS.ext e h)
  | exc c g => exact fun S1 eh e R => h S1 σ eh e R
  | fail => exact h
theorem PostS.bindA {r : Res (List PV)} {f : List PV → LH → SRes} (h : PostS K ca W S D (sBind r f)) {Q1 : List V → Hp → Prop} (k : ∀ x S' z, Ext S S' → Rel K S' → RepL K S' x z → PostS K ca W S' D (f x S'.h) → Q1 z S'.H) : PostA K ca W S σ Q1 r := by
  cases r with
  | ok x g => exact fun S1 z eh e R q => by subst eh; exact k x S1 z e R q (PostS.ext e h)
  | exc c g => exact fun S1 eh e R => h S1 σ eh e R
  | fail => exact h
theorem PostS.nx_here {env : Env} (R : Rel K S) (e : EnvR K S env σ) (h : PostS K ca W S D (.nx env S.h)) : D.nx σ S.H := h S σ rfl (Ext.refl S) R e
end
section
variable {X : Cx} {ca : CA} {F : FEnv} {a b e : Expr} {es : List Expr} {c1 c2 : CE} {cl : CL} {s1 s2 : CS} {p pos : Pos} {x : Str} {st : Stmt} {rest body : List Stmt}
theorem ss_nil : SSs X ca F sSkip [] := fun W _ => PSs.imp pss_nil fun D σ H ⟨S, env, eH, R, e, p⟩ => by
  subst eH
  exact p.nx_here R e
theorem seq_imp {W : WX} {D : Ends} {σ : St} {H : Hp} (h : tS X.K ca W F (sSeq s1 s2) D σ H) : tSeq (tS X.K ca W F s1) (tS X.K ca W F s2) D σ H := by
  obtain ⟨S, env, eH, R, e, p⟩ := h
  subst eH
  refine ⟨S, env, rfl, R, e, ?_⟩
  unfold sSeq at p
  cases q : s1 F env S.h with
  | nx env1 g => rw [q] at p; exact fun S1 σ' eh E R' e' => by subst eh; exact ⟨S1, env1, rfl, R', e', PostS.ext E p⟩
  | bk env1 g => rw [q] at p; exact p
  | ct env1 g => rw [q] at p; exact p
  | ret env1 g => rw [q] at p; exact p
  | exc env1 g => rw [q] at p; exact p
  | fail => rw [q] at p; exact p
theorem ss_cons (h1 : SS X ca F s1 st) (h2 : SSs X ca F s2 rest) : SSs X ca F (sSeq s1 s2) (st :: rest) := fun W tk => PSs.imp (pss_cons (h1 W tk) (h2 W tk)) fun _ _ _ h => seq_imp h
theorem ss_one (h1 : SS X ca F s1 st) : SSs X ca F s1 [st] := fun W tk => pss_one (h1 W tk)
theorem ss_pass : SS X ca F sSkip (.Pass pos) := fun W _ => PS.imp ps_pass fun D σ H ⟨S, env, eH, R, e, p⟩ => by
  subst eH
  exact p.nx_here R e
theorem ss_doc {t : Str} {j} {pos'} : SS X ca F sSkip (.Expr (.Constant (.str t) j pos) pos') := fun W _ => PS.imp ps_doc fun D σ H ⟨S, env, eH, R, e, p⟩ => by
  subst eH
  exact p.nx_here R e
theorem ss_expr (he : SE X ca F c1 e) (hs : swapsWith e none pos.line X.env = pure false) : SS X ca F (sExpr c1) (.Expr e pos) := fun W tk => PS.imp (ps_expr (he W tk) hs) fun D σ H ⟨S, env, eH, R, e, p⟩ => by
  subst eH
  exact ⟨S, env, rfl, R, e, PostS.bindE p fun x S1 z E1 R1 r1 p1 => p1.nx_here R1 (e.mono E1.toExtW)⟩
theorem ss_ret (he : SE X ca F c1 e) : SS X ca F (sRet c1) (.Return (some e) pos) := fun W tk => PS.imp (ps_ret (he W tk)) fun D σ H ⟨S, env, eH, R, e, p⟩ => by
  subst eH
  exact ⟨S, env, rfl, R, e, PostS.bindE p fun x S1 z E1 R1 r1 p1 => p1 S1 z rfl (Ext.refl _) R1 r1⟩
theorem ss_retN : SS X ca F sRetN (.Return none pos) := fun W _ => PS.imp ps_retN fun D σ H ⟨S, env, eH, R, e, p⟩ => by
  subst eH
  exact p S _ rfl (Ext.refl _) R (by rw [RepV])
theorem ss_if {t : CB} (hc : ST X ca F t e) (ha : SSs X ca F s1 body) (hb : SSs X ca F s2 rest) : SS X ca F (sIf t s1 s2) (.If e body rest pos) := fun W tk => PS.imp (ps_if (hc W tk) (ha W tk) (hb W tk)) fun D σ H ⟨S, env, eH, R, e, p⟩ => by
  subst eH
  refine ⟨S, env, rfl, R, e, PostS.bindT p fun x S1 E1 R1 p1 => ?_⟩
  cases x with
  | true => exact ⟨S1, env, rfl, R1, e.mono E1.toExtW, p1⟩
  | false => exact ⟨S1, env, rfl, R1, e.mono E1.toExtW, p1⟩
/-- target = e -/
theorem tgt_end {W : WX} {D : Ends} {S : GS} {env : Env} {σ : St} {y : PV} {v : V} {t : TP} (R : Rel X.K S) (e : EnvR X.K S env σ) (r : RepV X.K S y v)
    (p : PostS X.K ca W S D (match t.put y env with | some env => .nx env S.h | none => .fail)) : tG X.K t v σ S.H D.nx := by
  cases q : t.put y env with
  | none => rw [q] at p; exact p.elim
  | some env' => rw [q] at p; exact ⟨S, env, env', y, rfl, R, e, r, q, fun σ' e' _ => p.nx_here R e'⟩
theorem ss_tgt {t : TP} {tg : Expr} (he : SE X ca F c1 e) (hg : SG X t tg) (hs : swapsWithSole [tg] e pos.line X.env = pure false) (hw : swappedStores [tg] e X.env = pure none)
    (h1 : (assignEach [tg] X.env).map (·.2) = [assign tg X.env]) : SS X ca F (sTgt t c1) (.Assign [tg] e pos) := fun W tk => PS.imp (ps_asg (he W tk) hg hs hw h1) fun D σ H ⟨S, env, eH, R, e, p⟩ => by
  subst eH
  exact ⟨S, env, rfl, R, e, PostS.bindE p fun y S1 z E1 R1 r1 p1 => tgt_end R1 (e.mono E1.toExtW) r1 p1⟩
/-- name = e -/
theorem ss_set {i : Nat} {pos'} (hN : X.N.Nodup) (hi : X.N[i]? = some x) (hx : Loc X.env.scope x) (hf : X.fn x = true ∨ X.env.scope.names.lookup x = some .local) (he : SE X ca F c1 e) (hs : swapsWith e (some (.Name x pos')) pos.line X.env = pure false) :
    SS X ca F (sTgt (.name i) c1) (.Assign [.Name x pos'] e pos) := fun W tk => PS.imp (ps_set hN hi hx (he W tk) hs hf) fun D σ H ⟨S, env, eH, R, e, p⟩ => by
  subst eH
  refine ⟨S, env, rfl, R, e, PostS.bindE p fun y S1 z E1 R1 r1 p1 => ?_⟩
  obtain ⟨S', env0, env', y', eH, R', e', r', ep, k⟩ := tgt_end (t := .name i) R1 (e.mono E1.toExtW) r1 p1
  rw [TP.put] at ep
  split at ep
  · cases ep
    refine k _ (e'.set i r') fun j hj => ?_
    rw [TP.slots] at hj
    exact List.getElem?_set_ne (fun z => hj (by simp [z]))
  · cases ep
/-- a, b = e1, e2 with the stores swapped -/
theorem ss_par {i j : Nat} {y : Str} {px py pt : Pos} {kt k2 pt2} (hc : X.calm = true) (hN : X.N.Nodup) (hi : X.N[i]? = some x) (hj : X.N[j]? = some y) (hij : i ≠ j)
    (hx : X.env.scope.names.lookup x = some .local) (hy : X.env.scope.names.lookup y = some .local) (ha : SA X ca F cl [a, b])
    (hw : swappedStores [.Tuple [.Name x px, .Name y py] kt pt] (.Tuple [a, b] k2 pt2) X.env = pure (some [x, y]))
    (hs : swapsWithSole [.Tuple [.Name x px, .Name y py] kt pt] (.Tuple [a, b] k2 pt2) pos.line X.env = pure false) :
    SS X ca F (sTgt (.tup [.name i, .name j]) (cTup cl)) (.Assign [.Tuple [.Name x px, .Name y py] kt pt] (.Tuple [a, b] k2 pt2) pos) := fun W tk =>
  PS.imp (ps_par hc hN hi hj hij hx hy (ha W tk) hw hs) fun D σ H ⟨S, env, eH, R, e, p⟩ => by
    subst eH
    have p : PostS X.K ca W S D (sBind ((cl F env S.h).bind fun xs h => if sizeOk xs.length then .ok (.tup xs) h else .fail) fun x h => match TP.put (.tup [.name i, .name j]) x env with | some env => .nx env h | none => .fail) := p
    refine ⟨S, env, rfl, R, e, PostS.bindA (D := D) (f := fun xs h => if sizeOk xs.length then (match TP.putL [.name i, .name j] xs env with | some env => .nx env h | none => .fail) else .fail) ?_ fun xs S1 zs E1 R1 r1 p1 => ?_⟩
    · cases q : cl F env S.h with
      | ok xs g =>
        rw [q] at p
        simp only [Res.bind, sBind] at p ⊢
        split
        · rename_i hz
          rw [if_pos hz] at p
          simpa only [TP.put] using p
        · rename_i hz
          rw [if_neg hz] at p
          exact p
      | exc k g => rw [q] at p; exact p
      | fail => rw [q] at p; exact p
    · split at p1
      · cases q : TP.putL [.name i, .name j] xs env with
        | none => rw [q] at p1; exact p1.elim
        | some env' =>
          rw [q] at p1
          have hl := putL_length q
          match xs, hl with
          | [u, w], _ =>
            obtain ⟨uv, wv, rfl, ru, rw'⟩ := repL_two r1
            refine ⟨uv, wv, rfl, p1.nx_here R1 ?_⟩
            simp only [TP.putL, TP.put] at q
            split at q
            · rename_i e1 h1
              split at h1
              · cases h1
                split at q
                · rename_i e2 h2
                  split at h2
                  · cases h2
                    cases q
                    exact ((e.mono E1.toExtW).set i ru).set j rw'
                  · cases h2
                · cases q
              · cases h1
            · cases q
      · exact p1.elim
end
end G
end
section
set_option Elab.async false
set_option linter.all false
set_option maxRecDepth 100000
/-! G8: live objects. -/
namespace G
open PySem PySem.Spec PyProof.Rows L2
variable [Tabl]

theorem get_snoc {α : Type} {l : List α} {x y : α} {n : Nat} (h : (l ++ [x])[n]? = some y) : l[n]? = some y ∨ (n = l.length ∧ y = x) := by
  by_cases hn : n < l.length
  · rw [List.getElem?_append_left hn] at h
    exact .inl h
  · rw [List.getElem?_append_right (Nat.le_of_not_lt hn)] at h
    cases q : n - l.length with
    | zero =>
      rw [q] at h
      simp at h
      exact .inr ⟨by omega, h.symm⟩
    | succ k =>
      rw [q] at h
      simp at h
theorem get_snoc_old {α : Type} {l : List α} {x y : α} {n : Nat} (h : l[n]? = some y) : (l ++ [x])[n]? = some y := by
  obtain ⟨hn, _⟩ := List.getElem?_eq_some_iff.mp h
  rw [List.getElem?_append_left hn]; exact h
section
variable {K : PySem.W.Frag} {S : GS}
/-- what a live object's content says is kept -/
theorem RepO.mono {S' : GS} (E : ExtW S S') {a : Addr} {o : LO} (ha : S'.H a = S.H a) (h : RepO K S a o) : RepO K S' a o := by
  cases o with
  | lst xs => obtain ⟨vs, e, r⟩ := h; exact ⟨vs, ha.trans e, r.mono E xs vs⟩
  | dT xs => obtain ⟨vs, e, r⟩ := h; exact ⟨vs, ha.trans e, r.mono E xs vs⟩
  | dK xs => obtain ⟨vs, e, r⟩ := h; exact ⟨vs, ha.trans e, r.mono E xs vs⟩
  | dead => trivial
/-- a new live object at p -/
def GS.plus (S : GS) (p : Addr) (o : LO) (u : HO) : GS := ⟨S.ρ ++ [p], S.h ++ [o], upd S.H p u, S.rv⟩
theorem Rel.plus {p : Addr} {o : LO} {u : HO} (R : Rel K S) (hp : S.H p = none) (ho : ExtW S (S.plus p o u) → RepO K (S.plus p o u) p o) (hu : ∀ ps, u ≠ .tbl ps := by intro _ z; cases z) : Ext S (S.plus p o u) ∧ Rel K (S.plus p o u) := by
  have ne : ∀ a w, S.H a = some w → a ≠ p := fun a w e z => by subst z; rw [hp] at e; cases e
  have pn : p ∉ S.ρ := fun h => by
    obtain ⟨w, e, _⟩ := R.trk p h
    exact ne p w e rfl
  have W : ExtW S (S.plus p o u) := ⟨fun n a h => get_snoc_old h, fun a w e l _ => ⟨by show upd S.H p u a = _; rw [upd_ne (ne a w e)]; exact e, fun z => ?_⟩⟩
  · refine ⟨⟨W, rfl, fun a ha => ?_⟩, R.tabs.ext fun b w e => by show upd S.H p u b = _; rw [upd_ne (ne b w e)]; exact e, ?_, ?_, ?_, ?_, ?_⟩
    · obtain ⟨xs, e⟩ := (R.rsv a ha).2
      exact upd_ne (ne a _ e)
    · show (S.ρ ++ [p]).length = (S.h ++ [o]).length
      rw [List.length_append, List.length_append, R.len]
      rfl
    · show (S.ρ ++ [p]).Nodup
      rw [List.nodup_append]
      refine ⟨R.nd, by simp, fun a ha b hb => ?_⟩
      have : b = p := by simpa using hb
      subst this
      intro z
      subst z
      exact pn ha
    · intro a ha
      rcases List.mem_append.mp (show a ∈ S.ρ ++ [p] from ha) with h | h
      · obtain ⟨w, e, nt⟩ := R.trk a h
        exact ⟨w, by show upd S.H p u a = _; rw [upd_ne (ne a w e)]; exact e, nt⟩
      · have : a = p := by simpa using h
        subst this
        exact ⟨u, upd_same, hu⟩
    · intro a ha
      obtain ⟨h1, xs, e⟩ := R.rsv a ha
      refine ⟨fun z => ?_, xs, by show upd S.H p u a = _; rw [upd_ne (ne a _ e)]; exact e⟩
      rcases List.mem_append.mp (show a ∈ S.ρ ++ [p] from z) with h | h
      · exact h1 h
      · have : a = p := by simpa using h
        exact ne a _ e this
    · intro n a q h1 h2
      rcases get_snoc (show (S.ρ ++ [p])[n]? = some a from h1) with h | ⟨hn, h⟩
      · have hlt := (List.getElem?_eq_some_iff.mp h).1
        rcases get_snoc (show (S.h ++ [o])[n]? = some q from h2) with g | ⟨hn, _⟩
        · obtain ⟨w, e, _⟩ := R.trk a (List.mem_of_getElem? h)
          exact RepO.mono W (show upd S.H p u a = _ from upd_ne (ne a w e)) (R.obj n a q h g)
        · rw [R.len] at hlt; omega
      · rcases get_snoc (show (S.h ++ [o])[n]? = some q from h2) with g | ⟨_, g⟩
        · have := (List.getElem?_eq_some_iff.mp g).1
          rw [R.len] at hn; omega
        · subst h g
          exact ho W
  · -- nothing else becomes live
    rcases z with ⟨n, q, h1, h2, h3⟩ | z
    · rcases get_snoc (show (S.ρ ++ [p])[n]? = some a from h1) with h | ⟨hn, h⟩
      · have hlt := (List.getElem?_eq_some_iff.mp h).1
        rcases get_snoc (show (S.h ++ [o])[n]? = some q from h2) with g | ⟨hn, _⟩
        · exact l (.inl ⟨n, q, h, g, h3⟩)
        · rw [R.len] at hlt; omega
      · exact ne a w e h
    · exact l (.inr z)
theorem rep_plus {p : Addr} {o : LO} {u : HO} (R : Rel K S) : RepV K (S.plus p o u) (.ref S.h.length) (.ref p) := by
  rw [RepV]
  refine ⟨p, rfl, ?_⟩
  show (S.ρ ++ [p])[S.h.length]? = some p
  rw [← R.len]
  simp
/-- the n-th live object is written -/
def GS.wr (S : GS) (n : Nat) (a : Addr) (o : LO) (u : HO) : GS := ⟨S.ρ, S.h.set n o, upd S.H a u, S.rv⟩
theorem nd_get {l : List Addr} (h : l.Nodup) {i j : Nat} {x : Addr} (a : l[i]? = some x) (b : l[j]? = some x) : i = j := by
  obtain ⟨h1, e1⟩ := List.getElem?_eq_some_iff.mp a
  obtain ⟨h2, e2⟩ := List.getElem?_eq_some_iff.mp b
  exact (List.getElem_inj h).mp (e1.trans e2.symm)
theorem Rel.wr {n : Nat} {a : Addr} {o0 o : LO} {u : HO} (R : Rel K S) (hρ : S.ρ[n]? = some a) (hh : S.h[n]? = some o0) (h0 : o0 ≠ .dead) (ho : ExtW S (S.wr n a o u) → RepO K (S.wr n a o u) a o) (hu : ∀ ps, u ≠ .tbl ps := by intro _ z; cases z) : Ext S (S.wr n a o u) ∧ Rel K (S.wr n a o u) := by
  have hl : Live S a := .inl ⟨n, o0, hρ, hh, h0⟩
  have hn : n < S.h.length := (List.getElem?_eq_some_iff.mp hh).1
  have W : ExtW S (S.wr n a o u) := ⟨fun m b h => h, fun b w e l _ => by
    have nb : b ≠ a := fun z => by subst z; exact l hl
    refine ⟨by show upd S.H a u b = _; rw [upd_ne nb]; exact e, fun z => ?_⟩
    rcases z with ⟨m, q, h1, h2, h3⟩ | z
    · by_cases hm : n = m
      · subst hm
        have h1 : S.ρ[n]? = some b := h1
        rw [hρ] at h1
        exact nb (Option.some.inj h1).symm
      · have h2 : (S.h.set n o)[m]? = some q := h2
        rw [List.getElem?_set_ne hm] at h2
        exact l (.inl ⟨m, q, h1, h2, h3⟩)
    · exact l (.inr z)⟩
  have tb : LamX.Tabs (Tabl.tabs K) (upd S.H a u) := by
    have z := R.obj n a o0 hρ hh
    cases o0 with
    | lst _ => obtain ⟨_, e, _⟩ := z; exact tabs_wr R.tabs e (fun _ z => by cases z) (fun _ z => by cases z)
    | dT _ => obtain ⟨_, e, _⟩ := z; exact tabs_wr R.tabs e (fun _ z => by cases z) (fun _ z => by cases z)
    | dK _ => obtain ⟨_, e, _⟩ := z; exact tabs_wr R.tabs e (fun _ z => by cases z) (fun _ z => by cases z)
    | dead => exact absurd rfl h0
  refine ⟨⟨W, rfl, fun b hb => ?_⟩, tb, ?_, R.nd, fun b hb => ?_, fun b hb => ?_, fun m b q h1 h2 => ?_⟩
  · have nb : b ≠ a := fun z => by subst z; exact (R.rsv b hb).1 (List.mem_of_getElem? hρ)
    exact upd_ne nb
  · show S.ρ.length = (S.h.set n o).length
    rw [List.length_set]; exact R.len
  · by_cases nb : b = a
    · subst nb; exact ⟨u, upd_same, hu⟩
    · obtain ⟨w, e, nt⟩ := R.trk b hb
      exact ⟨w, by show upd S.H a u b = _; rw [upd_ne nb]; exact e, nt⟩
  · obtain ⟨h1, xs, e⟩ := R.rsv b hb
    have nb : b ≠ a := fun z => by subst z; exact h1 (List.mem_of_getElem? hρ)
    exact ⟨h1, xs, by show upd S.H a u b = _; rw [upd_ne nb]; exact e⟩
  · have h1 : S.ρ[m]? = some b := h1
    have h2 : (S.h.set n o)[m]? = some q := h2
    by_cases hm : n = m
    · subst hm
      rw [hρ] at h1
      cases h1
      rw [List.getElem?_set_self hn] at h2
      cases h2
      exact ho W
    · rw [List.getElem?_set_ne hm] at h2
      have nb : b ≠ a := fun z => by subst z; exact hm (nd_get R.nd hρ h1)
      exact RepO.mono W (show upd S.H a u b = _ from upd_ne nb) (R.obj m b q h1 h2)
/-- the n-th live object is let go -/
def GS.rel (S : GS) (n : Nat) : GS := ⟨S.ρ, S.h.set n .dead, S.H, S.rv⟩
theorem Rel.rel {n : Nat} {a : Addr} {o0 : LO} (R : Rel K S) (hρ : S.ρ[n]? = some a) (hh : S.h[n]? = some o0) : Ext S (S.rel n) ∧ Rel K (S.rel n) ∧ ¬ Live (S.rel n) a := by
  have hn : n < S.h.length := (List.getElem?_eq_some_iff.mp hh).1
  have W : ExtW S (S.rel n) := ⟨fun m b h => h, fun b w e l _ => ⟨e, fun z => by
    rcases z with ⟨m, q, h1, h2, h3⟩ | z
    · have h2 : (S.h.set n .dead)[m]? = some q := h2
      by_cases hm : n = m
      · subst hm
        rw [List.getElem?_set_self hn] at h2
        cases h2
        exact h3 rfl
      · rw [List.getElem?_set_ne hm] at h2
        exact l (.inl ⟨m, q, h1, h2, h3⟩)
    · exact l (.inr z)⟩⟩
  refine ⟨⟨W, rfl, fun b hb => rfl⟩, ⟨R.tabs, ?_, R.nd, R.trk, R.rsv, fun m b q h1 h2 => ?_⟩, fun z => ?_⟩
  · show S.ρ.length = (S.h.set n .dead).length
    rw [List.length_set]; exact R.len
  · have h1 : S.ρ[m]? = some b := h1
    have h2 : (S.h.set n .dead)[m]? = some q := h2
    by_cases hm : n = m
    · subst hm
      rw [List.getElem?_set_self hn] at h2
      cases h2
      trivial
    · rw [List.getElem?_set_ne hm] at h2
      exact RepO.mono W rfl (R.obj m b q h1 h2)
  · rcases z with ⟨m, q, h1, h2, h3⟩ | z
    · have h1 : S.ρ[m]? = some a := h1
      have h2 : (S.h.set n .dead)[m]? = some q := h2
      have hm := nd_get R.nd hρ h1
      subst hm
      rw [List.getElem?_set_self hn] at h2
      cases h2
      exact h3 rfl
    · exact (R.rsv a z).1 (List.mem_of_getElem? hρ)

/-! ### freezing -/
theorem freeze_str {x : PV} {h : LH} {s : Str} {h' : LH} (e : freeze x h = some (.str s, h')) : x = .str s := by
  cases x with
  | ref n =>
    simp only [freeze] at e
    split at e <;> cases e
  | tup xs =>
    simp only [freeze] at e
    split at e <;> cases e
  | _ => simp only [freeze] at e; cases e <;> rfl
theorem freezeL_head {xs ys : List PV} {h h' : LH} (e : freezeL xs h = some (ys, h')) (hs : strHead xs = false) : strHead ys = false := by
  cases xs with
  | nil => simp only [freezeL] at e; cases e; rfl
  | cons x xs =>
    simp only [freezeL] at e
    split at e
    · cases e
    · rename_i y h1 e1
      split at e
      · cases e
      · rename_i zs h2 e2
        cases e
        cases y with
        | str s =>
          rw [freeze_str e1] at hs
          cases hs
        | _ => rfl
mutual
theorem freeze_ok : ∀ (x : PV) (S : GS) (v : V) (y : PV) (h' : LH), Rel K S → RepV K S x v → freeze x S.h = some (y, h') → ∃ S', S'.h = h' ∧ S'.H = S.H ∧ Ext S S' ∧ Rel K S' ∧ RepV K S' y v
  | .ref n, S, v, y, h', R, r, e => by
    simp only [freeze] at e
    rw [RepV] at r
    obtain ⟨a, ev, hρ⟩ := r
    split at e
    · rename_i xs hh
      cases e
      obtain ⟨E, R', nl⟩ := R.rel hρ hh
      obtain ⟨vs, t, q⟩ := R.obj n a _ hρ hh
      exact ⟨S.rel n, rfl, rfl, E, R', by rw [RepV]; exact ⟨a, vs, ev, nl, t, q.mono E.toExtW xs vs⟩⟩
    · rename_i xs hh
      cases e
      obtain ⟨E, R', nl⟩ := R.rel hρ hh
      obtain ⟨vs, t, q⟩ := R.obj n a _ hρ hh
      exact ⟨S.rel n, rfl, rfl, E, R', by rw [RepV]; exact ⟨a, vs, ev, nl, t, q.mono E.toExtW xs vs⟩⟩
    · rename_i xs hh
      cases e
      obtain ⟨E, R', nl⟩ := R.rel hρ hh
      obtain ⟨vs, t, q⟩ := R.obj n a _ hρ hh
      exact ⟨S.rel n, rfl, rfl, E, R', by rw [RepV]; exact ⟨a, vs, ev, nl, t, q.mono E.toExtW xs vs⟩⟩
    · cases e
  | .tup xs, S, v, y, h', R, r, e => by
    simp only [freeze] at e
    split at e
    · rename_i ys h1 e1
      cases e
      obtain ⟨a, vs, ev, t, q⟩ := rep_tup r
      obtain ⟨S', e2, eH, E, R', q'⟩ := freezeL_ok xs S vs ys _ R q e1
      refine ⟨S', e2, eH, E, R', ?_⟩
      rw [RepV]
      refine ⟨a, vs, ev, ?_, q'⟩
      rcases t.mono E.toExtW with t | ⟨t1, t2⟩
      · exact .inl t
      · exact .inr ⟨freezeL_head e1 t1, t2⟩
    · cases e
  | .non, S, v, y, h', R, r, e => by simp only [freeze] at e; cases e; exact ⟨S, rfl, rfl, Ext.refl S, R, r⟩
  | .bl _, S, v, y, h', R, r, e => by simp only [freeze] at e; cases e; exact ⟨S, rfl, rfl, Ext.refl S, R, r⟩
  | .int _, S, v, y, h', R, r, e => by simp only [freeze] at e; cases e; exact ⟨S, rfl, rfl, Ext.refl S, R, r⟩
  | .str _, S, v, y, h', R, r, e => by simp only [freeze] at e; cases e; exact ⟨S, rfl, rfl, Ext.refl S, R, r⟩
  | .lst _, S, v, y, h', R, r, e => by simp only [freeze] at e; cases e; exact ⟨S, rfl, rfl, Ext.refl S, R, r⟩
  | .dT _, S, v, y, h', R, r, e => by simp only [freeze] at e; cases e; exact ⟨S, rfl, rfl, Ext.refl S, R, r⟩
  | .dK _, S, v, y, h', R, r, e => by simp only [freeze] at e; cases e; exact ⟨S, rfl, rfl, Ext.refl S, R, r⟩
  | .ext _ _, S, v, y, h', R, r, e => by simp only [freeze] at e; cases e; exact ⟨S, rfl, rfl, Ext.refl S, R, r⟩
  | .scr _, S, v, y, h', R, r, e => by simp only [freeze] at e; cases e; exact ⟨S, rfl, rfl, Ext.refl S, R, r⟩
theorem freezeL_ok : ∀ (x : List PV) (S : GS) (v : List V) (y : List PV) (h' : LH), Rel K S → RepL K S x v → freezeL x S.h = some (y, h') → ∃ S', S'.h = h' ∧ S'.H = S.H ∧ Ext S S' ∧ Rel K S' ∧ RepL K S' y v
  | [], S, v, y, h', R, r, e => by
    simp only [freezeL] at e
    cases e
    exact ⟨S, rfl, rfl, Ext.refl S, R, r⟩
  | x :: xs, S, v, y, h', R, r, e => by
    simp only [freezeL] at e
    rw [RepL] at r
    obtain ⟨v0, vr, ev, r1, r2⟩ := r
    subst ev
    split at e
    · cases e
    · rename_i y1 h1 e1
      split at e
      · cases e
      · rename_i ys h2 e2
        cases e
        obtain ⟨S1, a1, a2, E1, R1, q1⟩ := freeze_ok x S v0 y1 h1 R r1 e1
        subst a1
        obtain ⟨S2, b1, b2, E2, R2, q2⟩ := freezeL_ok xs S1 vr ys _ R1 (r2.mono E1.toExtW xs vr) e2
        exact ⟨S2, b1, b2.trans a2, E1.trans E2, R2, repL_cons (q1.mono E2.toExtW y1 v0) q2⟩
end
end

section
variable {X : Cx} {ca : CA} {F : FEnv} {a b e : Expr} {es : List Expr} {c1 c2 : CE} {cl : CL} {s1 s2 : CS} {p pos : Pos} {x : Str} {st : Stmt} {rest body : List Stmt}
theorem ss_retF (he : SE X ca F c1 e) : SS X ca F (sRetF c1) (.Return (some e) pos) := fun W tk => PS.imp (ps_ret (he W tk)) fun D σ H ⟨S, env, eH, R, e, p⟩ => by
  subst eH
  refine ⟨S, env, rfl, R, e, PostS.bindE p fun x S1 z E1 R1 r1 p1 => ?_⟩
  cases q : freeze x S1.h with
  | none => rw [q] at p1; exact p1.elim
  | some yh =>
    obtain ⟨y, h'⟩ := yh
    rw [q] at p1
    obtain ⟨S2, e2, eH, E2, R2, r2⟩ := freeze_ok x S1 z y h' R1 r1 q
    rw [← eH]
    exact p1 S2 z e2 E2 R2 r2
theorem se_newL (h : SA X ca F cl es) : SE X ca F (cNewL cl) (.List es pos) := fun W tk =>
  PE.imp (pe_lst (h W tk)) fun σ H Q ⟨S, env, eH, R, e, p⟩ => by
    subst eH
    refine ⟨S, env, rfl, R, e, PostA.bindE p fun xs S1 zs E1 R1 r1 p1 => ?_⟩
    by_cases hz : sizeOk xs.length = true
    · rw [if_pos hz] at p1
      refine ⟨by rw [r1.length]; exact sizeOk_le hz, fun q hq => ?_⟩
      obtain ⟨E2, R2⟩ := R1.plus (o := .lst xs) (u := .lst zs) hq fun W => ⟨zs, upd_same, r1.mono W xs zs⟩
      exact p1 (S1.plus q (.lst xs) (.lst zs)) _ rfl E2 R2 (rep_plus R1)
    · rw [if_neg hz] at p1
      exact p1.elim
theorem se_newDT : SE X ca F cNewDT (.Dict [] [] pos) := fun W tk =>
  PE.imp pe_dnewT fun σ H Q ⟨S, env, eH, R, e, p⟩ => by
    subst eH
    intro q hq
    obtain ⟨E2, R2⟩ := R.plus (o := .dT []) (u := .dT []) hq fun W => ⟨[], upd_same, by rw [RepP]⟩
    exact p (S.plus q (.dT []) (.dT [])) _ rfl E2 R2 (rep_plus R)
theorem se_newDK : SE X ca F cNewDK (.Dict [] [] pos) := fun W tk =>
  PE.imp pe_dnewK fun σ H Q ⟨S, env, eH, R, e, p⟩ => by
    subst eH
    intro q hq
    obtain ⟨E2, R2⟩ := R.plus (o := .dK []) (u := .dK []) hq fun W => ⟨[], upd_same, by rw [RepQ]⟩
    exact p (S.plus q (.dK []) (.dK [])) _ rfl E2 R2 (rep_plus R)
/-- {} that is never changed -/
theorem se_emptyDK : SE X ca F (cC (.dK [])) (.Dict [] [] pos) := fun W tk =>
  PE.imp pe_dnewK fun σ H Q ⟨S, env, eH, R, e, p⟩ => by
    subst eH
    intro q hq
    obtain ⟨E2, R2⟩ := R.alloc (o := .dK []) hq
    exact p _ _ (by rfl) E2 R2 (by rw [RepV]; exact ⟨q, [], rfl, notLive_alloc R hq, upd_same, by rw [RepQ]⟩)
/-- a + b, a * b: the new list live -/
def NewOp (X : Cx) (f : Value → Value → Sem Value) (op : LH → PV → PV → Option PV) : Prop := OpR X f (fun xv yv H Q => ∃ (S : GS) (x y : PV) (xs : List PV), S.H = H ∧ Rel X.K S ∧ RepV X.K S x xv ∧ RepV X.K S y yv ∧ op S.h x y = some (.lst xs) ∧
  ∀ q zs, S.H q = none → RepL X.K S xs zs → Q (.ref q) (upd S.H q (.lst zs)))
theorem new_add : NewOp X (binaryOp .Add) opAdd := by
  intro pins s σ H xv yv v u Q I rx ry ⟨S, x, y, xs, eH, R, h1, h2, e, k⟩
  subst eH
  unfold opAdd at e
  split at e
  · cases e
  · split at e <;> cases e
  · split at e <;> cases e
  · rename_i us ws ex ey
    split at e
    · rename_i hz
      cases e
      obtain ⟨a, vs, e1, t1, q1⟩ := rep_viewL R h1 ex
      obtain ⟨b, ws, e2, t2, q2⟩ := rep_viewL R h2 ey
      exact op_cat pins s σ S.H xv yv v u Q I rx ry ⟨a, b, vs, ws, e1, e2, t1, t2, by rw [q1.length, q2.length]; exact sizeOk_le hz, fun q hq => k q _ hq (q1.append q2)⟩
    · cases e
  · cases e
theorem new_mul : NewOp X (binaryOp .Mult) opMul := by
  intro pins s σ H xv yv v u Q I rx ry ⟨S, x, y, xs, eH, R, h1, h2, e, k⟩
  subst eH
  unfold opMul at e
  split at e
  · split at e <;> cases e
  · rename_i xs k0 ex ey
    have ey := view_self ey (.inr rfl)
    subst ey
    split at e
    · rename_i hz
      cases e
      rw [Bool.and_eq_true, Bool.and_eq_true] at hz
      obtain ⟨⟨hz, k1⟩, k2⟩ := hz
      have k1 := of_decide_eq_true k1
      have k2 := of_decide_eq_true k2
      obtain ⟨a, vs, e1, t1, q1⟩ := rep_viewL R h1 ex
      exact op_rep pins s σ S.H xv yv v u Q I rx ry ⟨a, k0, vs, e1, rep_int h2, t1, by omega, by omega, by rw [q1.length]; exact sizeOk_le hz, fun q hq => k q _ hq (q1.flatten _)⟩
    · cases e
  · cases e
theorem se_thaw2 {op : Operator} {f : LH → PV → PV → Option PV} (ho : NewOp X (binaryOp op) f) (ha : SE X ca F c1 a) (hb : SE X ca F c2 b) : SE X ca F (cThaw2 f c1 c2) (.BinOp a op b pos) := fun W tk =>
  PE.imp (pe_op ho (ha W tk) (hb W tk)) fun σ H Q ⟨S, env, eH, R, e, p⟩ => by
    subst eH
    refine ⟨S, env, rfl, R, e, PostE.bindE p fun x S1 z E1 R1 r1 p1 => ?_⟩
    refine ⟨S1, env, rfl, R1, e.mono E1.toExtW, PostE.bindE p1 fun y S2 z2 E2 R2 r2 p2 => ?_⟩
    cases q : f S2.h x y with
    | none => simp only [q] at p2; exact p2.elim
    | some r =>
      simp only [q] at p2
      cases r with
      | lst xs =>
        refine ⟨S2, x, y, xs, rfl, R2, r1.mono E2.toExtW x z, r2, q, fun q zs hq rl => ?_⟩
        obtain ⟨E3, R3⟩ := R2.plus (o := .lst xs) (u := .lst zs) hq fun W => ⟨zs, upd_same, rl.mono W xs zs⟩
        exact p2 (S2.plus q (.lst xs) (.lst zs)) _ rfl E3 R3 (rep_plus R2)
      | _ => exact p2.elim

/-! ### append, pop, store -/
theorem live_of {K : PySem.W.Frag} {S : GS} {x : PV} {v : V} (R : Rel K S) (r : RepV K S x v) (h : isLiveL S.h x = true) : ∃ n a xs vs, x = .ref n ∧ v = .ref a ∧ S.ρ[n]? = some a ∧ S.h[n]? = some (.lst xs) ∧ S.H a = some (.lst vs) ∧ RepL K S xs vs := by
  cases x with
  | ref n =>
    simp only [isLiveL] at h
    split at h
    · rename_i xs hh
      rw [RepV] at r
      obtain ⟨a, ev, hρ⟩ := r
      obtain ⟨vs, t, q⟩ := R.obj n a _ hρ hh
      exact ⟨n, a, xs, vs, rfl, ev, hρ, hh, t, q⟩
    · cases h
  | _ => cases h
theorem ss_append {apos cpos : Pos} (ho : SE X ca F c1 a) (he : SE X ca F c2 e)
    (hbase : attributeBase a "append" X.env (eval a X.env) = eval a X.env)
    (hfew : ((backTo cpos (starEach [e] X.env)).all (fun x => !x.1) && (backToKw cpos (keywordEach [] X.env)).all (fun x => x.1.isSome)
      && decide ([e].length + ([] : List Keyword).length + (if ([] : List Keyword).isEmpty then 0 else 1) < 30)) = true)
    (hline : (apos.endLine == cpos.line) = true) (hs : starEach [e] X.env = (false, eval e X.env) :: starEach [] X.env) (hplain : (backTo cpos (starEach [] X.env)).any (·.1) = false)
    (hsw : swapsWith (.Call (.Attribute a "append" apos) [e] [] cpos) none pos.line X.env = pure false) :
    SS X ca F (sAppend c1 c2) (.Expr (.Call (.Attribute a "append" apos) [e] [] cpos) pos) := fun W tk =>
  PS.imp (ps_expr (pe_bm PySem.F.plainAttrs_list PySem.F.slot_list_append PySem.F.type_list_append mt_append (ho W tk) (pa_cons (he W tk) pa_nil hs) hbase hfew hline hs hplain) hsw) fun D σ H ⟨S, env, eH, R, e, p⟩ => by
    subst eH
    refine ⟨S, env, rfl, R, e, PostS.bindE p fun x S1 z E1 R1 r1 p1 => ?_⟩
    split at p1
    · rename_i hl
      obtain ⟨n, a, xs, vs, rfl, ev, hρ, hh, t, q⟩ := live_of R1 r1 hl
      refine ⟨by rw [ev]; exact .inl ⟨rfl, vs, SqL.of t⟩, S1, env, rfl, R1, e.mono E1.toExtW, PostS.bindE p1 fun y S2 z2 E2 R2 r2 p2 => ?_⟩
      dsimp only at p2
      split at p2
      · rename_i ys hh2
        split at p2
        · rename_i hz
          have hρ2 := E2.pre n a hρ
          obtain ⟨ws, t2, q2⟩ := R2.obj n a _ hρ2 hh2
          refine ⟨a, ws, z2, ev, rfl, t2, ?_, ?_⟩
          · rw [q2.length, sizeLine_eq]
            exact of_decide_eq_true hz
          · obtain ⟨E3, R3⟩ := R2.wr (o := .lst (ys ++ [y])) (u := .lst (ws ++ [z2])) hρ2 hh2 (by intro z; cases z) fun W => ⟨ws ++ [z2], upd_same, (q2.append (repL_cons r2 repL_nil)).mono W _ _⟩
            exact p2 (S2.wr n a (.lst (ys ++ [y])) (.lst (ws ++ [z2]))) σ rfl E3 R3 (((e.mono E1.toExtW).mono E2.toExtW).mono E3.toExtW)
        · exact p2.elim
      · exact p2.elim
    · exact p1.elim

theorem seqIndex_zero {n : Nat} (h : 0 < n) : seqIndex? 0 n = some 0 := by
  have := seqIndex_of (k := 0) (n := n) (by omega) (by omega)
  simpa using this
theorem se_pop0 {apos cpos : Pos} {j q0} (ho : SE X ca F c1 a)
    (hbase : attributeBase a "pop" X.env (eval a X.env) = eval a X.env)
    (hfew : ((backTo cpos (starEach [.Constant (.int 0) j q0] X.env)).all (fun x => !x.1) && (backToKw cpos (keywordEach [] X.env)).all (fun x => x.1.isSome)
      && decide ([Expr.Constant (.int 0) j q0].length + ([] : List Keyword).length + (if ([] : List Keyword).isEmpty then 0 else 1) < 30)) = true)
    (hline : (apos.endLine == cpos.line) = true) (hplain : (backTo cpos (starEach [] X.env)).any (·.1) = false) :
    SE X ca F (cPop0 c1) (.Call (.Attribute a "pop" apos) [.Constant (.int 0) j q0] [] cpos) := fun W tk =>
  PE.imp (pe_bm PySem.F.plainAttrs_list PySem.F.slot_list_pop PySem.F.type_list_pop mt_popAt (ho W tk) (pa_cons pe_int pa_nil rfl) hbase hfew hline rfl hplain) fun σ H Q ⟨S, env, eH, R, e, p⟩ => by
    subst eH
    refine ⟨S, env, rfl, R, e, PostE.bindE p fun x S1 z E1 R1 r1 p1 => ?_⟩
    split at p1
    · rename_i n
      split at p1
      · rename_i y ys hh
        rw [RepV] at r1
        obtain ⟨a, ev, hρ⟩ := r1
        obtain ⟨vs, t, q⟩ := R1.obj n a _ hρ hh
        rw [RepL] at q
        obtain ⟨v0, vr, rfl, q1, q2⟩ := q
        refine ⟨by rw [ev]; exact .inl ⟨rfl, _, SqL.of t⟩, a, v0 :: vr, 0, 0, v0, ev, rfl, t, by omega, by omega, seqIndex_zero (by simp), rfl, ?_⟩
        obtain ⟨E3, R3⟩ := R1.wr (o := .lst ys) (u := .lst vr) hρ hh (by intro z; cases z) fun W => ⟨vr, upd_same, q2.mono W _ _⟩
        exact p1 (S1.wr n a (.lst ys) (.lst vr)) v0 rfl E3 R3 (q1.mono E3.toExtW _ _)
      · exact p1.elim
    · exact p1.elim
theorem repL_dropLast {K : PySem.W.Frag} {S : GS} : ∀ {xs : List PV} {vs : List V}, RepL K S xs vs → RepL K S xs.dropLast vs.dropLast
  | [], _, h => by rw [RepL] at h; subst h; exact repL_nil
  | [x], _, h => by
    obtain ⟨v, rfl, _⟩ := repL_one h
    exact repL_nil
  | x :: y :: ys, _, h => by
    rw [RepL] at h
    obtain ⟨v, r, rfl, h1, h2⟩ := h
    have h3 := repL_dropLast h2
    rw [RepL] at h2
    obtain ⟨w, r2, rfl, _, _⟩ := h2
    exact repL_cons h1 h3
theorem se_pop {apos cpos : Pos} (ho : SE X ca F c1 a) (pe : ∀ {t : TE}, PE X a t → PE X (.Call (.Attribute a "pop" apos) [] [] cpos) (tBM0 X.K "list" rPop t)) :
    SE X ca F (cPop c1) (.Call (.Attribute a "pop" apos) [] [] cpos) := fun W tk =>
  PE.imp (pe (ho W tk)) fun σ H Q ⟨S, env, eH, R, e, p⟩ => by
    subst eH
    refine ⟨S, env, rfl, R, e, PostE.bindE p fun x S1 z E1 R1 r1 p1 => ?_⟩
    split at p1
    · rename_i n
      split at p1
      · rename_i xs hh
        split at p1
        · rename_i y hy
          rw [RepV] at r1
          obtain ⟨a, ev, hρ⟩ := r1
          obtain ⟨vs, t, q⟩ := R1.obj n a _ hρ hh
          obtain ⟨v0, hv, q1⟩ := q.get hy
          refine ⟨by rw [ev]; exact .inl ⟨rfl, _, SqL.of t⟩, a, vs, v0, ev, rfl, t, by rw [q.length]; exact hv, ?_⟩
          obtain ⟨E3, R3⟩ := R1.wr (o := .lst xs.dropLast) (u := .lst vs.dropLast) hρ hh (by intro z; cases z) fun W => ⟨_, upd_same, (repL_dropLast q).mono W _ _⟩
          exact p1 (S1.wr n a (.lst xs.dropLast) (.lst vs.dropLast)) v0 rfl E3 R3 (q1.mono E3.toExtW _ _)
        · exact p1.elim
      · exact p1.elim
    · exact p1.elim
/-! o[i] = e -/
theorem set_dict (hu : X.A.units + 1 < cLine) : PSet X (fun o i v H Q => ∃ a H', o = .ref a ∧ DPut H a i v H' ∧ Q H') := by
  intro pins s σ H o i v ov iv u Q I ro ri rv ⟨a, H', eo, g, q⟩
  subst eo
  cases ro
  exact d_setItem hu I g ri rv fun s' I' => ⟨H', I', q⟩
theorem PSet.or {t t' : TSet} (h : PSet X t) (h' : PSet X t') : PSet X (fun o i v H Q => t o i v H Q ∨ t' o i v H Q) := by
  intro pins s σ H o i v ov iv u Q I ro ri rv q
  rcases q with q | q
  · exact h pins s σ H o i v ov iv u Q I ro ri rv q
  · exact h' pins s σ H o i v ov iv u Q I ro ri rv q
theorem repP_put {K : PySem.W.Frag} {S : GS} (k : List Key) {y : PV} {v : V} (hy : RepV K S y v) {xs : List (List Key × PV)} {vs : List (List Key × V)} (h : RepP K S xs vs) : RepP K S (putP xs k y) (putK vs k v) := by
  have len : ∀ {xs : List (List Key × PV)} {vs : List (List Key × V)}, RepP K S xs vs → (xs.any fun kv => decide (kv.1 = k)) = (vs.any fun kv => decide (kv.1 = k)) := by
    intro xs
    induction xs with
    | nil => intro vs h; rw [RepP] at h; subst h; rfl
    | cons x xs ih =>
      intro vs h
      obtain ⟨k', x⟩ := x
      rw [RepP] at h
      obtain ⟨w, r, rfl, _, h2⟩ := h
      rw [List.any_cons, List.any_cons, ih h2]
  have mp : ∀ {xs : List (List Key × PV)} {vs : List (List Key × V)}, RepP K S xs vs → RepP K S (xs.map fun kv => if kv.1 = k then (kv.1, y) else kv) (vs.map fun kv => if kv.1 = k then (kv.1, v) else kv) := by
    intro xs
    induction xs with
    | nil => intro vs h; rw [RepP] at h; subst h; rw [List.map_nil, List.map_nil, RepP]
    | cons x xs ih =>
      intro vs h
      obtain ⟨k', x⟩ := x
      rw [RepP] at h
      obtain ⟨w, r, rfl, h1, h2⟩ := h
      rw [List.map_cons, List.map_cons]
      by_cases q : k' = k
      · rw [if_pos q, if_pos q, RepP]
        exact ⟨v, _, rfl, hy, ih h2⟩
      · rw [if_neg q, if_neg q, RepP]
        exact ⟨w, _, rfl, h1, ih h2⟩
  have ap : ∀ {xs : List (List Key × PV)} {vs : List (List Key × V)}, RepP K S xs vs → RepP K S (xs ++ [(k, y)]) (vs ++ [(k, v)]) := by
    intro xs
    induction xs with
    | nil => intro vs h; rw [RepP] at h; subst h; rw [List.nil_append, List.nil_append, RepP]; exact ⟨v, [], rfl, hy, by rw [RepP]⟩
    | cons x xs ih =>
      intro vs h
      obtain ⟨k', x⟩ := x
      rw [RepP] at h
      obtain ⟨w, r, rfl, h1, h2⟩ := h
      rw [List.cons_append, List.cons_append, RepP]
      exact ⟨w, _, rfl, h1, ih h2⟩
  unfold putP putK
  rw [len h]
  split
  · exact mp h
  · exact ap h
theorem repQ_put {K : PySem.W.Frag} {S : GS} (k : Key) {y : PV} {v : V} (hy : RepV K S y v) {xs : List (Key × PV)} {vs : List (Key × V)} (h : RepQ K S xs vs) : RepQ K S (putP xs k y) (putK vs k v) := by
  have len : ∀ {xs : List (Key × PV)} {vs : List (Key × V)}, RepQ K S xs vs → (xs.any fun kv => decide (kv.1 = k)) = (vs.any fun kv => decide (kv.1 = k)) := by
    intro xs
    induction xs with
    | nil => intro vs h; rw [RepQ] at h; subst h; rfl
    | cons x xs ih =>
      intro vs h
      obtain ⟨k', x⟩ := x
      rw [RepQ] at h
      obtain ⟨w, r, rfl, _, h2⟩ := h
      rw [List.any_cons, List.any_cons, ih h2]
  have mp : ∀ {xs : List (Key × PV)} {vs : List (Key × V)}, RepQ K S xs vs → RepQ K S (xs.map fun kv => if kv.1 = k then (kv.1, y) else kv) (vs.map fun kv => if kv.1 = k then (kv.1, v) else kv) := by
    intro xs
    induction xs with
    | nil => intro vs h; rw [RepQ] at h; subst h; rw [List.map_nil, List.map_nil, RepQ]
    | cons x xs ih =>
      intro vs h
      obtain ⟨k', x⟩ := x
      rw [RepQ] at h
      obtain ⟨w, r, rfl, h1, h2⟩ := h
      rw [List.map_cons, List.map_cons]
      by_cases q : k' = k
      · rw [if_pos q, if_pos q, RepQ]
        exact ⟨v, _, rfl, hy, ih h2⟩
      · rw [if_neg q, if_neg q, RepQ]
        exact ⟨w, _, rfl, h1, ih h2⟩
  have ap : ∀ {xs : List (Key × PV)} {vs : List (Key × V)}, RepQ K S xs vs → RepQ K S (xs ++ [(k, y)]) (vs ++ [(k, v)]) := by
    intro xs
    induction xs with
    | nil => intro vs h; rw [RepQ] at h; subst h; rw [List.nil_append, List.nil_append, RepQ]; exact ⟨v, [], rfl, hy, by rw [RepQ]⟩
    | cons x xs ih =>
      intro vs h
      obtain ⟨k', x⟩ := x
      rw [RepQ] at h
      obtain ⟨w, r, rfl, h1, h2⟩ := h
      rw [List.cons_append, List.cons_append, RepQ]
      exact ⟨w, _, rfl, h1, ih h2⟩
  unfold putP putK
  rw [len h]
  split
  · exact mp h
  · exact ap h
theorem repP_len {K : PySem.W.Frag} {S : GS} : ∀ {xs : List (List Key × PV)} {vs : List (List Key × V)}, RepP K S xs vs → vs.length = xs.length
  | [], _, h => by rw [RepP] at h; subst h; rfl
  | (k, x) :: xs, _, h => by
    rw [RepP] at h
    obtain ⟨v, r, rfl, _, h2⟩ := h
    rw [List.length_cons, List.length_cons, repP_len h2]
theorem repQ_len {K : PySem.W.Frag} {S : GS} : ∀ {xs : List (Key × PV)} {vs : List (Key × V)}, RepQ K S xs vs → vs.length = xs.length
  | [], _, h => by rw [RepQ] at h; subst h; rfl
  | (k, x) :: xs, _, h => by
    rw [RepQ] at h
    obtain ⟨v, r, rfl, _, h2⟩ := h
    rw [List.length_cons, List.length_cons, repQ_len h2]
theorem ss_store {i : Expr} {ce ci : CE} {pos' : Pos} (hu : X.A.units + 1 < cLine) (he : SE X ca F ce e) (ho : SE X ca F c1 a) (hi : SE X ca F ci i)
    (ha : ∀ v, assign (.Subscript a i pos') X.env v = (do
      let ov ← holding [v] (eval a X.env)
      let iv ← holding [v, ov] (eval i X.env)
      standAt pos'
      holding [v, ov, iv] (setItem ov iv v)
      release [v, ov, iv] []))
    (hs : swapsWithSole [.Subscript a i pos'] e pos.line X.env = pure false) (hw : swappedStores [.Subscript a i pos'] e X.env = pure none)
    (h1 : (assignEach [.Subscript a i pos'] X.env).map (·.2) = [assign (.Subscript a i pos') X.env]) :
    SS X ca F (sStore ce c1 ci) (.Assign [.Subscript a i pos'] e pos) := fun W tk =>
  PS.imp (ps_asg (he W tk) (pg_sub (ho W tk) (hi W tk) (PSet.or set_list (set_dict hu)) ha) hs hw h1) fun D σ H ⟨S, env, eH, R, e, p⟩ => by
    subst eH
    refine ⟨S, env, rfl, R, e, PostS.bindE p fun y S1 z E1 R1 r1 p1 => ?_⟩
    refine ⟨S1, env, rfl, R1, e.mono E1.toExtW, PostS.bindE p1 fun x S2 z2 E2 R2 r2 p2 => ?_⟩
    refine ⟨S2, env, rfl, R2, (e.mono E1.toExtW).mono E2.toExtW, PostS.bindE p2 fun k S3 z3 E3 R3 r3 p3 => ?_⟩
    have e3 := ((e.mono E1.toExtW).mono E2.toExtW).mono E3.toExtW
    have ry : RepV X.K S3 y z := (r1.mono E2.toExtW y z).mono E3.toExtW y z
    split at p3
    · rename_i n
      have r2 := r2.mono E3.toExtW _ _
      rw [RepV] at r2
      obtain ⟨b, ev, hρ⟩ := r2
      split at p3
      · rename_i xs hh
        obtain ⟨vs, t, q⟩ := R3.obj n b _ hρ hh
        split at p3
        · rename_i kk
          split at p3
          · rename_i j hj
            refine .inl ⟨b, vs, kk, j, ev, rep_int r3, t, by rw [q.length]; exact hj, ?_⟩
            obtain ⟨E4, R4⟩ := R3.wr (o := .lst (xs.set j y)) (u := .lst (vs.set j z)) hρ hh (by intro z; cases z) fun W => ⟨_, upd_same, (q.set j ry).mono W _ _⟩
            exact p3 (S3.wr n b (.lst (xs.set j y)) (.lst (vs.set j z))) σ rfl E4 R4 (e3.mono E4.toExtW)
          · exact p3.elim
        · exact p3.elim
      · rename_i xs hh
        obtain ⟨vs, t, q⟩ := R3.obj n b _ hρ hh
        split at p3
        · rename_i kk hk
          split at p3
          · rename_i hz
            obtain ⟨kb, ek, tk⟩ := keyT_rep r3 hk
            refine .inr ⟨b, _, ev, by rw [ek]; exact DPut.t t tk (by rw [repP_len q, sizeLine_eq]; exact of_decide_eq_true hz), ?_⟩
            obtain ⟨E4, R4⟩ := R3.wr (o := .dT (putP xs kk y)) (u := .dT (putK vs kk z)) hρ hh (by intro z; cases z) fun W => ⟨_, upd_same, (repP_put kk ry q).mono W _ _⟩
            exact p3 (S3.wr n b (.dT (putP xs kk y)) (.dT (putK vs kk z))) σ rfl E4 R4 (e3.mono E4.toExtW)
          · exact p3.elim
        · exact p3.elim
      · rename_i xs hh
        obtain ⟨vs, t, q⟩ := R3.obj n b _ hρ hh
        split at p3
        · rename_i kk hk
          split at p3
          · rename_i hz
            refine .inr ⟨b, _, ev, by rw [keyT1_rep r3 hk]; exact DPut.k t (by rw [repQ_len q, sizeLine_eq]; exact of_decide_eq_true hz), ?_⟩
            obtain ⟨E4, R4⟩ := R3.wr (o := .dK (putP xs kk y)) (u := .dK (putK vs kk z)) hρ hh (by intro z; cases z) fun W => ⟨_, upd_same, (repQ_put kk ry q).mono W _ _⟩
            exact p3 (S3.wr n b (.dK (putP xs kk y)) (.dK (putK vs kk z))) σ rfl E4 R4 (e3.mono E4.toExtW)
          · exact p3.elim
        · exact p3.elim
      · exact p3.elim
    · exact p3.elim
end
end G
end
section
set_option Elab.async false
set_option linter.all false
set_option maxRecDepth 100000
/-! GEn: enumerate over a tuple. -/
namespace G
open PySem PySem.Spec PyProof.Rows L2
variable [Tabl]

set_option maxHeartbeats 1000000 in
theorem meets_enum1B {v : Value} {o : Obj} {H : Heap → Prop} (B : Begins v o H) :
    Meets (Builtin.«enumerate.__new__» ⟨[.type "enumerate", v], []⟩) (fun _ R s => H s.heap ∧
      R (.ok (.ret (.ref (s.heap.push o).objs.size))) { s with heap := (s.heap.push o).push { cls := .type "enumerate", data := .fields #[.none, .bool false, .ref s.heap.objs.size, rawInt 0, .none, .none] } }) :=
  .of_wp fun prog w A R s h => by
    obtain ⟨hp, g, d, tk, os⟩ := s; obtain ⟨h1, h⟩ := h
    have hsub := sub_enumerate
    have q1 : ∀ {A' : Around} {E : Value → Shared → Prop} {Q : Value → Shared → Prop}, Q (.ref hp.objs.size) ⟨hp.push o, g, d, tk, os⟩ → wpAny (model prog w) A' (pyIter v) Q E ⟨hp, g, d, tk, os⟩ :=
      fun q => B.iter prog w _ _ ⟨hp, g, d, tk, os⟩ _ h1 q
    wp_walk using q1
    refine wpAny_stack_any fun st => wpAny_pure ?_
    split
    · rename_i c _ _ _ _ _
      cases (c == Value.type "enumerate")
      · wp_walk using q1
        exact ⟨_, rfl, h⟩
      · wp_walk using q1
        exact ⟨_, rfl, h⟩
    · wp_walk using q1
      exact ⟨_, rfl, h⟩
section
variable {prog : Program} {w : World} {A : Around} {E : Value → Shared → Prop} {s : Shared}
theorem enum1_begins {v : Value} {o : Obj} {H : Heap → Prop} {Q : Value → Shared → Prop} (B : Begins v o H) (h1 : H s.heap)
    (h : ∀ h', IsEnum h' (s.heap.objs.size + 1) s.heap.objs.size 0 .none → h'.get? s.heap.objs.size = some o → h'.objs.size = s.heap.objs.size + 2 →
      (∀ b o, s.heap.get? b = some o → h'.get? b = some o) → Q (.ref (s.heap.objs.size + 1)) { s with heap := h' }) :
    wpAny (model prog w) A (call (.type "enumerate") [v]) Q E s := by
  refine callType_new F.called_enumerate (by decide) (F.typeCall_enumerate_1 _) (F.newCall_enumerate_1 _) (fun obj => F.args_object_init_2 obj _) F.entry_enumerate_new
    (meets_enum1B B) ⟨h1, ?_⟩
  have hz : (s.heap.push o).objs.size = s.heap.objs.size + 1 := Heap.size_push ..
  show _ ∧ _
  rw [hz]
  have he : IsEnum ((s.heap.push o).push { cls := .type "enumerate", data := .fields #[.none, .bool false, .ref s.heap.objs.size, rawInt 0, .none, .none] }) (s.heap.objs.size + 1) s.heap.objs.size 0 .none := by
    have := Heap.get?_push_size (s.heap.push o) (o := { cls := .type "enumerate", data := .fields #[.none, .bool false, .ref s.heap.objs.size, rawInt 0, .none, .none] }) rfl
    rw [hz] at this; exact this
  refine ⟨⟨_, he, rfl⟩, h _ he (Heap.get?_push_of_some _ (Heap.get?_push_size _ B.free)) (by rw [Heap.size_push, hz]) fun b o x => Heap.get?_push_of_some _ (Heap.get?_push_of_some _ x)⟩
end
def IteT (K : PySem.W.Frag) (a : Addr) : It :=
  ⟨fun i H => ∃ (xs : List V) (x : V), SqT K H a xs ∧ xs[i]? = some x, fun i H v H' => ∃ T x, v = .ref T ∧ H T = none ∧ H' = upd H T (.tup [.int (i : Nat), x]) ∧ ∀ xs, SqT K H a xs → xs[i]? = some x, fun i H => ∃ xs : List V, SqT K H a xs ∧ xs.length ≤ i⟩
theorem turn_enumT {P : Program} {w : World} {K : PySem.W.Frag} {elts : List Expr} {kk : Nat} {tpos : Pos} (a e it : Addr) :
    Turn P w K (.Tuple elts kk tpos) (IteT K a) [e, it] e (fun i h => (∃ old, IsEnum h e it ((i : Nat) : Int) old) ∧ h.IsTupleIter it a i ∧ e ≠ it ∧ a ≠ it ∧ e ≠ a) where
  mem := by simp
  obj := fun i h st b hb => by
    obtain ⟨⟨old, he⟩, ⟨o, ho, hc, hd⟩, _⟩ := st
    have e' : b = e ∨ b = it := by simpa using hb
    rcases e' with z | z
    · rw [z]; exact ⟨_, he, fun v q => nomatch q⟩
    · rw [z]; exact ⟨o, ho, fun v q => by rw [hd] at q; cases q⟩
  keep := fun i h h' st k => let ⟨⟨old, he⟩, hi, hne⟩ := st; ⟨⟨old, k e (by simp) _ he⟩, hi.at fun o q => k it (by simp) o q, hne⟩
  item := by
    intro X hP hw hK hc i pins s σ H E I hf st hg
    subst hP hw hK
    obtain ⟨⟨old, he⟩, hit, hne, hni, hea⟩ := st
    obtain ⟨xs, x, hq, hx⟩ := hg
    obtain ⟨its, rv, p, hz⟩ := I.tuple hq
    obtain ⟨u, hu, ru⟩ := rv.get hx
    have hel : e < s.heap.objs.size := Heap.lt_size he
    have hil : it < s.heap.objs.size := by obtain ⟨_, q, _⟩ := hit; exact Heap.lt_size q
    have p' : s.heap.IsTuple a its.toArray := p
    have hlt : i < its.toArray.size := by
      obtain ⟨h1, _⟩ := List.getElem?_eq_some_iff.mp hu
      simpa using h1
    have hh : X.A.in1.handled = none := I.ok.hd hc
    refine wpAny_pyNext_enum_itemD (Draws.tuple hh it a hni its.toArray) he ⟨hit, p'⟩ hlt hne (by simp [hne, hea]) fun y h' tk hy ho st' hT hsz hk => ?_
    have ey : y = u := by
      have : its.toArray[i]? = some y := hy
      rw [List.getElem?_toArray, hu] at this
      exact (Option.some.inj this).symm
    subst ey
    refine ⟨_, rfl, wpAny_letOwnedTupleGo_enum (s := { s with heap := h', toks := tk + 1 }) ho fun h'' he' sb => ?_⟩
    have hT2 : h''.get? s.heap.objs.size = some { cls := .type "tuple", data := .seq #[.int i tk, y] } := (sb.2 _ (Nat.ne_of_gt hel)).trans hT
    have new : ObjOk X.prog X.w (upd H s.heap.objs.size (.tup [.int (i : Nat), x])) h'' s.heap.objs.size (.tup [.int (i : Nat), x]) :=
      ⟨by show 2 ≤ sizeLine; decide, [.int i tk, y], .cons ⟨_, rfl⟩ (.cons ru .nil), ⟨_, hT2, rfl, _, rfl⟩⟩
    have I1 : Inv X pins σ (upd H s.heap.objs.size (.tup [.int (i : Nat), x])) { s with heap := h'', toks := tk + 1 } :=
      I.turnedNew (ch := [e, it]) (fun b ob hb q => (sb.2 b (fun z => hb (by simp [z]))).trans (hk b ob (fun z => hb (by simp [z])) (fun z => hb (by simp [z])) q)) hf (Nat.le_refl _) new
    refine ⟨.ref s.heap.objs.size, _, I1, rfl, ⟨_, x, rfl, I.hok.fresh (Nat.le_refl _), rfl, fun ys hy => by rw [I.tuple_inj hy hq]; exact hx⟩, ⟨⟨y, ?_⟩, st'.1.at fun o q => (sb.2 it (Ne.symm hne)).trans q, hne, hni, hea⟩, fun b hb => ?_⟩
    · have e1 : ((i + 1 : Nat) : Int) = (i : Int) + 1 := by omega
      rw [e1]; exact he'
    · have hb' : b < s.heap.objs.size := by
        have e' : b = e ∨ b = it := by simpa using hb
        rcases e' with z | z
        · rw [z]; exact hel
        · rw [z]; exact hil
      rw [upd_ne (Nat.ne_of_lt hb')]
      exact (hf b hb).1
  done := by
    intro X hP hw hK hc i pins s σ H E I hf st hg
    subst hP hw hK
    obtain ⟨⟨old, he⟩, hit, hne, hni, hea⟩ := st
    obtain ⟨xs, hq, hx⟩ := hg
    obtain ⟨its, rv, p, hz⟩ := I.tuple hq
    obtain ⟨f0, f1, f2, f3, f4, f5⟩ := hf it (by simp)
    have hl := rv.length
    have p' : s.heap.IsTuple a its.toArray := p
    have hh : X.A.in1.handled = none := I.ok.hd hc
    have hT : s.TypeIs (.ref e) "enumerate" := ⟨_, he, rfl⟩
    unfold pyNext
    refine wpAny_bind (wpAny_attempt (wpAny_callSpecial?_slot (name := Str.ofString "__next__") hT F.slot_enumerate_next
      (wpAny_call_entry F.slot_enumerate_next hT F.entry_enumerate_next ?_ (F.args_enumerate_next_1 _))))
    show wpAny _ _ (field (.ref e) 2 >>= _) _ _ _
    refine wpAny_bind (wpAny_field he rfl (x := .ref it) rfl ?_)
    refine wpAny_bind (wpAny_nextOf_tuple_end hh hit p' (by simp; omega) fun h' x he' hx' => ?_)
    obtain ⟨o, ho, hc⟩ := hx'
    refine wpAny_bind (wpAny_isInstance (T := "StopIteration") (b := true) ⟨o, ho, hc⟩ isSubtype_stop ?_)
    exact wpAny_pure ⟨rfl, I.turned (t' := s.toks) (fun b o hb q => he' b o hb q) f0 f1 f3 f4 f5⟩
  self := fun A i s Q E st h => let ⟨⟨_, he⟩, _⟩ := st; wpAny_pyIter_enum he h
def iEnumA (K : PySem.W.Frag) (ta : TA) : TI := fun σ H R => ta σ H fun vs H1 => ∃ a xs, vs = [.ref a] ∧ ((SqL K H1 a xs ∧ R (Ite K a) H1) ∨ (SqT K H1 a xs ∧ R (IteT K a) H1))
theorem pi_enumA {X : Cx} {e : Expr} {ta : TA} {p pos tpos : Pos} {elts : List Expr} {kk : Nat} (hg : Gl X "enumerate") (hm : X.mg "enumerate" = none) (ha : PA X [e] ta) (hs : starEach [e] X.env = [(false, eval e X.env)] := by rfl) :
    PI X (.Tuple elts kk tpos) (.Call (.Name "enumerate" p) [e] [] pos) (iEnumA X.K ta) := by
  refine ⟨fun pins s σ H R I h => ?_⟩
  refine Call_ (ld_blt I hg hm boot_enumerate (PyProof.Rows.callWith_type1 (thn (ha.run pos pins s σ H _ I h) fun us s1 ⟨vs, H1, I1, r1, q1⟩ => ?_) hs rfl))
  obtain ⟨a, xs, ex, q⟩ := q1
  subst ex
  cases r1 with
  | cons r rr =>
    cases rr
    cases r
    have fp2 : ∀ b ∈ [s1.heap.objs.size + 1, s1.heap.objs.size], FpOk X pins H1 b := fun b hb => by
      have e' : b = s1.heap.objs.size + 1 ∨ b = s1.heap.objs.size := by simpa using hb
      have hle : s1.heap.objs.size ≤ b := by
        rcases e' with z | z
        · rw [z]; exact Nat.le_add_right _ _
        · rw [z]; exact Nat.le_refl _
      exact I1.fpOk hle (I1.hok.fresh hle)
    rcases q with ⟨hq, q⟩ | ⟨hq, q⟩
    · obtain ⟨its, rv, p', hz⟩ := I1.list hq
      refine call_enumerate_list p'.isList fun h' he hit hsz hk => wpAny_pyIter_enum he ?_
      have I2 : Inv X pins σ H1 { s1 with heap := h' } := I1.kept (t' := s1.toks) hk
      exact ⟨s1.heap.objs.size + 1, [s1.heap.objs.size + 1, s1.heap.objs.size], _, _, H1, rfl, I2, turn_enum a (s1.heap.objs.size + 1) s1.heap.objs.size, ⟨⟨.none, he⟩, hit, Nat.succ_ne_self _⟩, fp2, q⟩
    · obtain ⟨its, rv, p', hz⟩ := I1.tuple hq
      have p'' : s1.heap.IsTuple a its.toArray := p'
      have hal : a < s1.heap.objs.size := by obtain ⟨_, q, _⟩ := p''; exact Heap.lt_size q
      refine enum1_begins (begins_tuple a its.toArray) p'' fun h' he hit hsz hk => wpAny_pyIter_enum he ?_
      have I2 : Inv X pins σ H1 { s1 with heap := h' } := I1.kept (t' := s1.toks) hk
      exact ⟨s1.heap.objs.size + 1, [s1.heap.objs.size + 1, s1.heap.objs.size], _, _, H1, rfl, I2, turn_enumT a (s1.heap.objs.size + 1) s1.heap.objs.size, ⟨⟨.none, he⟩, ⟨_, hit, rfl, rfl⟩, Nat.succ_ne_self _, Nat.ne_of_lt hal, Nat.ne_of_gt (Nat.lt_succ_of_lt hal)⟩, fp2, q⟩
end G
end
section
set_option Elab.async false
set_option linter.all false
set_option maxRecDepth 100000
/-! G9: what is walked, loops, comprehensions. -/
namespace G
open PySem PySem.Spec PyProof.Rows L2
variable [Tabl]

/-- the iterator J yields what ps tell -/
structure Feeds (K : PySem.W.Frag) (S : GS) (J : It) (ps : List PV) : Prop where
  go : ∀ (S' : GS) (i : Nat), ExtW S S' → Rel K S' → i < ps.length → J.go i S'.H
  stop : ∀ (S' : GS) (i : Nat), ExtW S S' → Rel K S' → ps.length ≤ i → J.stop i S'.H
  yld : ∀ (S' : GS) (i : Nat) (x : V) (H' : Hp) (p : PV), ExtW S S' → Rel K S' → ps[i]? = some p → J.yld i S'.H x H' → ∃ S'', S''.H = H' ∧ S''.h = S'.h ∧ Ext S' S'' ∧ Rel K S'' ∧ RepV K S'' p x
section
variable {K : PySem.W.Frag} {S : GS}
theorem lt_get {α : Type} {l : List α} {i : Nat} (h : i < l.length) : ∃ x, l[i]? = some x := ⟨l[i], List.getElem?_eq_getElem h⟩
theorem feeds_list {a : Addr} {xs : List PV} {vs : List V} (l : ¬ Live S a) (t : S.H a = some (.lst vs)) (r : RepL K S xs vs) : Feeds K S (Itl K a) xs where
  go := fun S' i E R hi => by
    obtain ⟨t', _⟩ := E.keep a _ t l (fun _ z => by cases z)
    obtain ⟨x, hx⟩ := lt_get (l := vs) (i := i) (by rw [r.length]; exact hi)
    exact ⟨vs, x, SqL.of t', hx⟩
  stop := fun S' i E R hi => by
    obtain ⟨t', _⟩ := E.keep a _ t l (fun _ z => by cases z)
    exact ⟨vs, SqL.of t', by rw [r.length]; exact hi⟩
  yld := fun S' i x H' p E R hp y => by
    obtain ⟨t', _⟩ := E.keep a _ t l (fun _ z => by cases z)
    obtain ⟨e, y⟩ := y
    obtain ⟨v, hv, rv⟩ := r.get hp
    have := y vs (SqL.of t')
    rw [hv] at this
    cases this
    exact ⟨S', e.symm, rfl, Ext.refl _, R, rv.mono E _ _⟩
theorem feeds_tup {a : Addr} {xs : List PV} {vs : List V} (t : TupAt K S a xs vs) (r : RepL K S xs vs) : Feeds K S (Itt K a) xs where
  go := fun S' i E R hi => by
    obtain ⟨x, hx⟩ := lt_get (l := vs) (i := i) (by rw [r.length]; exact hi)
    exact ⟨vs, x, (t.mono E).sq, hx⟩
  stop := fun S' i E R hi => ⟨vs, (t.mono E).sq, by rw [r.length]; exact hi⟩
  yld := fun S' i x H' p E R hp y => by
    obtain ⟨e, y⟩ := y
    obtain ⟨v, hv, rv⟩ := r.get hp
    have := y vs (t.mono E).sq
    rw [hv] at this
    cases this
    exact ⟨S', e.symm, rfl, Ext.refl _, R, rv.mono E _ _⟩
theorem intsFrom_length (lo : Int) : ∀ n : Nat, (intsFrom lo n).length = n
  | 0 => rfl
  | n + 1 => by rw [intsFrom, List.length_cons, intsFrom_length]
theorem intsFrom_get : ∀ (n i : Nat) (lo : Int), i < n → (intsFrom lo n)[i]? = some (.int (lo + i))
  | 0, _, _, h => absurd h (Nat.not_lt_zero _)
  | n + 1, 0, lo, _ => by simp [intsFrom]
  | n + 1, i + 1, lo, h => by
    rw [intsFrom, List.getElem?_cons_succ, intsFrom_get n i (lo + 1) (by omega)]
    congr 2
    omega
theorem feeds_range {lo : Int} {n : Nat} : Feeds K S (Itr lo n) (intsFrom lo n) where
  go := fun S' i E R hi => by rw [intsFrom_length] at hi; exact hi
  stop := fun S' i E R hi => by rw [intsFrom_length] at hi; exact hi
  yld := fun S' i x H' p E R hp y => by
    obtain ⟨e, ex⟩ := y
    have hi : i < n := by
      obtain ⟨h1, _⟩ := List.getElem?_eq_some_iff.mp hp
      rwa [intsFrom_length] at h1
    rw [intsFrom_get n i lo hi] at hp
    cases hp
    exact ⟨S', e.symm, rfl, Ext.refl _, R, by rw [RepV]; exact ex⟩
theorem enumFrom_length : ∀ (xs : List PV) (k : Nat), (enumFrom k xs).length = xs.length
  | [], _ => rfl
  | x :: xs, k => by rw [enumFrom, List.length_cons, List.length_cons, enumFrom_length]
theorem enumFrom_get : ∀ (xs : List PV) (k i : Nat) (p : PV), (enumFrom k xs)[i]? = some p → ∃ x, xs[i]? = some x ∧ p = .tup [.int ((k + i : Nat)), x]
  | [], _, _, _, h => by simp [enumFrom] at h
  | x :: xs, k, 0, p, h => by
    simp only [enumFrom, List.getElem?_cons_zero, Option.some.injEq] at h
    exact ⟨x, rfl, h.symm⟩
  | x :: xs, k, i + 1, p, h => by
    rw [enumFrom, List.getElem?_cons_succ] at h
    obtain ⟨y, h1, h2⟩ := enumFrom_get xs (k + 1) i p h
    refine ⟨y, by rw [List.getElem?_cons_succ]; exact h1, ?_⟩
    rw [h2]
    congr 3
    omega
theorem feeds_pair {S' : GS} {T : Addr} {x y : PV} {v w : V} (R : Rel K S') (hT : S'.H T = none) (rx : RepV K S' x v) (ry : RepV K S' y w) :
    ∃ S'', S''.H = upd S'.H T (.tup [v, w]) ∧ S''.h = S'.h ∧ Ext S' S'' ∧ Rel K S'' ∧ RepV K S'' (.tup [x, y]) (.ref T) := by
  obtain ⟨E, R'⟩ := R.alloc (o := .tup [v, w]) hT
  exact ⟨{ S' with H := upd S'.H T (.tup [v, w]) }, rfl, rfl, E, R', rep_newT R hT (repL_cons rx (repL_cons ry repL_nil))⟩
theorem feeds_enumL {a : Addr} {xs : List PV} {vs : List V} (l : ¬ Live S a) (t : S.H a = some (.lst vs)) (r : RepL K S xs vs) : Feeds K S (Ite K a) (enumFrom 0 xs) where
  go := fun S' i E R hi => by
    obtain ⟨t', _⟩ := E.keep a _ t l (fun _ z => by cases z)
    rw [enumFrom_length] at hi
    obtain ⟨x, hx⟩ := lt_get (l := vs) (i := i) (by rw [r.length]; exact hi)
    exact ⟨vs, x, SqL.of t', hx⟩
  stop := fun S' i E R hi => by
    obtain ⟨t', _⟩ := E.keep a _ t l (fun _ z => by cases z)
    rw [enumFrom_length] at hi
    exact ⟨vs, SqL.of t', by rw [r.length]; exact hi⟩
  yld := fun S' i x H' p E R hp y => by
    obtain ⟨t', _⟩ := E.keep a _ t l (fun _ z => by cases z)
    obtain ⟨T, u, ex, hT, eH, y⟩ := y
    obtain ⟨q, hq, rfl⟩ := enumFrom_get xs 0 i p hp
    obtain ⟨v, hv, rv⟩ := r.get hq
    have := y vs (SqL.of t')
    rw [hv] at this
    cases this
    subst eH ex
    rw [Nat.zero_add]
    exact feeds_pair R hT (by rw [RepV]) (rv.mono E _ _)
theorem feeds_enumT {a : Addr} {xs : List PV} {vs : List V} (t : TupAt K S a xs vs) (r : RepL K S xs vs) : Feeds K S (IteT K a) (enumFrom 0 xs) where
  go := fun S' i E R hi => by
    rw [enumFrom_length] at hi
    obtain ⟨x, hx⟩ := lt_get (l := vs) (i := i) (by rw [r.length]; exact hi)
    exact ⟨vs, x, (t.mono E).sq, hx⟩
  stop := fun S' i E R hi => by
    rw [enumFrom_length] at hi
    exact ⟨vs, (t.mono E).sq, by rw [r.length]; exact hi⟩
  yld := fun S' i x H' p E R hp y => by
    obtain ⟨T, u, ex, hT, eH, y⟩ := y
    obtain ⟨q, hq, rfl⟩ := enumFrom_get xs 0 i p hp
    obtain ⟨v, hv, rv⟩ := r.get hq
    have := y vs (t.mono E).sq
    rw [hv] at this
    cases this
    subst eH ex
    rw [Nat.zero_add]
    exact feeds_pair R hT (by rw [RepV]) (rv.mono E _ _)
theorem zipPV_get : ∀ (xs ys : List PV) (i : Nat) (p : PV), (zipPV xs ys)[i]? = some p → ∃ x y, xs[i]? = some x ∧ ys[i]? = some y ∧ p = .tup [x, y]
  | [], _, _, _, h => by simp [zipPV] at h
  | _ :: _, [], _, _, h => by simp [zipPV] at h
  | x :: xs, y :: ys, 0, p, h => by
    simp only [zipPV, List.getElem?_cons_zero, Option.some.injEq] at h
    exact ⟨x, y, rfl, rfl, h.symm⟩
  | x :: xs, y :: ys, i + 1, p, h => by
    rw [zipPV, List.getElem?_cons_succ] at h
    obtain ⟨u, w, h1, h2, h3⟩ := zipPV_get xs ys i p h
    exact ⟨u, w, by rw [List.getElem?_cons_succ]; exact h1, by rw [List.getElem?_cons_succ]; exact h2, h3⟩
theorem zipPV_length : ∀ (xs ys : List PV), (zipPV xs ys).length = min xs.length ys.length
  | [], _ => by simp [zipPV]
  | _ :: _, [] => by simp [zipPV]
  | x :: xs, y :: ys => by rw [zipPV, List.length_cons, zipPV_length, List.length_cons, List.length_cons]; omega
theorem feeds_zipL {a b : Addr} {xs ys : List PV} {vs ws : List V} (la : ¬ Live S a) (ta : S.H a = some (.lst vs)) (ra : RepL K S xs vs) (lb : ¬ Live S b) (tb : S.H b = some (.lst ws)) (rb : RepL K S ys ws) : Feeds K S (Itz K a b) (zipPV xs ys) where
  go := fun S' i E R hi => by
    obtain ⟨t1, _⟩ := E.keep a _ ta la (fun _ z => by cases z)
    obtain ⟨t2, _⟩ := E.keep b _ tb lb (fun _ z => by cases z)
    rw [zipPV_length] at hi
    obtain ⟨x, hx⟩ := lt_get (l := vs) (i := i) (by rw [ra.length]; omega)
    obtain ⟨y, hy⟩ := lt_get (l := ws) (i := i) (by rw [rb.length]; omega)
    exact ⟨vs, ws, x, y, SqL.of t1, SqL.of t2, hx, hy⟩
  stop := fun S' i E R hi => by
    obtain ⟨t1, _⟩ := E.keep a _ ta la (fun _ z => by cases z)
    obtain ⟨t2, _⟩ := E.keep b _ tb lb (fun _ z => by cases z)
    rw [zipPV_length] at hi
    exact ⟨vs, ws, SqL.of t1, SqL.of t2, by rw [ra.length, rb.length]; omega⟩
  yld := fun S' i x H' p E R hp y => by
    obtain ⟨t1, _⟩ := E.keep a _ ta la (fun _ z => by cases z)
    obtain ⟨t2, _⟩ := E.keep b _ tb lb (fun _ z => by cases z)
    obtain ⟨T, u, w, ex, hT, eH, y1, y2⟩ := y
    obtain ⟨q1, q2, h1, h2, rfl⟩ := zipPV_get xs ys i p hp
    obtain ⟨v1, hv1, rv1⟩ := ra.get h1
    obtain ⟨v2, hv2, rv2⟩ := rb.get h2
    have z1 := y1 vs (SqL.of t1)
    have z2 := y2 ws (SqL.of t2)
    rw [hv1] at z1
    rw [hv2] at z2
    cases z1; cases z2
    subst eH ex
    exact feeds_pair R hT (rv1.mono E _ _) (rv2.mono E _ _)
theorem feeds_zipT {a b : Addr} {xs ys : List PV} {vs ws : List V} (ta : TupAt K S a xs vs) (ra : RepL K S xs vs) (tb : TupAt K S b ys ws) (rb : RepL K S ys ws) : Feeds K S (RZ.ItzT K a b) (zipPV xs ys) where
  go := fun S' i E R hi => by
    rw [zipPV_length] at hi
    obtain ⟨x, hx⟩ := lt_get (l := vs) (i := i) (by rw [ra.length]; omega)
    obtain ⟨y, hy⟩ := lt_get (l := ws) (i := i) (by rw [rb.length]; omega)
    exact ⟨vs, ws, x, y, (ta.mono E).sq, (tb.mono E).sq, hx, hy⟩
  stop := fun S' i E R hi => by
    rw [zipPV_length] at hi
    exact ⟨vs, ws, (ta.mono E).sq, (tb.mono E).sq, by rw [ra.length, rb.length]; omega⟩
  yld := fun S' i x H' p E R hp y => by
    obtain ⟨T, u, w, ex, hT, eH, y1, y2⟩ := y
    obtain ⟨q1, q2, h1, h2, rfl⟩ := zipPV_get xs ys i p hp
    obtain ⟨v1, hv1, rv1⟩ := ra.get h1
    obtain ⟨v2, hv2, rv2⟩ := rb.get h2
    have z1 := y1 vs (ta.mono E).sq
    have z2 := y2 ws (tb.mono E).sq
    rw [hv1] at z1
    rw [hv2] at z2
    cases z1; cases z2
    subst eH ex
    exact feeds_pair R hT (rv1.mono E _ _) (rv2.mono E _ _)
theorem feeds_str {s : Str} (hs : strOk s) : Feeds K S (Its s) (s.cps.toList.map fun c => .str ⟨#[c]⟩) where
  go := fun S' i E R hi => by
    show i < s.cps.size
    simpa using hi
  stop := fun S' i E R hi => by
    show s.cps.size ≤ i
    simpa using hi
  yld := fun S' i x H' p E R hp y => by
    obtain ⟨e, c, hc, ex⟩ := y
    rw [List.getElem?_map] at hp
    have h2 : s.cps.toList[i]? = some c := by simpa using hc
    rw [h2] at hp
    cases hp
    refine ⟨S', e.symm, rfl, Ext.refl _, R, ?_⟩
    rw [RepV]
    refine ⟨ex, ?_⟩
    have hm : c ∈ s.cps := Array.mem_of_getElem? hc
    unfold strOk PyData.strOk at hs ⊢
    rw [Array.all_eq_true'] at hs
    simpa using hs c hm
end

/-! ### the judgement of iterables -/
section
variable (K : PySem.W.Frag) (ca : CA) (W : WX)
def PostI (S : GS) (σ : St) (R : It → Hp → Prop) : Res (List PV) → Prop
  | .ok ps h => ∀ S' J, S'.h = h → Ext S S' → Rel K S' → Feeds K S' J ps → R J S'.H
  | .exc c h => ∀ S', S'.h = h → Ext S S' → Rel K S' → W (.ref (ca c)) none σ S'.H
  | .fail => False
variable (F : FEnv)
def tI (it : CI) : TI := fun σ H R => ∃ (S : GS) (env : Env), S.H = H ∧ Rel K S ∧ EnvR K S env σ ∧ PostI K ca W S σ R (it F env S.h)
end
def SI (X : Cx) (ca : CA) (F : FEnv) (it : CI) (tg e : Expr) : Prop := ∀ W : WX, L2N.Takes X W → PI X tg e (tI X.K ca W F it)
theorem PI.imp {X : Cx} {tg e : Expr} {t t' : TI} (h : PI X tg e t) (k : ∀ σ H R, t' σ H R → t σ H R) : PI X tg e t' := ⟨fun pins s σ H R I q => h.run pins s σ H R I (k σ H R q)⟩
section
variable {K : PySem.W.Frag} {ca : CA} {W : WX} {S S' : GS} {σ : St} {R : It → Hp → Prop}
theorem PostI.ext (E : Ext S S') {r : Res (List PV)} (h : PostI K ca W S σ R r) : PostI K ca W S' σ R r := by
  cases r with
  | ok x g => exact fun S1 z eh e R q => h S1 z eh (E.trans e) R q
  | exc c g => exact fun S1 eh e R => h S1 eh (E.trans e) R
  | fail => exact h
theorem PostI.bindE {r : Res PV} {f : PV → LH → Res (List PV)} (h : PostI K ca W S σ R (r.bind f))
    {Q1 : VK} (k : ∀ x S' z, Ext S S' → Rel K S' → RepV K S' x z → PostI K ca W S' σ R (f x S'.h) → Q1 z S'.H) : PostE K ca W S σ Q1 r := by
  cases r with
  | ok x g => exact fun S1 z eh e R q => by subst eh; exact k x S1 z e R q (PostI.ext e h)
  | exc c g => exact h
  | fail => exact h
theorem PostI.here {J : It} {ps : List PV} (R' : Rel K S) (f : Feeds K S J ps) (h : PostI K ca W S σ R (.ok ps S.h)) : R J S.H := h S J rfl (Ext.refl S) R' f
end
section
variable {X : Cx} {ca : CA} {F : FEnv} {a b e tg : Expr} {c1 c2 : CE} {p pos : Pos}
def iSeq (K : PySem.W.Frag) (te : TE) : TI := fun σ H R => te σ H fun x H1 => (∃ a, x = .ref a ∧ (∃ xs, SqL K H1 a xs) ∧ R (Itl K a) H1) ∨ (∃ a, x = .ref a ∧ (∃ xs, SqT K H1 a xs) ∧ R (Itt K a) H1) ∨ (∃ s, x = .str s ∧ R (Its s) H1)
theorem pi_seq {l : Expr} {tl : TE} (hl : PE X l tl) : PI X tg l (iSeq X.K tl) := by
  refine ⟨fun pins s σ H R I h => ?_⟩
  refine thn (hl.run pins s σ H _ I h) fun v s1 ⟨x, H1, I1, r1, q1⟩ => ?_
  rcases q1 with ⟨a, e, ⟨xs, hq⟩, q⟩ | ⟨a, e, ⟨xs, hq⟩, q⟩ | ⟨y, e, q⟩
  · subst e
    cases r1
    obtain ⟨its, rv, p, hz⟩ := I1.list hq
    refine wpAny_pyIter_list p.isList ?_
    refine ⟨s1.heap.objs.size, [s1.heap.objs.size], _, _, H1, rfl, I1.kept (t' := s1.toks) fun b o e => Heap.get?_push_of_some _ e, turn_list a _, ⟨_, Heap.get?_push_size _ rfl, rfl, rfl⟩, fun b hb => ?_, q⟩
    have e : b = s1.heap.objs.size := by simpa using hb
    subst e
    exact I1.fpOk (Nat.le_refl _) (I1.hok.fresh (Nat.le_refl _))
  · subst e
    cases r1
    obtain ⟨its, rv, p, hz⟩ := I1.tuple hq
    refine wpAny_pyIter_tuple (show s1.heap.IsTuple a its.toArray from p) ?_
    refine ⟨s1.heap.objs.size, [s1.heap.objs.size], _, _, H1, rfl, I1.kept (t' := s1.toks) fun b o e => Heap.get?_push_of_some _ e, turn_tuple a _, ⟨_, Heap.get?_push_size _ rfl, rfl, rfl⟩, fun b hb => ?_, q⟩
    have e : b = s1.heap.objs.size := by simpa using hb
    subst e
    exact I1.fpOk (Nat.le_refl _) (I1.hok.fresh (Nat.le_refl _))
  · subst e
    obtain ⟨t, rfl⟩ := r1
    cases ha : y.cps.all (· < 128)
    · exact wpAny_pyIter_wide ha (pi_one (tk := s1.toks) I1 _ (turn_str _ y t "str_iterator" (.inr rfl)) ⟨_, Heap.get?_push_size _ rfl, rfl, rfl⟩ q)
    · exact wpAny_pyIter_ascii ha (pi_one (tk := s1.toks) I1 _ (turn_str _ y t "str_ascii_iterator" (.inl rfl)) ⟨_, Heap.get?_push_size _ rfl, rfl, rfl⟩ q)
theorem rep_lstN {K : PySem.W.Frag} {S : GS} {xs : List PV} {v : V} (h : RepV K S (.lst xs) v) : ∃ a vs, v = .ref a ∧ ¬ Live S a ∧ S.H a = some (.lst vs) ∧ RepL K S xs vs := by rwa [RepV] at h
theorem si_of (he : SE X ca F c1 e) : SI X ca F (iOf c1) tg e := fun W tk =>
  PI.imp (pi_seq (he W tk)) fun σ H R ⟨S, env, eH, Rl, ev, p⟩ => by
    subst eH
    refine ⟨S, env, rfl, Rl, ev, PostI.bindE p fun x S1 z E1 R1 r1 p1 => ?_⟩
    cases q : itemsOf x with
    | none => rw [q] at p1; exact p1.elim
    | some xs =>
      rw [q] at p1
      cases x with
      | lst ys =>
        cases q
        obtain ⟨a, vs, rfl, l, t, r⟩ := rep_lstN r1
        exact .inl ⟨a, rfl, ⟨vs, SqL.of t⟩, p1.here R1 (feeds_list l t r)⟩
      | tup ys =>
        cases q
        obtain ⟨a, vs, rfl, t, r⟩ := rep_tup r1
        exact .inr (.inl ⟨a, rfl, ⟨vs, t.sq⟩, p1.here R1 (feeds_tup t r)⟩)
      | str s =>
        cases q
        obtain ⟨rfl, hs⟩ := rep_str r1
        exact .inr (.inr ⟨s, rfl, p1.here R1 (feeds_str hs)⟩)
      | dT _ => cases q
      | dK _ => cases q
      | _ => cases q
theorem small62_ok {i : Int} (h : small62 i = true) : -(2 ^ 62) ≤ i ∧ i < 2 ^ 62 := by
  unfold small62 at h
  rw [Bool.and_eq_true] at h
  exact ⟨of_decide_eq_true h.1, of_decide_eq_true h.2⟩
theorem si_range1 (hg : Gl X "range") (hm : X.mg "range" = none) (he : SE X ca F c1 a) (hs : starEach [a] X.env = [(false, eval a X.env)]) : SI X ca F (iRange1 c1) tg (.Call (.Name "range" p) [a] [] pos) := fun W tk =>
  PI.imp (pi_range1 hg hm (pa_cons (he W tk) pa_nil hs) hs) fun σ H R ⟨S, env, eH, Rl, ev, p⟩ => by
    subst eH
    refine ⟨S, env, rfl, Rl, ev, PostI.bindE p fun x S1 z E1 R1 r1 p1 => ?_⟩
    cases x with
    | int j =>
      simp only at p1
      split at p1
      · rename_i hz
        obtain ⟨z1, z2⟩ := small62_ok hz
        exact ⟨j, by rw [rep_int r1], z1, z2, p1.here R1 feeds_range⟩
      · exact p1.elim
    | _ => exact p1.elim
theorem si_range2 (hg : Gl X "range") (hm : X.mg "range" = none) (ha : SE X ca F c1 a) (hb : SE X ca F c2 b) (hs : starEach [a, b] X.env = [(false, eval a X.env), (false, eval b X.env)]) (hs2 : starEach [b] X.env = [(false, eval b X.env)]) : SI X ca F (iRange2 c1 c2) tg (.Call (.Name "range" p) [a, b] [] pos) := fun W tk =>
  PI.imp (pi_range2 hg hm (pa_cons (ha W tk) (pa_cons (hb W tk) pa_nil hs2) (by rw [hs, hs2])) hs hs2) fun σ H R ⟨S, env, eH, Rl, ev, p⟩ => by
    subst eH
    refine ⟨S, env, rfl, Rl, ev, PostI.bindE p fun x S1 z E1 R1 r1 p1 => ?_⟩
    refine ⟨S1, env, rfl, R1, ev.mono E1.toExtW, PostI.bindE p1 fun y S2 z2 E2 R2 r2 p2 => ?_⟩
    cases x with
    | int i =>
      cases y with
      | int j =>
        simp only at p2
        split at p2
        · rename_i hz
          rw [Bool.and_eq_true] at hz
          obtain ⟨z1, z3⟩ := small62_ok hz.1
          obtain ⟨z4, z5⟩ := small62_ok hz.2
          exact ⟨i, j, by rw [rep_int r1, rep_int r2], ⟨z1, z3, z4, z5⟩, p2.here R2 feeds_range⟩
        · exact p2.elim
      | _ => exact p2.elim
    | _ => exact p2.elim
theorem si_enum {elts : List Expr} {kk : Nat} {tpos : Pos} (hg : Gl X "enumerate") (hm : X.mg "enumerate" = none) (he : SE X ca F c1 a) (hs : starEach [a] X.env = [(false, eval a X.env)]) : SI X ca F (iEnum c1) (.Tuple elts kk tpos) (.Call (.Name "enumerate" p) [a] [] pos) := fun W tk =>
  PI.imp (pi_enumA hg hm (pa_cons (he W tk) pa_nil hs) hs) fun σ H R ⟨S, env, eH, Rl, ev, p⟩ => by
    subst eH
    refine ⟨S, env, rfl, Rl, ev, PostI.bindE p fun x S1 z E1 R1 r1 p1 => ?_⟩
    cases x with
    | lst ys =>
      obtain ⟨a, vs, rfl, l, t, r⟩ := rep_lstN r1
      exact ⟨a, vs, rfl, .inl ⟨SqL.of t, p1.here R1 (feeds_enumL l t r)⟩⟩
    | tup ys =>
      obtain ⟨a, vs, rfl, t, r⟩ := rep_tup r1
      exact ⟨a, vs, rfl, .inr ⟨t.sq, p1.here R1 (feeds_enumT t r)⟩⟩
    | _ => exact p1.elim
theorem si_zip {elts : List Expr} {kk : Nat} {tpos : Pos} (hg : Gl X "zip") (hm : X.mg "zip" = none) (ha : SE X ca F c1 a) (hb : SE X ca F c2 b) (hs : starEach [a, b] X.env = (false, eval a X.env) :: starEach [b] X.env) (hs2 : starEach [b] X.env = [(false, eval b X.env)]) (hpl : (backTo pos (starEach [b] X.env)).any (·.1) = false) :
    SI X ca F (iZip c1 c2) (.Tuple elts kk tpos) (.Call (.Name "zip" p) [a, b] [] pos) := fun W tk =>
  PI.imp (RZ.pi_zipA hg hm (pa_cons (ha W tk) (pa_cons (hb W tk) pa_nil hs2) hs) hs hpl) fun σ H R ⟨S, env, eH, Rl, ev, p⟩ => by
    subst eH
    refine ⟨S, env, rfl, Rl, ev, PostI.bindE p fun x S1 z E1 R1 r1 p1 => ?_⟩
    refine ⟨S1, env, rfl, R1, ev.mono E1.toExtW, PostI.bindE p1 fun y S2 z2 E2 R2 r2 p2 => ?_⟩
    have r1 := r1.mono E2.toExtW _ _
    cases x with
    | lst xs =>
      cases y with
      | lst ys =>
        obtain ⟨a, vs, rfl, l, t, r⟩ := rep_lstN r1
        obtain ⟨a2, vs2, rfl, l2, t2, r2⟩ := rep_lstN r2
        exact ⟨a, a2, vs, vs2, rfl, .inl ⟨SqL.of t, SqL.of t2, p2.here R2 (feeds_zipL l t r l2 t2 r2)⟩⟩
      | _ => exact p2.elim
    | tup xs =>
      cases y with
      | tup ys =>
        obtain ⟨a, vs, rfl, t, r⟩ := rep_tup r1
        obtain ⟨a2, vs2, rfl, t2, r2⟩ := rep_tup r2
        exact ⟨a, a2, vs, vs2, rfl, .inr ⟨t.sq, t2.sq, p2.here R2 (feeds_zipT t r t2 r2)⟩⟩
      | _ => exact p2.elim
    | _ => exact p2.elim

/-! ### for, while -/
theorem for_core {W : WX} {t : TP} {b : CS} {D : Ends} {J : It} {ps : List PV} {S1 : GS} {env : Env} {σ : St} (R1 : Rel X.K S1) (ev : EnvR X.K S1 env σ) (f : Feeds X.K S1 J ps) (p : PostS X.K ca W S1 D (forL t b F ps env S1.h)) :
    ∃ Wv : Nat → Nat → St → Hp → Prop, (∃ m, Wv 0 m σ S1.H) ∧ ∀ i m σ H, Wv i m σ H →
      (J.stop i H ∧ D.nx σ H) ∨ (J.go i H ∧ ∃ N : St → Hp → Prop, (∀ σ' H', N σ' H' → ∃ m', m' < m ∧ Wv (i + 1) m' σ' H') ∧ ∀ x H', J.yld i H x H' → tG X.K t x σ H' fun σ2 H2 => tS X.K ca W F b { D with nx := N, ct := N, bk := D.nx } σ2 H2) := by
  refine ⟨fun i m σ H => ∃ S2 env2, S2.H = H ∧ Ext S1 S2 ∧ Rel X.K S2 ∧ EnvR X.K S2 env2 σ ∧ m = ps.length - i ∧ i ≤ ps.length ∧ PostS X.K ca W S2 D (forL t b F (ps.drop i) env2 S2.h), ⟨ps.length, S1, env, rfl, Ext.refl _, R1, ev, rfl, Nat.zero_le _, p⟩, ?_⟩
  rintro i m σ H ⟨S2, env2, rfl, E2, R2, ev2, rfl, hi, p2⟩
  by_cases hlt : i < ps.length
  · refine .inr ⟨f.go S2 i E2.toExtW R2 hlt, fun σ' H' => ∃ S3 env3, S3.H = H' ∧ Ext S1 S3 ∧ Rel X.K S3 ∧ EnvR X.K S3 env3 σ' ∧ PostS X.K ca W S3 D (forL t b F (ps.drop (i + 1)) env3 S3.h), ?_, ?_⟩
    · rintro σ' H' ⟨S3, env3, e3, E3, R3, ev3, p3⟩
      exact ⟨ps.length - (i + 1), by omega, S3, env3, e3, E3, R3, ev3, rfl, hlt, p3⟩
    · intro x H' y
      obtain ⟨q, hq⟩ := lt_get hlt
      obtain ⟨S3, e3, h3, E3, R3, r3⟩ := f.yld S2 i x H' q E2.toExtW R2 hq y
      subst e3
      have ed : ps.drop i = q :: ps.drop (i + 1) := by
        rw [List.drop_eq_getElem_cons hlt]
        congr 1
        rw [List.getElem?_eq_getElem hlt] at hq
        exact Option.some.inj hq
      rw [ed, forL] at p2
      cases ep : t.put q env2 with
      | none => rw [ep] at p2; exact p2.elim
      | some env3 =>
        rw [ep] at p2
        simp only at p2
        refine ⟨S3, env2, env3, q, rfl, R3, ev2.mono E3.toExtW, r3, ep, fun σ2 ev3 _ => ⟨S3, env3, rfl, R3, ev3, ?_⟩⟩
        have p3 := PostS.ext E3 p2
        rw [h3]
        cases eb : b F env3 S2.h with
        | nx env4 g => rw [eb] at p3; exact fun S4 σ4 eh E4 R4 ev4 => by subst eh; exact ⟨S4, env4, rfl, (E2.trans E3).trans E4, R4, ev4, PostS.ext E4 p3⟩
        | ct env4 g => rw [eb] at p3; exact fun S4 σ4 eh E4 R4 ev4 => by subst eh; exact ⟨S4, env4, rfl, (E2.trans E3).trans E4, R4, ev4, PostS.ext E4 p3⟩
        | bk env4 g => rw [eb] at p3; exact p3
        | ret v g => rw [eb] at p3; exact p3
        | exc c g => rw [eb] at p3; exact p3
        | fail => rw [eb] at p3; exact p3
  · have e : i = ps.length := by omega
    subst e
    rw [List.drop_length, forL] at p2
    exact .inl ⟨f.stop S2 _ E2.toExtW R2 (Nat.le_refl _), p2.nx_here R2 ev2⟩
theorem ss_for {iter : Expr} {it : CI} {t : TP} {b : CS} {body : List Stmt} (hp : PassesOwn (model X.prog X.w) X.A X.env X.xe) (hc : X.calm = true) (hi : SI X ca F it tg iter) (hg : SG X t tg) (hb : SSs X ca F b body)
    (hs : ∀ x, foldedSetIterable iter X.env x = pure x) : SS X ca F (sFor it t b) (.For tg iter body [] pos) := fun W tk =>
  PS.imp (ps_for hp hc (hi W tk) hg (hb W tk) hs) fun D σ H ⟨S, env, eH, R, e, p⟩ => by
    subst eH
    refine ⟨S, env, rfl, R, e, ?_⟩
    unfold sFor at p
    cases q : it F env S.h with
    | ok ps g =>
      rw [q] at p
      simp only [sBind] at p
      exact fun S1 J eh E1 R1 f => by subst eh; exact for_core R1 (e.mono E1.toExtW) f (PostS.ext E1 p)
    | exc c g => rw [q] at p; exact fun S1 eh E1 R1 => p S1 σ eh E1 R1
    | fail => rw [q] at p; exact p
theorem ss_while {t : CB} {b : CS} {body : List Stmt} (hp : PassesOwn (model X.prog X.w) X.A X.env X.xe) (ht : ST X ca F t e) (hb : SSs X ca F b body) : SS X ca F (sWhile t b) (.While e body [] pos) := fun W tk =>
  PS.imp (ps_while hp (ht W tk) (hb W tk)) fun D σ H ⟨S, env, eH, R, ev, p⟩ => by
    subst eH
    refine ⟨fun m σ H => ∃ S2 env2, S2.H = H ∧ Rel X.K S2 ∧ EnvR X.K S2 env2 σ ∧ PostS X.K ca W S2 D (whileL t b F m env2 S2.h), ⟨whileFuel, S, env, rfl, R, ev, p⟩, ?_⟩
    rintro m σ H ⟨S2, env2, rfl, R2, ev2, p2⟩
    cases m with
    | zero => exact p2.elim
    | succ m =>
      rw [whileL] at p2
      refine ⟨S2, env2, rfl, R2, ev2, PostS.bindT p2 fun c S3 E3 R3 p3 => ?_⟩
      have ev3 := ev2.mono E3.toExtW
      cases c with
      | false =>
        rw [if_neg Bool.false_ne_true] at p3 ⊢
        exact p3.nx_here R3 ev3
      | true =>
        rw [if_pos rfl] at p3 ⊢
        refine ⟨fun σ' H' => ∃ S2 env2, S2.H = H' ∧ Rel X.K S2 ∧ EnvR X.K S2 env2 σ' ∧ PostS X.K ca W S2 D (whileL t b F m env2 S2.h), fun σ' H' n => ⟨m, Nat.lt_succ_self _, n⟩, S3, env2, rfl, R3, ev3, ?_⟩
        cases eb : b F env2 S3.h with
        | nx env4 g => rw [eb] at p3; exact fun S4 σ4 eh E4 R4 ev4 => by subst eh; exact ⟨S4, env4, rfl, R4, ev4, PostS.ext E4 p3⟩
        | ct env4 g => rw [eb] at p3; exact fun S4 σ4 eh E4 R4 ev4 => by subst eh; exact ⟨S4, env4, rfl, R4, ev4, PostS.ext E4 p3⟩
        | bk env4 g => rw [eb] at p3; exact p3
        | ret v g => rw [eb] at p3; exact p3
        | exc c g => rw [eb] at p3; exact p3
        | fail => rw [eb] at p3; exact p3
/-- a slot's list is frozen -/
theorem ss_frz {i : Nat} {c : CS} {sts : List Stmt} (h : SSs X ca F c sts) : SSs X ca F (sSeq (sFrz i) c) sts := fun W tk =>
  PSs.imp (h W tk) fun D σ H ⟨S, env, eH, R, e, p⟩ => by
    subst eH
    unfold sSeq sFrz at p
    cases q : env[i]? with
    | none => simp only [q] at p; exact p.elim
    | some o =>
      cases o with
      | none => simp only [q] at p; exact p.elim
      | some v =>
        simp only [q] at p
        cases q2 : freeze v S.h with
        | none => simp only [q2] at p; exact p.elim
        | some yh =>
          obtain ⟨y, h'⟩ := yh
          simp only [q2] at p
          obtain ⟨w, hw, r⟩ := e.2 i v q
          obtain ⟨S2, e2, eH, E2, R2, r2⟩ := freeze_ok v S w y h' R r q2
          subst e2
          refine ⟨S2, env.set i (some y), eH, R2, ?_, PostS.ext E2 p⟩
          have e3 := (e.mono E2.toExtW).set i r2
          have es : σ.set i (some w) = σ := by
            refine List.ext_getElem? fun j => ?_
            by_cases hj : i = j
            · subst hj
              rw [hw, List.getElem?_set_self (List.getElem?_eq_some_iff.mp hw).1]
            · rw [List.getElem?_set_ne hj]
          rwa [es] at e3

/-! ### comprehensions -/
theorem wipeE_length (env : Env) : ∀ vs : List Nat, (wipeE env vs).length = env.length
  | [] => rfl
  | v :: vs => by unfold wipeE; rw [List.length_set, wipeE_length env vs]
theorem wipeE_some {env : Env} {i : Nat} {x : PV} : ∀ {vs : List Nat}, (wipeE env vs)[i]? = some (some x) → env[i]? = some (some x) ∧ i ∉ vs
  | [], h => ⟨h, by simp⟩
  | v :: vs, h => by
    unfold wipeE at h
    by_cases hi : v = i
    · subst hi
      by_cases hv : v < (wipeE env vs).length
      · rw [List.getElem?_set_self hv] at h; cases h
      · rw [List.getElem?_eq_none (by simpa using hv)] at h; cases h
    · rw [List.getElem?_set_ne hi] at h
      obtain ⟨h1, h2⟩ := wipeE_some h
      exact ⟨h1, by simp only [List.mem_cons, not_or]; exact ⟨fun e => hi e.symm, h2⟩⟩
theorem EnvR.wipe {K : PySem.W.Frag} {S : GS} {env : Env} {σ : St} (h : EnvR K S env σ) (vs : List Nat) : EnvR K S (wipeE env vs) (L2.wipe σ vs) := by
  refine ⟨by rw [wipe_length, wipeE_length]; exact h.1, fun i x e => ?_⟩
  obtain ⟨e1, n1⟩ := wipeE_some e
  rw [wipe_out n1]
  exact h.2 i x e1
theorem wipe_in {σ : St} {i : Nat} : ∀ {vs : List Nat}, i ∈ vs → (L2.wipe σ vs)[i]? = if i < σ.length then some none else none
  | v :: vs, h => by
    unfold L2.wipe
    by_cases hi : v = i
    · subst hi
      by_cases hl : v < σ.length
      · rw [List.getElem?_set_self (by rw [wipe_length]; exact hl), if_pos hl]
      · rw [List.getElem?_eq_none (by rw [List.length_set, wipe_length]; exact Nat.le_of_not_lt hl), if_neg hl]
    · rw [List.getElem?_set_ne hi]
      have : i ∈ vs := by
        rcases List.mem_cons.mp h with z | z
        · exact absurd z.symm hi
        · exact z
      exact wipe_in this
theorem wipe_eq {σ σ2 : St} {vs : List Nat} (hl : σ2.length = σ.length) (h : ∀ j, j ∉ vs → σ2[j]? = (L2.wipe σ vs)[j]?) : L2.wipe σ2 vs = L2.wipe σ vs := by
  refine List.ext_getElem? fun j => ?_
  by_cases hj : j ∈ vs
  · rw [wipe_in hj, wipe_in hj, hl]
  · rw [wipe_out hj, h j hj]
mutual
theorem put_length : ∀ (t : TP) (x : PV) (env env' : Env), t.put x env = some env' → env'.length = env.length
  | .name i, x, env, env', h => by
    rw [TP.put] at h
    split at h
    · cases h; simp
    · cases h
  | .tup ts, x, env, env', h => by
    cases x <;> simp only [TP.put] at h <;> first | cases h | exact putL_len ts _ _ _ h
theorem putL_len : ∀ (ts : List TP) (xs : List PV) (env env' : Env), TP.putL ts xs env = some env' → env'.length = env.length
  | [], xs, env, env', h => by
    cases xs <;> simp only [TP.putL] at h <;> cases h
    rfl
  | t :: ts, [], env, env', h => by simp only [TP.putL] at h; cases h
  | t :: ts, x :: xs, env, env', h => by
    simp only [TP.putL] at h
    split at h
    · rename_i e1 h1
      rw [putL_len ts _ _ _ h, put_length t _ _ _ h1]
    · cases h
end
def W0 : WX := fun _ _ _ _ => False
/-- the block's list is reserved -/
theorem reserve {K : PySem.W.Frag} {S : GS} {D : Addr} (R : Rel K S) (hD : S.H D = none) :
    ExtW S ⟨S.ρ, S.h, upd S.H D (.lst []), D :: S.rv⟩ ∧ Rel K ⟨S.ρ, S.h, upd S.H D (.lst []), D :: S.rv⟩ := by
  have ne : ∀ a u, S.H a = some u → a ≠ D := fun a u e z => by subst z; rw [hD] at e; cases e
  have W : ExtW S ⟨S.ρ, S.h, upd S.H D (.lst []), D :: S.rv⟩ := ⟨fun _ _ h => h, fun a u e l _ => ⟨by show upd S.H D _ a = _; rw [upd_ne (ne a u e)]; exact e, fun z => by
    rcases z with z | z
    · exact l (.inl z)
    · rcases List.mem_cons.mp z with z | z
      · exact ne a u e z
      · exact l (.inr z)⟩⟩
  refine ⟨W, R.tabs.ext fun b u e => by show upd S.H D _ b = _; rw [upd_ne (ne b u e)]; exact e, R.len, R.nd, fun a ha => ?_, fun a ha => ?_, fun n a q h1 h2 => ?_⟩
  · obtain ⟨u, e, nt⟩ := R.trk a ha
    exact ⟨u, by show upd S.H D _ a = _; rw [upd_ne (ne a u e)]; exact e, nt⟩
  · rcases List.mem_cons.mp ha with z | z
    · subst z
      refine ⟨fun hm => ?_, [], upd_same⟩
      obtain ⟨u, e, _⟩ := R.trk a hm
      exact ne a u e rfl
    · obtain ⟨h1, xs, e⟩ := R.rsv a z
      exact ⟨h1, xs, by show upd S.H D _ a = _; rw [upd_ne (ne a _ e)]; exact e⟩
  · obtain ⟨u, e, _⟩ := R.trk a (List.mem_of_getElem? h1)
    exact RepO.mono W (show upd S.H D _ a = _ from upd_ne (ne a u e)) (R.obj n a q h1 h2)
/-- .. filled .. -/
theorem refill {K : PySem.W.Frag} {S : GS} {D : Addr} {vs : List V} (R : Rel K S) (hD : D ∈ S.rv) :
    ExtW S { S with H := upd S.H D (.lst vs) } ∧ Rel K { S with H := upd S.H D (.lst vs) } := by
  have nD := (R.rsv D hD).1
  have W : ExtW S { S with H := upd S.H D (.lst vs) } := ⟨fun _ _ h => h, fun a u e l _ => ⟨by
    have : a ≠ D := fun z => by subst z; exact l (.inr hD)
    show upd S.H D _ a = _
    rw [upd_ne this]; exact e, fun z => l z⟩⟩
  refine ⟨W, ?_, R.len, R.nd, fun a ha => ?_, fun a ha => ?_, fun n a q h1 h2 => ?_⟩
  · obtain ⟨_, xs, e⟩ := R.rsv D hD
    exact tabs_wr R.tabs e (fun _ z => by cases z) (fun _ z => by cases z)
  · obtain ⟨u, e, nt⟩ := R.trk a ha
    exact ⟨u, by show upd S.H D _ a = _; rw [upd_ne (fun z => nD (by rw [← z]; exact ha))]; exact e, nt⟩
  · obtain ⟨h1, xs, e⟩ := R.rsv a ha
    by_cases z : a = D
    · subst z; exact ⟨h1, vs, upd_same⟩
    · exact ⟨h1, xs, by show upd S.H D _ a = _; rw [upd_ne z]; exact e⟩
  · have z : a ≠ D := fun z => nD (by rw [← z]; exact List.mem_of_getElem? h1)
    exact RepO.mono W (show upd S.H D _ a = _ from upd_ne z) (R.obj n a q h1 h2)
/-- .. and given out -/
theorem unreserve {K : PySem.W.Frag} {S1 S2 : GS} {D : Addr} {vs : List V} {xs : List PV} (hD1 : S1.H D = none) (R1 : Rel K S1) (E : ExtW S1 S2) (R : Rel K S2) (hr : S2.rv = D :: S1.rv) (hk : ∀ a ∈ S1.rv, S2.H a = S1.H a) (hD : S2.H D = some (.lst vs)) (rl : RepL K S2 xs vs) :
    Ext S1 { S2 with rv := S1.rv } ∧ Rel K { S2 with rv := S1.rv } ∧ RepV K { S2 with rv := S1.rv } (.lst xs) (.ref D) := by
  have sub : ∀ a, Live { S2 with rv := S1.rv } a → Live S2 a := fun a z => by
    rcases z with z | z
    · exact .inl z
    · exact .inr (by rw [hr]; exact List.mem_cons_of_mem _ z)
  have W : ExtW S2 { S2 with rv := S1.rv } := ⟨fun _ _ h => h, fun a u e l _ => ⟨e, fun z => l (sub a z)⟩⟩
  refine ⟨⟨E.trans W, rfl, hk⟩, ⟨R.tabs, R.len, R.nd, R.trk, fun a ha => R.rsv a (by rw [hr]; exact List.mem_cons_of_mem _ ha), fun n a q h1 h2 => RepO.mono W rfl (R.obj n a q h1 h2)⟩, ?_⟩
  rw [RepV]
  refine ⟨D, vs, rfl, fun z => ?_, hD, rl.mono W xs vs⟩
  rcases z with ⟨n, o, h1, _, _⟩ | z
  · exact (R.rsv D (by rw [hr]; exact List.mem_cons_self)).1 (List.mem_of_getElem? h1)
  · obtain ⟨_, ys, e⟩ := R1.rsv D z
    rw [hD1] at e; cases e
theorem comp_core {W : WX} {t : TP} {tc : CB} {te : CE} {J : It} {ps : List PV} {S1 : GS} {env : Env} {σ : St} {Q : VK} {own : List Nat} (hsl : ∀ j ∈ t.slots, j ∈ own) (R1 : Rel X.K S1) (ev : EnvR X.K S1 env σ) (f : Feeds X.K S1 J ps)
    (p : PostE X.K ca W S1 σ Q (compL t tc te F (wipeE env own) ps [] S1.h)) (D : Addr) (hD : S1.H D = none) :
    ∃ Wv : Nat → Nat → Hp → Prop, (∃ m, Wv 0 m (upd S1.H D (.lst []))) ∧ ∀ i m H, Wv i m H →
      (J.stop i H ∧ Q (.ref D) H) ∨ (J.go i H ∧ ∃ Nx : Hp → Prop, (∀ H', Nx H' → ∃ m', m' < m ∧ Wv (i + 1) m' H') ∧ ∀ x H', J.yld i H x H' → tG X.K t x (L2.wipe σ own) H' fun σ2 H2 => L2.wipe σ2 own = L2.wipe σ own ∧ tT X.K ca W0 F tc σ2 H2 fun b H3 =>
        if b = true then tE X.K ca W0 F te σ2 H3 fun y H4 => ∃ acc, H4 D = some (.lst acc) ∧ acc.length < sizeLine ∧ Nx (upd H4 D (.lst (acc ++ [y]))) else Nx H3) := by
  let Wv : Nat → Nat → Hp → Prop := fun i m H => ∃ S2 acc vs, S2.H = H ∧ ExtW S1 S2 ∧ S2.rv = D :: S1.rv ∧ (∀ a ∈ S1.rv, S2.H a = S1.H a) ∧ Rel X.K S2 ∧ S2.H D = some (.lst vs) ∧ RepL X.K S2 acc vs ∧ i ≤ ps.length ∧ m = ps.length - i ∧
    PostE X.K ca W S1 σ Q (compL t tc te F (wipeE env own) (ps.drop i) acc S2.h)
  refine ⟨Wv, ⟨ps.length, ?_⟩, ?_⟩
  · obtain ⟨E0, R0⟩ := reserve R1 hD
    refine ⟨_, [], [], rfl, E0, rfl, fun a ha => ?_, R0, upd_same, repL_nil, Nat.zero_le _, rfl, p⟩
    obtain ⟨_, xs, e⟩ := R1.rsv a ha
    exact upd_ne fun z => by subst z; rw [hD] at e; cases e
  rintro i m H ⟨S2, acc, vs, rfl, E2, hr, hk, R2, hD2, rl, hi, rfl, p2⟩
  by_cases hlt : i < ps.length
  · refine .inr ⟨f.go S2 i E2 R2 hlt, Wv (i + 1) (ps.length - (i + 1)), fun H' w => ⟨ps.length - (i + 1), by omega, w⟩, fun x H' y => ?_⟩
    obtain ⟨q, hq⟩ := lt_get hlt
    obtain ⟨S3, e3, h3, E3, R3, r3⟩ := f.yld S2 i x H' q E2 R2 hq y
    subst e3
    have ed : ps.drop i = q :: ps.drop (i + 1) := by
      rw [List.drop_eq_getElem_cons hlt]
      congr 1
      rw [List.getElem?_eq_getElem hlt] at hq
      exact Option.some.inj hq
    rw [ed, compL] at p2
    cases ep : t.put q (wipeE env own) with
    | none => rw [ep] at p2; exact p2.elim
    | some env1 =>
      rw [ep] at p2
      simp only at p2
      have ev3 : EnvR X.K S3 (wipeE env own) (L2.wipe σ own) := ((ev.mono E2).mono E3.toExtW).wipe own
      refine ⟨S3, wipeE env own, env1, q, rfl, R3, ev3, r3, ep, fun σ2 e2 ag => ⟨wipe_eq ?_ fun j hj => ag j fun z => hj (hsl j z), S3, env1, rfl, R3, e2, ?_⟩⟩
      · rw [e2.1, put_length t q _ _ ep, wipeE_length, ev.1]
      rw [h3]
      -- what each turn's end owes
      have fin : ∀ (S4 : GS), Ext S3 S4 → Rel X.K S4 → ∀ vs' acc', PostE X.K ca W S1 σ Q (compL t tc te F (wipeE env own) (ps.drop (i + 1)) acc' S4.h) → RepL X.K S4 acc' vs' → S4.H D = some (.lst vs') → Wv (i + 1) (ps.length - (i + 1)) S4.H := fun S4 E4 R4 vs' acc' p4 rl4 hd4 => by
        refine ⟨S4, acc', vs', rfl, (E2.trans E3.toExtW).trans E4.toExtW, by rw [E4.rv, E3.rv, hr], fun a ha => ?_, R4, hd4, rl4, hlt, rfl, p4⟩
        have m2 : a ∈ S2.rv := by rw [hr]; exact List.mem_cons_of_mem _ ha
        rw [(E3.trans E4).rvk a m2, hk a ha]
      have dD : D ∈ S2.rv := by rw [hr]; exact List.mem_cons_self
      cases eb : tc F env1 S2.h with
      | fail => rw [eb] at p2; exact p2.elim
      | exc c g => rw [eb] at p2; exact p2.elim
      | ok b g =>
        rw [eb] at p2
        intro S4 eg E4 R4
        subst eg
        cases b with
        | false =>
          rw [if_neg Bool.false_ne_true]
          simp only at p2
          exact fin S4 E4 R4 vs acc p2 ((rl.mono E3.toExtW acc vs).mono E4.toExtW acc vs) (by rw [(E3.trans E4).rvk D dD]; exact hD2)
        | true =>
          rw [if_pos rfl]
          simp only at p2
          refine ⟨S4, env1, rfl, R4, e2.mono E4.toExtW, ?_⟩
          cases ee : te F env1 S4.h with
          | fail => rw [ee] at p2; exact p2.elim
          | exc c g => rw [ee] at p2; exact p2.elim
          | ok z g =>
            rw [ee] at p2
            simp only at p2
            intro S5 zv eg E5 R5 r5
            subst eg
            split at p2
            · rename_i hz
              have E35 := (E3.trans E4).trans E5
              have d5 : S5.H D = some (.lst vs) := by rw [E35.rvk D dD]; exact hD2
              have m5 : D ∈ S5.rv := by rw [E35.rv]; exact dD
              have rl5 : RepL X.K S5 acc vs := rl.mono E35.toExtW acc vs
              refine ⟨vs, d5, by rw [rl.length, sizeLine_eq]; exact of_decide_eq_true hz, ?_⟩
              obtain ⟨E6, R6⟩ := refill (vs := vs ++ [zv]) R5 m5
              refine ⟨{ S5 with H := upd S5.H D (.lst (vs ++ [zv])) }, acc ++ [z], vs ++ [zv], rfl, (E2.trans E35.toExtW).trans E6, by show S5.rv = _; rw [E35.rv, hr], fun a ha => ?_, R6, upd_same, (rl5.append (repL_cons r5 repL_nil)).mono E6 _ _, hlt, rfl, p2⟩
              have m2 : a ∈ S2.rv := by rw [hr]; exact List.mem_cons_of_mem _ ha
              have ne : a ≠ D := fun z => by
                subst z
                obtain ⟨_, ys, e⟩ := R1.rsv a ha
                rw [hD] at e; cases e
              show upd S5.H D _ a = _
              rw [upd_ne ne, E35.rvk a m2, hk a ha]
            · exact p2.elim
  · have e : i = ps.length := by omega
    subst e
    rw [List.drop_length, compL] at p2
    obtain ⟨E4, R4, r4⟩ := unreserve hD R1 E2 R2 hr hk hD2 rl
    exact .inl ⟨f.stop S2 _ E2 R2 (Nat.le_refl _), p2 { S2 with rv := S1.rv } (.ref D) rfl E4 R4 r4⟩
def STs (X : Cx) (ca : CA) (F : FEnv) (c : CB) (ifs : List Expr) : Prop := PTs X ifs (tT X.K ca W0 F c)
theorem sts_nil : STs X ca F tYes [] := ⟨fun pins s σ H Q I ⟨S, env, eH, R, e, p⟩ => pts_nil.run pins s σ H Q I (by subst eH; exact p S rfl (Ext.refl _) R)⟩
theorem sts_one {c : Expr} {t : CB} (h : PT X c (tT X.K ca W0 F t)) : STs X ca F t [c] := pts_one h
theorem comp_imp {W : WX} {it : CI} {t : TP} {tc : CB} {te : CE} {own : List Nat} (hsl : ∀ j ∈ t.slots, j ∈ own) {σ : St} {H : Hp} {Q : VK} (h : tE X.K ca W F (cComp own it t tc te) σ H Q) :
    tLc (tI X.K ca W F it) (tG X.K t) (tT X.K ca W0 F tc) (tE X.K ca W0 F te) own σ H Q := by
  obtain ⟨S, env, eH, R, e, p⟩ := h
  subst eH
  refine ⟨S, env, rfl, R, e, ?_⟩
  unfold cComp at p
  cases q : it F env S.h with
  | ok ps g =>
    rw [q] at p
    simp only [Res.bind] at p
    exact fun S1 J eh E1 R1 f => by subst eh; exact fun D hD => comp_core hsl R1 (e.mono E1.toExtW) f (PostE.ext E1 p) D hD
  | exc c g => rw [q] at p; exact p
  | fail => rw [q] at p; exact p
theorem se_comp {elt iter : Expr} {ifs : List Expr} {scope : Scope} {own : List (Str × Nat)} {it : CI} {t : TP} {tc : CB} {te : CE} (hc : X.calm = true) (hN : X.N.Nodup) (hi : SI X ca F it tg iter) (ok : BlkOk X.N X.env.scope scope own) (hsl : ∀ j ∈ t.slots, j ∈ own.map (·.2))
    (hg : ∀ (s : Shared) (H : Hp) (C : Addr) (cl : List (Str × Addr)) (fp : List Addr), SG (X.blk s H scope (compEnvC scope cl C X.env) fp) t tg) (ht : ∀ (s : Shared) (H : Hp) (C : Addr) (cl : List (Str × Addr)) (fp : List Addr), STs (X.blk s H scope (compEnvC scope cl C X.env) fp) ca F tc ifs)
    (he : ∀ (s : Shared) (H : Hp) (C : Addr) (cl : List (Str × Addr)) (fp : List Addr), PE (X.blk s H scope (compEnvC scope cl C X.env) fp) elt (tE X.K ca W0 F te)) (hs : ∀ x, foldedSetIterable iter X.env x = pure x) :
    SE X ca F (cComp (own.map (·.2)) it t tc te) (.ListComp elt [⟨tg, iter, ifs, 0⟩] scope pos) := fun W tk =>
  PE.imp (pe_lc (g := tG X.K t) (tt := tT X.K ca W0 F tc) hc hN (hi W tk) ok hg ht he hs) fun σ H Q h => comp_imp hsl h
theorem ss_setC {i : Nat} {y : Str} {py spos : Pos} {elt iter : Expr} {ifs : List Expr} {scope : Scope} {own : List (Str × Nat)} {it : CI} {t : TP} {tc : CB} {te : CE} (hc : X.calm = true) (hN : X.N.Nodup) (hy : X.N[i]? = some y) (hyl : X.env.scope.names.lookup y = some .local)
    (hsw : swapsWith (.ListComp elt [⟨tg, iter, ifs, 0⟩] scope pos) (some (.Name y py)) spos.line X.env = pure true) (hi : SI X ca F it tg iter) (ok : BlkOk X.N X.env.scope scope own) (hsl : ∀ j ∈ t.slots, j ∈ own.map (·.2))
    (hg : ∀ (s : Shared) (H : Hp) (C : Addr) (cl : List (Str × Addr)) (fp : List Addr), SG (X.blk s H scope (compEnvC scope cl C X.env) fp) t tg) (ht : ∀ (s : Shared) (H : Hp) (C : Addr) (cl : List (Str × Addr)) (fp : List Addr), STs (X.blk s H scope (compEnvC scope cl C X.env) fp) ca F tc ifs)
    (he : ∀ (s : Shared) (H : Hp) (C : Addr) (cl : List (Str × Addr)) (fp : List Addr), PE (X.blk s H scope (compEnvC scope cl C X.env) fp) elt (tE X.K ca W0 F te)) (hs : ∀ x, foldedSetIterable iter X.env x = pure x) :
    SS X ca F (sTgt (.name i) (cComp (own.map (·.2)) it t tc te)) (.Assign [.Name y py] (.ListComp elt [⟨tg, iter, ifs, 0⟩] scope pos) spos) := fun W tk =>
  PS.imp (ps_setLc (g := tG X.K t) (tt := tT X.K ca W0 F tc) hc hN hy hyl hsw (hi W tk) ok hg ht he hs) fun D σ H ⟨S, env, eH, R, e, p⟩ => by
    subst eH
    refine comp_imp (W := W) hsl ⟨S, env, rfl, R, e, PostS.bindE p fun y S1 z E1 R1 r1 p1 => ?_⟩
    obtain ⟨S', env0, env', y', eH, R', e', r', ep, k⟩ := tgt_end (t := .name i) R1 (e.mono E1.toExtW) r1 p1
    rw [TP.put] at ep
    split at ep
    · cases ep
      refine k _ (e'.set i r') fun j hj => ?_
      rw [TP.slots] at hj
      exact List.getElem?_set_ne (fun z => hj (by simp [z]))
    · cases ep
end
end G
end
section
set_option Elab.async false
set_option linter.all false
set_option maxRecDepth 100000
/-! GSetT: the set of a tuple of int tuples (the library's road for lists, turned). -/
namespace G
open PySem PySem.Spec PyProof.Rows L2
theorem sub_tuple_set : isSubtype (.type "tuple") (.type "set") = pure false := by rw [isSubtype_type]; kernel_rfl
theorem sub_tuple_frozenset : isSubtype (.type "tuple") (.type "frozenset") = pure false := by rw [isSubtype_type]; kernel_rfl
section
variable {P : Program} {w : World} {A : Around} {E : Value → Shared → Prop} {s : Shared}
set_option maxHeartbeats 3200000 in
theorem call_set_tupT {l : Addr} {items : Array Value} (ks : List (Addr × List Int)) {Q : Value → Shared → Prop} (hh : A.handled = none) (hl : s.heap.IsTuple l items) (hit : items.toList = ks.map fun p => Value.ref p.1)
    (hk : ∀ p ∈ ks, IsT P w s.heap p.2 p.1) (hfew : ks.length < 64) (hu : A.units + 3 < cLine)
    (h : ∀ (h' : Heap) (tk : Nat) L es ep t, SetTR P w h' s.heap.objs.size L es ep t → Got ks ks.length L → (∀ b o, s.heap.get? b = some o → h'.get? b = some o) → Q (.ref s.heap.objs.size) { s with heap := h', toks := tk }) :
    wpAny (model P w) A (call (.type "set") [.ref l]) Q E s := by
  have hisz : items.size = ks.length := by
    have q := congrArg List.length hit
    rw [Array.length_toList, List.length_map] at q
    exact q
  obtain ⟨c, tl, hmro⟩ := F.called_set.mro
  have hmade := F.called_set.made
  have hsub := F.called_set.sub
  refine wpAny_call (codeAny_of_tree ?_)
  show wpAny _ _ (callAny (.type "set") _) _ _ _
  refine wpAny_pure ⟨Code.quiet_builtin _ (by decide +kernel), codeAny_builtin F.entry_type_call ?_⟩
  rw [Around.under_plain (weight_type_call_type "set" [.ref l] []) rfl]
  have h1 := F.called_set.notType
  have h2 := F.called_set.canCreate
  have hct := F.typeCall_set_1 (.ref l)
  repeat (any_goals (first | assumption | wp_step))

  refine codeAny_mono (code_set_led1 (.ref l) (E := E) (Q₁ := fun obj s₁ => obj = .ref s.heap.objs.size ∧ s₁ = { s with heap := s.heap.push { cls := .type "set", dict := none, data := .set #[] 0 (.fresh 0 0 (!w.params.followText "set-order")) } }) ⟨rfl, rfl⟩) fun r s₁ hr => ?_
  cases r with
  | error e => exact hr
  | ok fl =>
    cases fl with
    | ret obj =>
      obtain ⟨rfl, rfl⟩ := hr
      have hS : (s.heap.push { cls := .type "set", dict := none, data := .set #[] 0 (.fresh 0 0 (!w.params.followText "set-order")) }).get? s.heap.objs.size = some { cls := .type "set", dict := none, data := .set #[] 0 (.fresh 0 0 (!w.params.followText "set-order")) } := Heap.get?_push_size _ rfl
      have hT : Shared.TypeIs { s with heap := s.heap.push { cls := .type "set", dict := none, data := .set #[] 0 (.fresh 0 0 (!w.params.followText "set-order")) } } (.ref s.heap.objs.size) "set" := ⟨_, hS, rfl⟩
      have hli := F.called_set.init.lookup
      have hbi := F.called_set.init.bind (.ref s.heap.objs.size)
      repeat (any_goals (first | assumption | wp_step))

      refine codeAny_mono (codeAny_call_builtin (R := wants (fun r s₂ => r = .none ∧ ∃ h' tk L es ep t, s₂ = { s with heap := h', toks := tk } ∧ SetTR P w h' s.heap.objs.size L es ep t ∧ Got ks ks.length L ∧
          (∀ b o, s.heap.get? b = some o → h'.get? b = some o)) E) F.called_set.init.plain F.entry_set_init (check_set_init_1 hT ?_)) fun r₂ s₂ hr₂ => ?_
      · obtain ⟨ol, hol, hcl, nl, hdl⟩ := hl
        obtain ⟨ocls, odict, odata, oslots⟩ := ol
        simp only at hcl hdl
        subst hcl; subst hdl
        have hol' : (s.heap.push { cls := .type "set", dict := none, data := .set #[] 0 (.fresh 0 0 (!w.params.followText "set-order")) }).get? l = some { cls := .type "tuple", dict := odict, data := .seq items nl, slots := oslots } := Heap.get?_push_of_some _ hol
        have hsls := sub_tuple_set
        have hslf := sub_tuple_frozenset
        have hne : (Value.type "tuple" == Value.type "dict") = false := by decide
        have hl1 : (s.heap.push { cls := .type "set", dict := none, data := .set #[] 0 (.fresh 0 0 (!w.params.followText "set-order")) }).IsTuple l items := ⟨_, hol', rfl, nl, rfl⟩
        unfold Builtin.«set.__init__» noKeywords Builtin.Frozenset.updateFrom
        generalize hPI : pyIter = PI
        wp_walk
        subst hPI

        refine wpAny_pyIter_tuple hl1 ?_
        refine wpAny_bind (wpAny_runValue ?_)
        have hlS : l < s.heap.objs.size := Heap.lt_size hol
        have hh3 : A.in1.in1.in1.handled = none := by simp [hh]
        have hz1 : (s.heap.push { cls := .type "set", dict := none, data := .set #[] 0 (.fresh 0 0 (!w.params.followText "set-order")) }).objs.size = s.heap.objs.size + 1 := Heap.size_push ..
        have hneI : l ≠ (s.heap.push { cls := .type "set", dict := none, data := .set #[] 0 (.fresh 0 0 (!w.params.followText "set-order")) }).objs.size := by
          rw [Heap.size_push]; exact Nat.ne_of_lt (Nat.lt_succ_of_lt hlS)
        have hSf : s.heap.objs.size ∉ [(s.heap.push { cls := .type "set", dict := none, data := .set #[] 0 (.fresh 0 0 (!w.params.followText "set-order")) }).objs.size, l] := by
          rw [Heap.size_push]; simp only [List.mem_cons, List.mem_singleton, List.not_mem_nil, or_false, not_or]
          exact ⟨Nat.ne_of_lt (Nat.lt_succ_self _), Nat.ne_of_gt hlS⟩
        have hval : ∀ (i : Nat) (v : Value), items[i]? = some v → ∃ p, ks[i]? = some p ∧ v = .ref p.1 := fun i v hv => by
          have q : items.toList[i]? = some v := by rw [Array.getElem?_toList]; exact hv
          rw [hit, List.getElem?_map] at q
          cases hq : ks[i]? with
          | none => rw [hq] at q; cases q
          | some p =>
            rw [hq] at q
            exact ⟨p, rfl, (Option.some.inj q).symm⟩
        have none_of : ∀ b, s.heap.objs.size ≤ b → s.heap.get? b = none := fun b hb => by
          cases q : s.heap.get? b with
          | none => rfl
          | some o => exact absurd (Nat.lt_of_lt_of_le (Heap.lt_size q) hb) (Nat.lt_irrefl _)
        refine set_update_tups ((Walks.tuple hh3 _ l hneI items).toS) s.heap.objs.size
          hSf ks hisz hfew hval s.heap hk (none_of _ (Nat.le_refl _)) (fun b hb => none_of b (by
            rw [List.mem_singleton.mp hb, Heap.size_push]
            exact Nat.le_succ _)) hu (items.size - 0) 0 _ (by omega) (Nat.zero_le _)
          ⟨⟨_, Heap.get?_push_size _ rfl, rfl, rfl⟩, (hl1.push _)⟩ (fun b o e => Heap.get?_push_of_some _ (Heap.get?_push_of_some _ e)) ?hS0 ?hR
        case hS0 =>
          have hget : ((s.heap.push { cls := .type "set", dict := none, data := .set #[] 0 (.fresh 0 0 (!w.params.followText "set-order")) }).push { cls := .type "tuple_iterator", data := .fields #[.ref l, .int 0 0] }).get? s.heap.objs.size
              = some { cls := .type "set", dict := none, data := .set #[] 0 (.fresh 0 0 (!w.params.followText "set-order")) } := Heap.get?_push_of_some _ hS
          exact ⟨[], #[], 0, _, setTR_fresh hget, Got.zero ks⟩
        case hR =>
          intro s' L es ep t hm hS' g' hkp
          obtain ⟨h', g2, d', tk', os'⟩ := s'
          have eg : g2 = s.gens := hm.gens
          have ed : d' = s.drawn := hm.drawn
          have eo : os' = s.os := hm.os
          subst eg; subst ed; subst eo
          show wpAny _ _ _ _ _ _
          refine wpAny_pure ?_
          show wpAny _ _ (ret Value.none) _ _ _
          rw [hisz] at g'
          exact wpAny_pure ⟨rfl, h', tk', L, es, ep, t, rfl, hS', g', hkp⟩

      · cases r₂ with
        | error e => exact hr₂
        | ok fl₂ =>
          cases fl₂ with
          | ret r =>
            obtain ⟨rfl, h', tk, L, es, ep, t, rfl, hS', g', hk'⟩ := hr₂
            repeat (any_goals (first | assumption | wp_step))
            exact h _ _ _ _ _ _ hS' g' hk'
          | _ => exact hr₂.elim
    | _ => exact hr.elim
end
end G
end
section
set_option Elab.async false
set_option linter.all false
set_option maxRecDepth 100000
/-! GSet: sorted(set(..)) of int tuples, len(set(..)) of ints. -/
namespace G
open PySem PySem.Spec PyProof.Rows L2

/-! ### the order of int tuples -/
def tupI (k : List Int) : PV := .tup (k.map .int)
theorem code_bd {B : Int} : ∀ {a : List Int}, TS.Bd B a → 0 ≤ TS.code B a ∧ TS.code B a < B ^ a.length
  | [], _ => by simp [TS.code]
  | d :: r, h => by
    obtain ⟨d0, d1⟩ := h.head
    obtain ⟨c0, c1⟩ := code_bd h.tail
    have := TS.num1 c0 c1 d0 d1
    rw [TS.code, List.length_cons, Int.pow_succ]
    exact this
theorem code_step {B d e : Int} {a b : List Int} (hl : a.length = b.length) (ha : TS.Bd B a) (hb : TS.Bd B b) (h : d < e) : TS.code B (d :: a) < TS.code B (e :: b) := by
  obtain ⟨a0, a1⟩ := code_bd ha
  obtain ⟨b0, b1⟩ := code_bd hb
  rw [TS.code, TS.code, hl]
  rw [hl] at a1
  have p0 : 0 ≤ B ^ b.length := by omega
  have : (d + 1) * B ^ b.length ≤ e * B ^ b.length := Int.mul_le_mul_of_nonneg_right (by omega) p0
  rw [Int.add_mul, Int.one_mul] at this
  omega
theorem pyEq_int (i j : Int) : pyEq (.int i) (.int j) = (i == j) := by rw [pyEq]
theorem pyEqL_ints : ∀ a b : List Int, pyEqL (a.map .int) (b.map .int) = decide (a = b)
  | [], [] => by simp [pyEqL]
  | [], b :: bs => by simp [pyEqL]
  | a :: as, [] => by simp [pyEqL]
  | a :: as, b :: bs => by
    rw [List.map_cons, List.map_cons, pyEqL, pyEq_int, pyEqL_ints]
    by_cases h : a = b <;> by_cases h2 : as = bs <;> simp [h, h2]
theorem pyEq_tupI (a b : List Int) : pyEq (tupI a) (tupI b) = decide (a = b) := by
  unfold tupI
  rw [pyEq, pyEqL_ints]
theorem lt_code {B : Int} : ∀ {a b : List Int}, a.length = b.length → TS.Bd B a → TS.Bd B b → pyLtL (a.map .int) (b.map .int) = decide (TS.code B a < TS.code B b)
  | [], [], _, _, _ => by simp [pyLtL, TS.code]
  | [], _ :: _, h, _, _ => by simp at h
  | _ :: _, [], h, _, _ => by simp at h
  | d :: a, e :: b, h, ha, hb => by
    have hl : a.length = b.length := by simpa using h
    rw [List.map_cons, List.map_cons, pyLtL, pyEq_int, lt_code hl ha.tail hb.tail]
    by_cases q : d = e
    · subst q
      rw [if_pos (by simp), TS.code, TS.code, hl]
      congr 1
      apply propext
      constructor <;> intro z <;> omega
    · rw [if_neg (by simpa using q), pyLt]
      by_cases q2 : d < e
      · have := code_step hl ha.tail hb.tail q2
        simp [q2, this]
      · have q3 : e < d := by omega
        have := code_step hl.symm hb.tail ha.tail q3
        have n : ¬ TS.code B (d :: a) < TS.code B (e :: b) := by omega
        simp [q2, n]
theorem code_inj {B : Int} : ∀ {a b : List Int}, a.length = b.length → TS.Bd B a → TS.Bd B b → TS.code B a = TS.code B b → a = b
  | [], [], _, _, _, _ => rfl
  | [], _ :: _, h, _, _, _ => by simp at h
  | _ :: _, [], h, _, _, _ => by simp at h
  | d :: a, e :: b, h, ha, hb, hc => by
    have hl : a.length = b.length := by simpa using h
    by_cases q : d = e
    · subst q
      have : TS.code B a = TS.code B b := by
        rw [TS.code, TS.code, hl] at hc
        omega
      rw [code_inj hl ha.tail hb.tail this]
    · exfalso
      by_cases q2 : d < e
      · have := code_step hl ha.tail hb.tail q2
        omega
      · have := code_step hl.symm hb.tail ha.tail (show e < d by omega)
        omega
theorem pyLt_tupI {B : Int} {a b : List Int} (h : a.length = b.length) (ha : TS.Bd B a) (hb : TS.Bd B b) : pyLt (tupI a) (tupI b) = decide (TS.code B a < TS.code B b) := by
  unfold tupI
  rw [pyLt, lt_code h ha hb]
/-- sorted by the code -/
def insC (B : Int) (x : List Int) : List (List Int) → List (List Int)
  | [] => [x]
  | y :: ys => if TS.code B y < TS.code B x then y :: insC B x ys else x :: y :: ys
def sortC (B : Int) : List (List Int) → List (List Int)
  | [] => []
  | x :: xs => insC B x (sortC B xs)
theorem insC_perm {B : Int} {x : List Int} : ∀ ys : List (List Int), (insC B x ys).Perm (x :: ys)
  | [] => .refl _
  | y :: ys => by
    unfold insC
    split
    · exact ((insC_perm ys).cons y).trans (.swap x y ys)
    · exact .refl _
theorem sortC_perm {B : Int} : ∀ ys : List (List Int), (sortC B ys).Perm ys
  | [] => .refl _
  | y :: ys => (insC_perm _).trans ((sortC_perm ys).cons y)
theorem insC_sorted {B : Int} {x : List Int} : ∀ {ys : List (List Int)}, ys.Pairwise (fun a b => TS.code B a ≤ TS.code B b) → (insC B x ys).Pairwise (fun a b => TS.code B a ≤ TS.code B b)
  | [], _ => by simp [insC]
  | y :: ys, h => by
    obtain ⟨h1, h2⟩ := List.pairwise_cons.mp h
    unfold insC
    split
    · rename_i q
      refine List.pairwise_cons.mpr ⟨fun z hz => ?_, insC_sorted h2⟩
      rcases List.mem_cons.mp ((insC_perm ys).mem_iff.mp hz) with z' | z'
      · rw [z']; omega
      · exact h1 z z'
    · rename_i q
      refine List.pairwise_cons.mpr ⟨fun z hz => ?_, h⟩
      rcases List.mem_cons.mp hz with z' | z'
      · rw [z']; omega
      · have := h1 z z'
        omega
theorem sortC_sorted {B : Int} : ∀ ys : List (List Int), (sortC B ys).Pairwise (fun a b => TS.code B a ≤ TS.code B b)
  | [] => .nil
  | y :: ys => insC_sorted (sortC_sorted ys)
def Even1 (B : Int) (d : Nat) (xs : List (List Int)) : Prop := ∀ x ∈ xs, x.length = d ∧ TS.Bd B x
theorem insB_map {B : Int} {d : Nat} {x : List Int} : ∀ {ys : List (List Int)}, Even1 B d (x :: ys) → insB (tupI x) (ys.map tupI) = (insC B x ys).map tupI
  | [], _ => rfl
  | y :: ys, h => by
    obtain ⟨x1, x2⟩ := h x List.mem_cons_self
    obtain ⟨y1, y2⟩ := h y (List.mem_cons_of_mem _ List.mem_cons_self)
    have hh : Even1 B d (x :: ys) := fun z hz => by
      rcases List.mem_cons.mp hz with z' | z'
      · rw [z']; exact ⟨x1, x2⟩
      · exact h z (List.mem_cons_of_mem _ (List.mem_cons_of_mem _ z'))
    rw [List.map_cons, insB, insC, pyLt_tupI (y1.trans x1.symm) y2 x2]
    by_cases q : TS.code B y < TS.code B x
    · rw [if_pos (by simpa using q), if_pos q, List.map_cons, insB_map hh]
    · rw [if_neg (by simpa using q), if_neg q]
      rfl
theorem isort_map {B : Int} {d : Nat} : ∀ {ys : List (List Int)}, Even1 B d ys → isort (ys.map tupI) = (sortC B ys).map tupI
  | [], _ => rfl
  | y :: ys, h => by
    have h2 : Even1 B d ys := fun z hz => h z (List.mem_cons_of_mem _ hz)
    rw [List.map_cons, isort, isort_map h2, sortC]
    refine insB_map (d := d) fun z hz => ?_
    rcases List.mem_cons.mp hz with z' | z'
    · rw [z']; exact h y List.mem_cons_self
    · exact h2 z ((sortC_perm ys).mem_iff.mp z')
theorem dedI_mem {α : Type} [DecidableEq α] {y : α} : ∀ {xs : List α}, y ∈ dedI xs ↔ y ∈ xs
  | [] => .rfl
  | x :: xs => by
    rw [dedI]
    split
    · rename_i h
      rw [dedI_mem, List.mem_cons]
      exact ⟨.inr, fun z => z.elim (fun z => by rw [z]; exact h) id⟩
    · rw [List.mem_cons, List.mem_cons, dedI_mem]
theorem dedI_nodup {α : Type} [DecidableEq α] : ∀ xs : List α, (dedI xs).Nodup
  | [] => .nil
  | x :: xs => by
    rw [dedI]
    split
    · exact dedI_nodup xs
    · rename_i h
      exact List.nodup_cons.mpr ⟨fun z => h (dedI_mem.mp z), dedI_nodup xs⟩
theorem inL_tupI (x : List Int) (xs : List (List Int)) : inL (tupI x) (xs.map tupI) = decide (x ∈ xs) := by
  unfold inL
  induction xs with
  | nil => simp
  | cons y ys ih =>
    rw [List.map_cons, List.any_cons, ih, pyEq_tupI]
    by_cases h : y = x
    · simp [h]
    · have : ¬ x = y := fun z => h z.symm
      simp [h, this]
theorem dedP_map : ∀ xs : List (List Int), dedP (xs.map tupI) = (dedI xs).map tupI
  | [] => rfl
  | x :: xs => by
    rw [List.map_cons, dedP, dedI, inL_tupI, dedP_map]
    by_cases h : x ∈ xs <;> simp [h]
/-- what the set holds, in order -/
theorem set_sorted {B : Int} {d : Nat} {xs L : List (List Int)} (hx : Even1 B d xs) (h1 : ∀ p ∈ L, p ∈ xs) (h2 : ∀ p ∈ xs, p ∈ L) (nd : L.Nodup) (pw : L.Pairwise (fun a b => TS.code B a ≤ TS.code B b)) : L = sortC B (dedI xs) := by
  have hd : Even1 B d (dedI xs) := fun z hz => hx z (dedI_mem.mp hz)
  refine List.Perm.eq_of_pairwise (fun a b ha hb l1 l2 => ?_) pw (sortC_sorted _) (((List.perm_ext_iff_of_nodup nd (dedI_nodup xs)).mpr fun a => ⟨fun h => dedI_mem.mpr (h1 a h), fun h => h2 a (dedI_mem.mp h)⟩).trans (sortC_perm _).symm)
  obtain ⟨a1, a2⟩ := hx a (h1 a ha)
  obtain ⟨b1, b2⟩ := hd b ((sortC_perm _).mem_iff.mp hb)
  exact code_inj (a1.trans b1.symm) a2 b2 (by omega)

variable [Tabl]
/-! ### soundness -/
theorem intsOf_eq : ∀ {xs : List PV} {k : List Int}, intsOf xs = some k → xs = k.map .int
  | [], k, h => by simp only [intsOf] at h; cases h; rfl
  | x :: xs, k, h => by
    cases x with
    | int i =>
      simp only [intsOf, Option.map_eq_some_iff] at h
      obtain ⟨k', h1, rfl⟩ := h
      rw [List.map_cons, ← intsOf_eq h1]
    | _ => simp only [intsOf] at h; cases h
theorem intTups_eq : ∀ {xs : List PV} {ks : List (List Int)}, intTups xs = some ks → xs = ks.map tupI
  | [], ks, h => by simp only [intTups] at h; cases h; rfl
  | x :: xs, ks, h => by
    simp only [intTups] at h
    split at h
    · rename_i k ks' h1 h2
      cases h
      cases x with
      | tup ys =>
        rw [List.map_cons, ← intTups_eq h2]
        unfold tupI
        rw [← intsOf_eq h1]
      | _ => cases h1
    · cases h
theorem repL_ints {K : PySem.W.Frag} {S : GS} : ∀ {k : List Int} {vs : List V}, RepL K S (k.map .int) vs → vs = k.map V.int
  | [], vs, h => by rw [List.map_nil, RepL] at h; rw [h]; rfl
  | i :: k, vs, h => by
    rw [List.map_cons, RepL] at h
    obtain ⟨v, r, rfl, h1, h2⟩ := h
    rw [rep_int h1, repL_ints h2]
    rfl
theorem rep_tupI {K : PySem.W.Frag} {S : GS} {k : List Int} {v : V} (h : RepV K S (tupI k) v) : ∃ a, v = .ref a ∧ SqT K S.H a (k.map V.int) := by
  unfold tupI at h
  obtain ⟨a, vs, rfl, t, r⟩ := rep_tup h
  rw [← repL_ints r]
  exact ⟨a, rfl, t.sq⟩
theorem rep_tups {K : PySem.W.Frag} {S : GS} : ∀ {kl : List (List Int)} {vs : List V}, RepL K S (kl.map tupI) vs → ∃ ks : List (Addr × List Int), ks.map (·.2) = kl ∧ vs = ks.map (fun p => V.ref p.1) ∧ ∀ p ∈ ks, RepV K S (tupI p.2) (.ref p.1)
  | [], vs, h => by rw [List.map_nil, RepL] at h; exact ⟨[], rfl, h, fun _ z => nomatch z⟩
  | k :: kl, vs, h => by
    rw [List.map_cons, RepL] at h
    obtain ⟨v, r, rfl, h1, h2⟩ := h
    obtain ⟨a, rfl, _⟩ := rep_tupI h1
    obtain ⟨ks, e1, rfl, e3⟩ := rep_tups h2
    refine ⟨(a, k) :: ks, by rw [List.map_cons, e1], rfl, fun p hp => ?_⟩
    rcases List.mem_cons.mp hp with z | z
    · rw [z]; exact h1
    · exact e3 p z
theorem repL_refs {K : PySem.W.Frag} {S : GS} : ∀ {L : List (Addr × List Int)}, (∀ p ∈ L, RepV K S (tupI p.2) (.ref p.1)) → RepL K S ((L.map (·.2)).map tupI) (L.map fun p => V.ref p.1)
  | [], _ => repL_nil
  | p :: L, h => repL_cons (h p List.mem_cons_self) (repL_refs fun q hq => h q (List.mem_cons_of_mem _ hq))
def rSetOfTT (K : PySem.W.Frag) (P : Program) (w : World) : List V → Hp → VK → Prop := fun xs H Q => ∃ (l : Addr) (ks : List (Addr × List Int)), xs = [V.ref l] ∧ SqT K H l (ks.map fun p => V.ref p.1) ∧ (∀ p ∈ ks, SqT K H p.1 (p.2.map V.int)) ∧ ks.length < 64 ∧
  ∀ a L, H a = none → (∀ p ∈ L, p ∈ ks) → (∀ p ∈ ks, p.2 ∈ L.map (·.2)) → Q (.ref a) (upd H a (SetTO P w a L))
theorem cr_setOfTT {X : Cx} (hc : X.calm = true) (hu : X.A.units + 64 < cLine) : CallR X (.type "set") (rSetOfTT X.K X.prog X.w) := by
  intro pins s σ H xs us Q I r h
  obtain ⟨l, ks, rfl, hl, hk, hf, q⟩ := h
  rw [Vals.ref1 r]
  obtain ⟨its, rv, pl, hz⟩ := I.tuple hl
  have hn : H s.heap.objs.size = none := I.hok.fresh (Nat.le_refl _)
  refine call_set_tupT (P := X.prog) (w := X.w) ks (I.ok.hd hc) (show s.heap.IsTuple l its.toArray from pl) (by simpa using refs_of_vals rv) (fun p hp => I.isT (hk p hp)) hf (by omega) fun h' tk L es ep t R g k => ?_
  refine ⟨.ref s.heap.objs.size, upd H s.heap.objs.size (SetTO X.prog X.w s.heap.objs.size L), I.laid (t' := tk) k (Nat.le_refl _) (setTO_new R.t0), rfl, q _ L hn (fun p hp => ?_) fun p hp => ?_⟩
  · exact List.mem_of_mem_take (g.sub p hp)
  · exact g.all p (by rw [List.take_length]; exact hp)
theorem evenOk_ok {d : Nat} {ks : List (List Int)} (h : evenOk d ks = true) : Even1 1048576 d ks := fun x hx => by
  have := List.all_eq_true.mp h x hx
  rw [Bool.and_eq_true] at this
  refine ⟨by simpa using this.1, fun m hm => ?_⟩
  have := List.all_eq_true.mp this.2 m hm
  rw [Bool.and_eq_true] at this
  exact ⟨of_decide_eq_true this.1, of_decide_eq_true this.2⟩
section
variable {X : Cx} {ca : CA} {F : FEnv} {a : Expr} {c1 : CE} {p p2 q pos : Pos}
theorem one_imp {f : LH → List PV → Option PV} {W : WX} {S : GS} {σ : St} {Q : VK} {env : Env} (p : PostE X.K ca W S σ Q (cFn f (lCons c1 lNil) F env S.h)) : PostE X.K ca W S σ Q ((c1 F env S.h).bind fun x h => lift h (f h [x])) := by
  have q : PostE X.K ca W S σ Q (((lCons c1 lNil) F env S.h).bind fun xs h => lift h (f h xs)) := p
  unfold lCons lNil at q
  cases e1 : c1 F env S.h with
  | ok y g => rw [e1] at q; exact q
  | exc k g => rw [e1] at q; exact q
  | fail => rw [e1] at q; exact q
theorem se_setSort (hc : X.calm = true) (hu : X.A.units + 64 < cLine) (hg : Gl X "sorted") (hm : X.mg "sorted" = none) (hg2 : Gl X "set") (hm2 : X.mg "set" = none) (ha : SE X ca F c1 a) (hs : starEach [a] X.env = [(false, eval a X.env)]) :
    SE X ca F (cFn fSetSort (lCons c1 lNil)) (.Call (.Name "sorted" p) [.Call (.Name "set" p2) [a] [] q] [] pos) := fun W tk =>
  PE.imp (pe_callB (cr_sortedT hc) hg hm boot_sorted (pa_cons (pe_callTy (cr_setOfTT hc hu) hg2 hm2 boot_set (pa_cons (ha W tk) pa_nil hs) (by decide) (by decide) hs) pa_nil) (by decide) (by decide)) fun σ H Q ⟨S, env, eH, R, e, p⟩ => by
    subst eH
    refine ⟨S, env, rfl, R, e, PostE.bindE (one_imp p) fun x S1 z E1 R1 r1 p1 => ?_⟩
    obtain ⟨y, e1, p1⟩ := p1.lift_some
    cases x with
    | tup xs =>
      simp only [fSetSort] at e1
      split at e1
      · rename_i k kl ek
        split at e1
        · rename_i hz
          cases e1
          rw [Bool.and_eq_true, Bool.and_eq_true] at hz
          obtain ⟨z1, z2, z3⟩ := hz
          have z1 := of_decide_eq_true z1
          have z2 := of_decide_eq_true z2
          have ev := evenOk_ok z3
          have ex := intTups_eq ek
          subst ex
          obtain ⟨l, vs, rfl, t, r⟩ := rep_tup r1
          obtain ⟨ks, k1, rfl, k3⟩ := rep_tups r
          have kn : ks.length < 64 := by
            have := congrArg List.length k1
            rw [List.length_map] at this
            omega
          refine ⟨l, ks, rfl, t.sq, fun p hp => ?_, kn, fun a L ha h1 h2 => ?_⟩
          · obtain ⟨a, e2, sq⟩ := rep_tupI (k3 p hp)
            cases e2
            exact sq
          obtain ⟨E2, R2⟩ := R1.alloc (o := SetTO X.prog X.w a L) ha
          have k4 : ∀ p ∈ L, RepV X.K { S1 with H := upd S1.H a (SetTO X.prog X.w a L) } (tupI p.2) (.ref p.1) := fun p hp => (k3 p (h1 p hp)).mono E2.toExtW _ _
          have evL : ∀ p ∈ L, p.2.length = k.length ∧ TS.Bd 1048576 p.2 := fun p hp => ev p.2 (by rw [← k1]; exact List.mem_map.mpr ⟨p, h1 p hp, rfl⟩)
          refine ⟨a, L, k.length, 1048576, rfl, upd_same, fun p hp => ?_, z2, evL, fun L' p pm nd ll pw hp => ?_⟩
          · obtain ⟨a', e2, sq⟩ := rep_tupI (k4 p hp)
            cases e2
            exact sq
          obtain ⟨E3, R3⟩ := R2.alloc (o := .lst (L'.map fun q => V.ref q.1)) hp
          have e5 : L'.map (·.2) = sortC 1048576 (dedI (k :: kl)) := set_sorted ev (fun x hx => by
              obtain ⟨q, hq, e6⟩ := List.mem_map.mp hx
              subst e6
              rw [← k1]
              exact List.mem_map.mpr ⟨q, h1 q (pm.mem_iff.mp hq), rfl⟩) (fun x hx => by
              rw [← k1] at hx
              obtain ⟨q, hq, e6⟩ := List.mem_map.mp hx
              subst e6
              obtain ⟨q', hq', e7⟩ := List.mem_map.mp (h2 q hq)
              exact List.mem_map.mpr ⟨q', pm.mem_iff.mpr hq', e7⟩) nd (List.pairwise_map.mpr pw)
          have ei : isort (dedP ((k :: kl).map tupI)) = (L'.map (·.2)).map tupI := by
            rw [dedP_map, isort_map (B := 1048576) (d := k.length) (fun z hz => ev z (dedI_mem.mp hz)), e5]
          rw [ei] at p1
          exact p1 { S1 with H := upd (upd S1.H a (SetTO X.prog X.w a L)) p (.lst (L'.map fun q => V.ref q.1)) } (.ref p) rfl (E2.trans E3) R3 (rep_newL R2 hp (repL_refs fun q hq => k4 q (pm.mem_iff.mp hq)))
        · cases e1
      · cases e1
    | _ => simp only [fSetSort] at e1; cases e1
/-! len(set(ints)) -/
theorem firstMet_spec (val : Nat → Int) : ∀ i, (firstMet val i).Nodup ∧ ∀ x, x ∈ firstMet val i ↔ x ∈ (List.range i).map val
  | 0 => by rw [firstMet_zero]; simp
  | i + 1 => by
    obtain ⟨h1, h2⟩ := firstMet_spec val i
    rw [firstMet_succ, List.range_succ, List.map_append]
    unfold step_dedup
    split
    · rename_i q
      refine ⟨h1, fun x => ?_⟩
      obtain ⟨y, hy, ey⟩ := List.any_eq_true.mp q
      have ey : y = val i := eq_of_beq ey
      rw [h2, List.mem_append]
      refine ⟨.inl, fun z => z.elim id fun z => ?_⟩
      have : x = val i := by simpa using z
      rw [this, ← ey]
      exact (h2 y).mp hy
    · rename_i q
      refine ⟨List.nodup_append.mpr ⟨h1, by simp, fun x hx y hy z => ?_⟩, fun x => ?_⟩
      · have : y = val i := by simpa using hy
        subst z
        exact q (List.any_eq_true.mpr ⟨x, hx, by rw [this]; simp⟩)
      · rw [List.mem_append, List.mem_append, h2]
        simp
theorem firstMet_len (ns : List Int) : (firstMet (fun i => ns.getD i 0) ns.length).length = (dedI ns).length := by
  obtain ⟨h1, h2⟩ := firstMet_spec (fun i => ns.getD i 0) ns.length
  refine ((List.perm_ext_iff_of_nodup h1 (dedI_nodup ns)).mpr fun x => ?_).length_eq
  rw [h2, dedI_mem]
  constructor
  · intro h
    obtain ⟨i, hi, e⟩ := List.mem_map.mp h
    have hl := List.mem_range.mp hi
    rw [← e]
    simp only [List.getD_eq_getElem?_getD, List.getElem?_eq_getElem hl, Option.getD_some]
    exact List.getElem_mem hl
  · intro h
    obtain ⟨i, hi, e⟩ := List.mem_iff_getElem.mp h
    refine List.mem_map.mpr ⟨i, List.mem_range.mpr hi, ?_⟩
    simp only [List.getD_eq_getElem?_getD, List.getElem?_eq_getElem hi, Option.getD_some]
    exact e
def tLenSetG (K : PySem.W.Frag) (ta : TE) : TE := fun σ H Q => ta σ H fun x H1 => ∃ (l : Addr) (ns : List Int), x = .ref l ∧ SqL K H1 l (ns.map V.int) ∧ ns.length ≤ 4000 ∧ Q (.int ((dedI ns).length : Nat)) H1
theorem pe_lenSetG {ta : TE} (hg : Gl X "len") (hm : X.mg "len" = none) (hg2 : Gl X "set") (hm2 : X.mg "set" = none) (ha : PE X a ta) (hc : X.calm = true)
    (na : starEach [a] X.env = (false, eval a X.env) :: starEach [] X.env) : PE X (.Call (.Name "len" p) [.Call (.Name "set" p2) [a] [] q] [] pos) (tLenSetG X.K ta) := by
  refine ⟨fun pins s σ H Q I h => ?_⟩
  refine Call_ (ld_blt I hg hm boot_len ?_)
  refine PyProof.Rows.callWith_builtin1 (PyProof.Rows.args_cons ?_ rfl) rfl rfl
  refine Call_ (ld_blt I hg2 hm2 boot_set ?_)
  refine PyProof.Rows.callWith_type1 (PyProof.Rows.args_cons (thn (ha.run pins s σ H _ I h) fun v s1 ⟨x, H1, I1, r1, q1⟩ => PyProof.Rows.args_nil ?_) na) na rfl
  obtain ⟨l, ns, rfl, hq, hl, q1⟩ := q1
  cases r1
  obtain ⟨its, r, pl, hz⟩ := I1.list hq
  have hlen : its.toArray.size = ns.length := by rw [List.size_toArray, ← r.length, List.length_map]
  refine call_set_list (I1.ok.hd hc) pl.isList (by simpa using RZ.intsAre_vals r) (by rw [hlen]; unfold scanBound; omega) fun h' tk hS hk => ?_
  refine PyProof.Rows.args_nil ?_
  rw [hlen] at hS
  obtain ⟨o, es, ep, t, ho, hex, hd, _, _, _, hf, hn⟩ := hS
  have I2 : Inv X pins σ H1 { s1 with heap := h', toks := tk } := I1.kept fun b o e => hk b o (Heap.lt_size e) e
  have le := firstMet_length_le (fun i => ns.getD i 0) ns.length
  exact call_len_set ho hex hd hf (by rw [hn] <;> omega) ⟨.int ((dedI ns).length : Nat), H1, I2.tok _, ⟨_, by rw [hn, firstMet_len]⟩, q1⟩
theorem se_setLen (hc : X.calm = true) (hg : Gl X "len") (hm : X.mg "len" = none) (hg2 : Gl X "set") (hm2 : X.mg "set" = none) (ha : SE X ca F c1 a) (hs : starEach [a] X.env = [(false, eval a X.env)]) :
    SE X ca F (cFn fSetLen (lCons c1 lNil)) (.Call (.Name "len" p) [.Call (.Name "set" p2) [a] [] q] [] pos) := fun W tk =>
  PE.imp (pe_lenSetG hg hm hg2 hm2 (ha W tk) hc hs) fun σ H Q ⟨S, env, eH, R, e, p⟩ => by
    subst eH
    refine ⟨S, env, rfl, R, e, PostE.bindE (one_imp p) fun x S1 z E1 R1 r1 p1 => ?_⟩
    obtain ⟨y, e1, pp⟩ := p1.lift_some
    cases x with
    | lst xs =>
      simp only [fSetLen] at e1
      split at e1
      · rename_i ns en
        split at e1
        · rename_i hz
          cases e1
          have := intsOf_eq en
          subst this
          obtain ⟨l, vs, rfl, t, r⟩ := rep_lst r1
          rw [repL_ints r] at t
          exact ⟨l, ns, rfl, SqL.of t, of_decide_eq_true hz, pp.here R1 (by rw [RepV])⟩
        · cases e1
      · cases e1
    | _ => simp only [fSetLen] at e1; cases e1
end
end G
end
section
set_option Elab.async false
set_option linter.all false
set_option maxRecDepth 100000
/-! GIR: the intermediate form; what it denotes. -/
namespace G
open PySem

inductive O2 where
  | add | sub | mul | fdiv | mod | pow
  deriving DecidableEq
def O2.f : O2 → LH → PV → PV → Option PV
  | .add => opAdd
  | .sub => opSub
  | .mul => opMul
  | .fdiv => opFdiv
  | .mod => opMod
  | .pow => opPow
def O2.ast : O2 → Operator
  | .add => .Add
  | .sub => .Sub
  | .mul => .Mult
  | .fdiv => .FloorDiv
  | .mod => .Mod
  | .pow => .Pow
inductive OC where
  | eq | ne | lt | le | gt | ge | isin | notin | is_ | isnot
  deriving DecidableEq
def OC.f : OC → LH → PV → PV → Option PV
  | .eq => opEq
  | .ne => opNe
  | .lt => opLt
  | .le => opLe
  | .gt => opGt
  | .ge => opGe
  | .isin => opIn
  | .notin => opNotIn
  | .is_ => opIs
  | .isnot => opIsNot
def OC.ast : OC → CmpOp
  | .eq => .Eq
  | .ne => .NotEq
  | .lt => .Lt
  | .le => .LtE
  | .gt => .Gt
  | .ge => .GtE
  | .isin => .In
  | .notin => .NotIn
  | .is_ => .Is
  | .isnot => .IsNot
inductive FB where
  | len | int | bool | abs | max | min | tuple | list | all | any | sum | sorted
  deriving DecidableEq
def FB.f : FB → LH → List PV → Option PV
  | .len => fLen
  | .int => fInt
  | .bool => fBool
  | .abs => fAbs
  | .max => fMax
  | .min => fMin
  | .tuple => fTuple
  | .list => fList
  | .all => fAll
  | .any => fAny
  | .sum => fSum
  | .sorted => fSorted
mutual
inductive IE where
  | var (i : Nat) | int (i : Int) | neg (i : Int) | bl (b : Bool) | non | str (s : Str)
  | op (o : O2) (a b : IE) | cmp (o : OC) (a b : IE) | chain (o p : OC) (a b c : IE)
  | tup (l : IL) | lst (l : IL) | newL (l : IL) | thaw (o : O2) (a b : IE)
  | and (l : IL) | or (l : IL) | not (a : IE) | ife (t : IT) (a b : IE)
  | ix (a i : IE) | sl00 (a : IE) | sl10 (a b : IE) | sl01 (a b : IE) | sl11 (a b c : IE)
  | call (f : Nat) (l : IL) | fn (g : FB) (l : IL) | isi (t : BT) (a : IE)
  | comp (own : List (Str × Nat)) (it : II) (tg : TP) (t : IT) (e : IE)
  | pop0 (a : IE) | pop (a : IE) | setSort (a : IE) | setLen (a : IE) | lam (a : IE)
  | x (n : Nat) (l : IL)
inductive IL where
  | nil
  | cons (a : IE) (l : IL)
inductive IT where
  | yes
  | val (a : IE) | tru (a : IE) | cmp (o : OC) (a b : IE) | chain (o p : OC) (a b c : IE) | and (l : ITL) | or (l : ITL) | not (a : IT)
inductive ITL where
  | one (a : IT)
  | cons (a : IT) (l : ITL)
inductive II where
  | of (a : IE) | rng1 (a : IE) | rng2 (a b : IE) | enum (a : IE) | zip (a b : IE)
end
mutual
inductive IS where
  | skip | expr (e : IE) | set (i : Nat) (e : IE) | setC (i : Nat) (own : List (Str × Nat)) (it : II) (tg : TP) (t : IT) (e : IE) | tgt (tg : TP) (e : IE) | par2 (i j : Nat) (a b : IE) | par3 (i j l : Nat) (a b c : IE) | store (e a i : IE) | app (a e : IE)
  | ret (e : IE) | retF (e : IE) | retN | ife (t : IT) (a b : ISs) | for_ (it : II) (tg : TP) (b : ISs) | while_ (t : IT) (b : ISs) | raise_ (c : Nat)
inductive ISs where
  | nil
  | cons (s : IS) (r : ISs)
  | frz (i : Nat) (r : ISs)
end
def lit : List IE → IL
  | [] => .nil
  | a :: r => .cons a (lit r)
def seq : List IS → ISs
  | [] => .nil
  | a :: r => .cons a (seq r)
/-- the constructs that have a number: by number -/
def extra : Nat → LH → List PV → Option PV
  | _, _, _ => none
mutual
def den : IE → CE
  | .var i => cVar i
  | .int i => cC (.int i)
  | .neg i => cC (.int (-i))
  | .bl b => cC (.bl b)
  | .non => cC .non
  | .str s => cC (.str s)
  | .op o a b => cOp2 o.f (den a) (den b)
  | .cmp o a b => cOp2 o.f (den a) (den b)
  | .chain o p a b c => cChain o.f p.f (den a) (den b) (den c)
  | .tup l => cTup (denL l)
  | .lst l => cLst (denL l)
  | .newL l => cNewL (denL l)
  | .thaw o a b => cThaw2 o.f (den a) (den b)
  | .and l => denA l
  | .or l => denO l
  | .not a => cNot (den a)
  | .ife t a b => cIf (denT t) (den a) (den b)
  | .ix a i => cOp2 opIx (den a) (den i)
  | .sl00 a => cSlice (den a) none none
  | .sl10 a b => cSlice (den a) (some (den b)) none
  | .sl01 a b => cSlice (den a) none (some (den b))
  | .sl11 a b c => cSlice (den a) (some (den b)) (some (den c))
  | .call f l => cCall f (denL l)
  | .fn g l => cFn g.f (denL l)
  | .isi t a => cFn (fIs t) (lCons (den a) lNil)
  | .comp own it tg t e => cComp (own.map (·.2)) (denI it) tg (denT t) (den e)
  | .pop0 a => cPop0 (den a)
  | .pop a => cPop (den a)
  | .setSort a => cFn fSetSort (lCons (den a) lNil)
  | .setLen a => cFn fSetLen (lCons (den a) lNil)
  | .lam a => cLam (den a)
  | .x n l => cFn (extra n) (denL l)
def denL : IL → CL
  | .nil => lNil
  | .cons a l => lCons (den a) (denL l)
def denA : IL → CE
  | .nil => cC .non
  | .cons a .nil => den a
  | .cons a l => cAnd (den a) (denA l)
def denO : IL → CE
  | .nil => cC .non
  | .cons a .nil => den a
  | .cons a l => cOr (den a) (denO l)
def denT : IT → CB
  | .yes => tYes
  | .val a => tVal (den a)
  | .tru a => tTru (den a)
  | .cmp o a b => tVal (cOp2 o.f (den a) (den b))
  | .chain o p a b c => tVal (cChain o.f p.f (den a) (den b) (den c))
  | .and l => denTA l
  | .or l => denTO l
  | .not a => tNot (denT a)
def denTA : ITL → CB
  | .one a => denT a
  | .cons a l => tAnd (denT a) (denTA l)
def denTO : ITL → CB
  | .one a => denT a
  | .cons a l => tOr (denT a) (denTO l)
def denI : II → CI
  | .of a => iOf (den a)
  | .rng1 a => iRange1 (den a)
  | .rng2 a b => iRange2 (den a) (den b)
  | .enum a => iEnum (den a)
  | .zip a b => iZip (den a) (den b)
end
mutual
def denS : IS → CS
  | .skip => sSkip
  | .expr e => sExpr (den e)
  | .set i e => sTgt (.name i) (den e)
  | .setC i own it tg t e => sTgt (.name i) (cComp (own.map (·.2)) (denI it) tg (denT t) (den e))
  | .tgt tg e => sTgt tg (den e)
  | .par2 i j a b => sTgt (.tup [.name i, .name j]) (cTup (lCons (den a) (lCons (den b) lNil)))
  | .par3 i j l a b c => sTgt (.tup [.name i, .name j, .name l]) (cTup (lCons (den a) (lCons (den b) (lCons (den c) lNil))))
  | .store e a i => sStore (den e) (den a) (den i)
  | .app a e => sAppend (den a) (den e)
  | .ret e => sRet (den e)
  | .retF e => sRetF (den e)
  | .retN => sRetN
  | .ife t a b => sIf (denT t) (denSs a) (denSs b)
  | .for_ it tg b => sFor (denI it) tg (denSs b)
  | .while_ t b => sWhile (denT t) (denSs b)
  | .raise_ c => sRaise c
def denSs : ISs → CS
  | .nil => sSkip
  | .cons s r => sSeq (denS s) (denSs r)
  | .frz i r => sSeq (sFrz i) (denSs r)
end
end G
end
section
set_option Elab.async false
set_option linter.all false
set_option maxRecDepth 100000
/-! GSyn: side conditions that the syntax settles. -/
namespace G
open PySem PySem.Spec PyProof.Rows L2

def notStar : Expr → Bool
  | .Starred _ _ => false
  | _ => true
theorem star_cons {a : Expr} {es : List Expr} {env : PySem.Env} (h : notStar a = true) : starEach (a :: es) env = (false, eval a env) :: starEach es env := by
  cases a <;> first | rfl | cases h
theorem star_one {a : Expr} {env : PySem.Env} (h : notStar a = true) : starEach [a] env = [(false, eval a env)] := star_cons h
theorem star_plain {es : List Expr} {env : PySem.Env} {pos : Pos} (h : es.all notStar = true) : (backTo pos (starEach es env)).any (·.1) = false := by
  induction es with
  | nil => rfl
  | cons a es ih =>
    rw [List.all_cons, Bool.and_eq_true] at h
    rw [star_cons h.1]
    have := ih h.2
    unfold backTo at this ⊢
    rw [List.map_cons, List.any_cons, this]
    rfl
theorem assign_cons {a : Expr} {es : List Expr} {env : PySem.Env} (h : notStar a = true) : assignEach (a :: es) env = (false, assign a env) :: assignEach es env := by
  cases a <;> first | rfl | cases h
theorem assign_len {es : List Expr} {env : PySem.Env} (h : es.all notStar = true) : (assignEach es env).length = es.length := by
  induction es with
  | nil => rfl
  | cons a es ih =>
    rw [List.all_cons, Bool.and_eq_true] at h
    rw [assign_cons h.1, List.length_cons, List.length_cons, ih h.2]
theorem assign_star {es : List Expr} {env : PySem.Env} (h : es.all notStar = true) : (assignEach es env).findIdx? (·.1) = none := by
  induction es with
  | nil => rfl
  | cons a es ih =>
    rw [List.all_cons, Bool.and_eq_true] at h
    rw [assign_cons h.1, List.findIdx?_cons]
    simp [ih h.2]
/-- a test that is asked by its value -/
def plainTest : Expr → Bool
  | .UnaryOp .Not _ _ => false
  | .BoolOp _ _ _ => false
  | .IfExp _ _ _ _ => false
  | .Compare _ _ _ _ => false
  | _ => true
theorem plain_test {a : Expr} {env : PySem.Env} (h : plainTest a = true) : ∀ whole, isTrue a env whole = (do let v ← whole; standAt a.pos; holding [v] (truthy v)) := by
  intro whole
  cases a with
  | UnaryOp o x p => cases o <;> first | rfl | cases h
  | BoolOp _ _ _ => cases h
  | IfExp _ _ _ _ => cases h
  | Compare _ _ _ _ => cases h
  | _ => rfl
def notComp : Expr → Bool
  | .ListComp _ _ _ _ => false
  | .SetComp _ _ _ _ => false
  | .DictComp _ _ _ _ _ => false
  | _ => true
theorem no_swap {e : Expr} {t : Option Expr} {l : Nat} {env : PySem.Env} (h : notComp e = true) : swapsWith e t l env = pure false := by
  cases e <;> first | rfl | cases h
def isName : Expr → Bool
  | .Name _ _ => true
  | _ => false
theorem no_swap_tgt {e t : Expr} {l : Nat} {env : PySem.Env} (h : isName t = false) : swapsWith e (some t) l env = pure false := by
  cases e <;> first | rfl | (cases t <;> first | rfl | cases h)
def isTuple : Expr → Bool
  | .Tuple _ _ _ => true
  | _ => false
theorem no_stores {ts : List Expr} {k : Nat} {p : Pos} {e : Expr} {env : PySem.Env} (h : isTuple e = false) : swappedStores [.Tuple ts k p] e env = pure none := by
  cases e <;> first | rfl | cases h
theorem no_stores_sub {a i : Expr} {p : Pos} {e : Expr} {env : PySem.Env} : swappedStores [.Subscript a i p] e env = pure none := by
  cases e <;> rfl
/-- which names are stored swapped -/
def swM (sc : Scope) (ts vs : List Expr) : Option (Option (List Str)) :=
  if !(ts.length == 2 || ts.length == 3) || vs.length != ts.length then some none
  else if vs.any (fun | .Starred .. => true | _ => false) then some none
  else
    let line := (ts.head?.map (·.pos.line)).getD 0
    let names := ts.filterMap fun
      | .Name id pos => if sc.names.lookup id == some .local && pos.line == line then some id else none
      | _ => none
    if names.length != ts.length || names.eraseDups.length != names.length then some none
    else if vs.all (foldedForSure 8) then some none
    else if vs.all (constantsAlone 8) then none
    else some (some names)
theorem swM_eq {env : PySem.Env} {sc : Scope} {ts vs : List Expr} {k k2 : Nat} {p p2 : Pos} {r : Option (List Str)} (hs : env.scope = sc) (hk : sc.kind = .function) (h : swM sc ts vs = some r) : swappedStores [.Tuple ts k p] (.Tuple vs k2 p2) env = pure r := by
  have hb : env.blockKind = .function := by unfold Env.blockKind; rw [hs, hk]; rfl
  unfold swM at h
  unfold swappedStores
  simp only [hb]
  have ek : ∀ id, env.kindOf id = sc.names.lookup id := fun id => by
    unfold Env.kindOf
    rw [hs]
  simp only [ek]
  have e0 : (ScopeKind.function != ScopeKind.function) = false := rfl
  rw [e0, Bool.or_false]
  split at h
  · rename_i h1
    cases h
    exact if_pos h1
  · rename_i h1
    refine (if_neg h1).trans ?_
    split at h
    · rename_i h2
      cases h
      exact if_pos h2
    · rename_i h2
      refine (if_neg h2).trans ?_
      dsimp only at h ⊢
      split at h
      · rename_i h3
        cases h
        exact if_pos h3
      · rename_i h3
        refine (if_neg h3).trans ?_
        split at h
        · rename_i h4
          cases h
          exact if_pos h4
        · rename_i h4
          refine (if_neg h4).trans ?_
          split at h
          · cases h
          · rename_i h5
            cases h
            exact if_neg h5
def notSet : Expr → Bool
  | .Set _ _ _ => false
  | _ => true
theorem no_set {e : Expr} {env : PySem.Env} (h : notSet e = true) : ∀ x, foldedSetIterable e env x = pure x := by
  intro x
  cases e <;> first | rfl | cases h
def notCall : Expr → Bool
  | .Call _ _ _ _ => false
  | _ => true
theorem base_of {o : Expr} {n : Str} {env : PySem.Env} (h : notCall o = true) : attributeBase o n env (eval o env) = eval o env := by
  cases o <;> first | rfl | cases h
theorem drop_pop {p : Pos} {a : Expr} {l : List Expr} {k : List Keyword} {f : Expr} {t : Option Expr} {n : Nat} {env : PySem.Env} : swapsWith (.Call f l k p) t n env = pure false := rfl
def plainIx : Expr → Bool
  | .Slice _ _ _ _ => false
  | _ => true
theorem plain_ix {b : Expr} (h : plainIx b = true) : PlainIx b := by
  intro o i
  cases b <;> first | rfl | cases h
theorem few1 {e : Expr} {cpos : Pos} {env : PySem.Env} (h : notStar e = true) : ((backTo cpos (starEach [e] env)).all (fun x => !x.1) && (backToKw cpos (keywordEach [] env)).all (fun x => x.1.isSome)
      && decide ([e].length + ([] : List Keyword).length + (if ([] : List Keyword).isEmpty then 0 else 1) < 30)) = true := by
  rw [star_one h]
  rfl
theorem assign1 {t : Expr} {env : PySem.Env} (h : notStar t = true) : (assignEach [t] env).map (·.2) = [assign t env] := by
  rw [assign_cons h]; rfl
theorem assignM {a : Expr} {es : List Expr} {env : PySem.Env} (h : notStar a = true) : (assignEach (a :: es) env).map (·.2) = assign a env :: (assignEach es env).map (·.2) := by
  rw [assign_cons h]; rfl
end G
end
section
set_option Elab.async false
set_option linter.all false
set_option maxRecDepth 100000
/-! GChk: a checker, and that it is right. -/
namespace G
open PySem PySem.Spec PyProof.Rows L2

/-- the module: its functions, its error classes by number -/
structure ModI where
  fn : List (Str × Nat)
  ex : List (Str × Nat)
/-- a def's or a block's names -/
structure Gam where
  N : List Str
  sc : Scope
  fl : Str → Bool
  lm : Bool := false
def Gam.blk (Γ : Gam) (scope : Scope) : Gam := ⟨Γ.N, relS scope Γ.sc, fun x => scope.names.lookup x == some .cell, false⟩
def Gam.lamG (Γ : Gam) (scope : Scope) : Gam := ⟨Γ.N, scope, fun _ => false, false⟩
/-- the def that tells a lambda's error -/
def errName : Str := "_law_error"
def Gam.vis (Γ : Gam) (x : Str) : Bool := match Γ.sc.names.lookup x with
  | some .local => true
  | some .cell => true
  | some .free => true
  | _ => false
def Gam.loc (Γ : Gam) (x : Str) : Bool := match Γ.sc.names.lookup x with
  | some .local => true
  | some .cell => Γ.fl x
  | _ => false
def Gam.lcl (Γ : Gam) (x : Str) : Bool := match Γ.sc.names.lookup x with
  | some .local => true
  | _ => false
def Gam.gl (Γ : Gam) (x : Str) : Bool := match Γ.sc.names.lookup x with
  | some .globalImplicit => true
  | _ => false
def isFn : ScopeKind → Bool
  | .function => true
  | _ => false
theorem isFn_ok {k : ScopeKind} (h : isFn k = true) : k = .function := by cases k <;> first | rfl | cases h
def FB.name : FB → Str
  | .len => "len"
  | .int => "int"
  | .bool => "bool"
  | .abs => "abs"
  | .max => "max"
  | .min => "min"
  | .tuple => "tuple"
  | .list => "list"
  | .all => "all"
  | .any => "any"
  | .sum => "sum"
  | .sorted => "sorted"
def BT.name : BT → Str
  | .int => "int"
  | .bool => "bool"
  | .tuple => "tuple"
  | .str => "str"
  | .list => "list"
def bltNames : List Str := ["len", "int", "bool", "abs", "max", "min", "tuple", "list", "all", "any", "sum", "sorted", "str", "isinstance", "range", "enumerate", "zip", "set"]
def noDbg (x : Str) : Bool := !(x == ("__debug__" : Str)) && !(x == ("__classdict__" : Str))

mutual
def chkE (M : ModI) : IE → Gam → Expr → Bool
  | .var i, Γ, e => match e with
    | .Name x _ => decide (Γ.N[i]? = some x) && (Γ.vis x && noDbg x)
    | _ => false
  | .int i, _, e => match e with
    | .Constant (.int j) _ _ => decide (j = i)
    | _ => false
  | .neg i, _, e => match e with
    | .UnaryOp .USub (.Constant (.int j) _ _) _ => decide (j = i)
    | _ => false
  | .bl b, _, e => match e with
    | .Constant (.bool j) _ _ => decide (j = b)
    | _ => false
  | .non, _, e => match e with
    | .Constant .none _ _ => true
    | _ => false
  | .str s, _, e => match e with
    | .Constant (.str j) _ _ => decide (j = s) && PyData.strOk j
    | _ => false
  | .op o a b, Γ, e => match e with
    | .BinOp a' o' b' _ => decide (o' = o.ast) && (chkE M a Γ a' && chkE M b Γ b')
    | _ => false
  | .cmp o a b, Γ, e => match e with
    | .Compare a' [o'] [b'] _ => decide (o' = o.ast) && (chkE M a Γ a' && (chkE M b Γ b' && !behindInMarks o' b'))
    | _ => false
  | .chain o p a b c, Γ, e => match e with
    | .Compare a' [o', p'] [b', c'] _ => decide (o' = o.ast) && (decide (p' = p.ast) && (chkE M a Γ a' && (chkE M b Γ b' && (chkE M c Γ c' && (!behindInMarks o' b' && !behindInMarks p' c')))))
    | _ => false
  | .tup l, Γ, e => match e with
    | .Tuple es _ _ => chkL M l Γ es
    | _ => false
  | .lst l, Γ, e => match e with
    | .List es _ => chkL M l Γ es
    | _ => false
  | .newL l, Γ, e => match e with
    | .List es _ => chkL M l Γ es
    | _ => false
  | .thaw o a b, Γ, e => match e with
    | .BinOp a' o' b' _ => (decide (o = .add) || decide (o = .mul)) && (decide (o' = o.ast) && (chkE M a Γ a' && chkE M b Γ b'))
    | _ => false
  | .and l, Γ, e => match e with
    | .BoolOp .And es _ => chkA M l Γ es
    | _ => false
  | .or l, Γ, e => match e with
    | .BoolOp .Or es _ => chkA M l Γ es
    | _ => false
  | .not a, Γ, e => match e with
    | .UnaryOp .Not a' _ => chkE M a Γ a'
    | _ => false
  | .ife t a b, Γ, e => match e with
    | .IfExp t' a' b' _ => chkT M t Γ t' && (chkE M a Γ a' && chkE M b Γ b')
    | _ => false
  | .ix a i, Γ, e => match e with
    | .Subscript a' i' _ => chkE M a Γ a' && (chkE M i Γ i' && plainIx i')
    | _ => false
  | .sl00 a, Γ, e => match e with
    | .Subscript a' (.Slice none none none _) _ => chkE M a Γ a'
    | _ => false
  | .sl10 a b, Γ, e => match e with
    | .Subscript a' (.Slice (some b') none none _) _ => chkE M a Γ a' && chkE M b Γ b'
    | _ => false
  | .sl01 a b, Γ, e => match e with
    | .Subscript a' (.Slice none (some b') none _) _ => chkE M a Γ a' && chkE M b Γ b'
    | _ => false
  | .sl11 a b c, Γ, e => match e with
    | .Subscript a' (.Slice (some b') (some c') none _) _ => chkE M a Γ a' && (chkE M b Γ b' && chkE M c Γ c')
    | _ => false
  | .call f l, Γ, e => match e with
    | .Call (.Name x _) (a :: es) [] _ => decide (M.fn.lookup x = some f) && (Γ.gl x && (noDbg x && (chkL M l Γ (a :: es) && (a :: es).all notStar)))
    | _ => false
  | .fn g l, Γ, e => match e with
    | .Call (.Name x _) (a :: es) [] _ => decide (x = g.name) && (Γ.gl x && (chkL M l Γ (a :: es) && (a :: es).all notStar))
    | _ => false
  | .isi t a, Γ, e => match e with
    | .Call (.Name x _) [a', .Name y _] [] _ => decide (x = "isinstance") && (decide (y = t.name) && (Γ.gl x && (Γ.gl y && (chkE M a Γ a' && notStar a'))))
    | _ => false
  | .comp own it tg t el, Γ, e => match e with
    | .ListComp el' [⟨tg', iter, ifs, 0⟩] scope _ => chkI M it Γ tg' iter && (blkC Γ.N Γ.sc scope own && (tg.slots.all (fun j => decide (j ∈ own.map (·.2))) && (chkG tg (Γ.blk scope) tg' && (chkTs M t (Γ.blk scope) ifs && (chkE M el (Γ.blk scope) el' && notSet iter)))))
    | _ => false
  | .pop0 a, Γ, e => match e with
    | .Call (.Attribute a' n apos) [.Constant (.int 0) _ _] [] cpos => decide (n = "pop") && (chkE M a Γ a' && (notCall a' && (apos.endLine == cpos.line)))
    | _ => false
  | .pop a, Γ, e => match e with
    | .Call (.Attribute a' n apos) [] [] cpos => decide (n = "pop") && (chkE M a Γ a' && (notCall a' && (apos.endLine == cpos.line)))
    | _ => false
  | .setSort a, Γ, e => match e with
    | .Call (.Name x _) [.Call (.Name y _) [a'] [] _] [] _ => decide (x = "sorted") && (decide (y = "set") && (Γ.gl x && (Γ.gl y && (chkE M a Γ a' && notStar a'))))
    | _ => false
  | .setLen a, Γ, e => match e with
    | .Call (.Name x _) [.Call (.Name y _) [a'] [] _] [] _ => decide (x = "len") && (decide (y = "set") && (Γ.gl x && (Γ.gl y && (chkE M a Γ a' && notStar a'))))
    | _ => false
  | .lam a, Γ, e => match e with
    | .Call (.Name x _) [.Lambda ⟨[], [], none, [], [], none, []⟩ body scope _] [] _ => Γ.lm && (decide (x = errName) && (Γ.gl x && (LamX.lamSB Γ.sc scope && chkE M a (Γ.lamG scope) body)))
    | _ => false
  | .x _ _, _, _ => false
def chkL (M : ModI) : IL → Gam → List Expr → Bool
  | .nil, _, es => match es with
    | [] => true
    | _ => false
  | .cons a l, Γ, es => match es with
    | e :: r => chkE M a Γ e && (notStar e && chkL M l Γ r)
    | _ => false
def chkA (M : ModI) : IL → Gam → List Expr → Bool
  | .nil, _, _ => false
  | .cons a .nil, Γ, es => match es with
    | [e] => chkE M a Γ e
    | _ => false
  | .cons a (.cons b l), Γ, es => match es with
    | e :: e2 :: r => chkE M a Γ e && chkA M (.cons b l) Γ (e2 :: r)
    | _ => false
def chkT (M : ModI) : IT → Gam → Expr → Bool
  | .yes, _, _ => false
  | .val a, Γ, e => chkE M a Γ e && plainTest e
  | .tru a, Γ, e => chkE M a Γ e && plainTest e
  | .cmp o a b, Γ, e => match e with
    | .Compare a' [o'] [b'] _ => decide (o' = o.ast) && (chkE M a Γ a' && (chkE M b Γ b' && !behindInMarks o' b'))
    | _ => false
  | .chain o p a b c, Γ, e => match e with
    | .Compare a' [o', p'] [b', c'] _ => decide (o' = o.ast) && (decide (p' = p.ast) && (chkE M a Γ a' && (chkE M b Γ b' && (chkE M c Γ c' && (!behindInMarks o' b' && !behindInMarks p' c')))))
    | _ => false
  | .and l, Γ, e => match e with
    | .BoolOp .And es _ => chkTL M l Γ es
    | _ => false
  | .or l, Γ, e => match e with
    | .BoolOp .Or es _ => chkTL M l Γ es
    | _ => false
  | .not a, Γ, e => match e with
    | .UnaryOp .Not a' _ => chkT M a Γ a'
    | _ => false
def chkTL (M : ModI) : ITL → Gam → List Expr → Bool
  | .one a, Γ, es => match es with
    | [e] => chkT M a Γ e
    | _ => false
  | .cons a l, Γ, es => match es with
    | e :: e2 :: r => chkT M a Γ e && chkTL M l Γ (e2 :: r)
    | _ => false
def chkTs (M : ModI) : IT → Gam → List Expr → Bool
  | .yes, _, es => match es with
    | [] => true
    | _ => false
  | .val a, Γ, es => match es with
    | [e] => chkE M a Γ e && plainTest e
    | _ => false
  | .tru a, Γ, es => match es with
    | [e] => chkE M a Γ e && plainTest e
    | _ => false
  | .cmp o a b, Γ, es => match es with
    | [.Compare a' [o'] [b'] _] => decide (o' = o.ast) && (chkE M a Γ a' && (chkE M b Γ b' && !behindInMarks o' b'))
    | _ => false
  | .chain o p a b c, Γ, es => match es with
    | [.Compare a' [o', p'] [b', c'] _] => decide (o' = o.ast) && (decide (p' = p.ast) && (chkE M a Γ a' && (chkE M b Γ b' && (chkE M c Γ c' && (!behindInMarks o' b' && !behindInMarks p' c')))))
    | _ => false
  | .and l, Γ, es => match es with
    | [.BoolOp .And es _] => chkTL M l Γ es
    | _ => false
  | .or l, Γ, es => match es with
    | [.BoolOp .Or es _] => chkTL M l Γ es
    | _ => false
  | .not a, Γ, es => match es with
    | [.UnaryOp .Not a' _] => chkT M a Γ a'
    | _ => false
def chkI (M : ModI) : II → Gam → Expr → Expr → Bool
  | .of a, Γ, _, e => chkE M a Γ e
  | .rng1 a, Γ, _, e => match e with
    | .Call (.Name x _) [a'] [] _ => decide (x = "range") && (Γ.gl x && (chkE M a Γ a' && notStar a'))
    | _ => false
  | .rng2 a b, Γ, _, e => match e with
    | .Call (.Name x _) [a', b'] [] _ => decide (x = "range") && (Γ.gl x && (chkE M a Γ a' && (chkE M b Γ b' && (notStar a' && notStar b'))))
    | _ => false
  | .enum a, Γ, t, e => match e with
    | .Call (.Name x _) [a'] [] _ => decide (x = "enumerate") && (Γ.gl x && (chkE M a Γ a' && (notStar a' && isTuple t)))
    | _ => false
  | .zip a b, Γ, t, e => match e with
    | .Call (.Name x _) [a', b'] [] _ => decide (x = "zip") && (Γ.gl x && (chkE M a Γ a' && (chkE M b Γ b' && (notStar a' && (notStar b' && isTuple t)))))
    | _ => false
def chkG : TP → Gam → Expr → Bool
  | .name i, Γ, e => match e with
    | .Name x _ => decide (Γ.N[i]? = some x) && Γ.loc x
    | _ => false
  | .tup ts, Γ, e => match e with
    | .Tuple es _ _ => chkGs ts Γ es
    | _ => false
def chkGs : List TP → Gam → List Expr → Bool
  | [], _, es => match es with
    | [] => true
    | _ => false
  | t :: ts, Γ, es => match es with
    | e :: r => chkG t Γ e && (notStar e && chkGs ts Γ r)
    | _ => false
end
end G
end
section
set_option Elab.async false
set_option linter.all false
set_option maxRecDepth 100000
/-! GSnd: the checker is right: expressions. -/
namespace G
open PySem PySem.Spec PyProof.Rows L2
variable [Tabl]

/-- what a context must bear, so that checked expressions do what their form says -/
structure CxB (M : ModI) (ca : CA) (F : FEnv) (Γ : Gam) (X : Cx) : Prop where
  sc : X.env.scope = Γ.sc
  N : X.N = Γ.N
  nd : Γ.N.Nodup
  fl : X.fn = Γ.fl
  calm : X.calm = true
  un : X.A.units + 80 < cLine
  bi : ∀ x ∈ bltNames, X.mg x = none
  fn : ∀ (x : Str) (f : Nat), M.fn.lookup x = some f → ∃ (k : Nat) (fa : Addr) (fd : FuncData) (ps : List Str), FnOk X.prog X.w X.K X.mg X.base (L2N.CX X.prog X.w) k fa fd ps (spF X.K ca F f) ∧ Room k X.A ∧ X.mg x = some (.ref fa) ∧ PySem.W.keepIn X.K (.ref fa) = true ∧ Binds X.K fd ps []

/-- .. and the making of lambdas, where that is allowed -/
structure CxE (M : ModI) (ca : CA) (F : FEnv) (Γ : Gam) (X : Cx) : Prop extends CxB M ca F Γ X where
  lam : Γ.lm = true → ∀ (c : CE) (body : Expr) (scope : Scope) (lpos p pos : Pos), LamX.LamS Γ.sc scope → Gl X errName → (∀ X' : Cx, CxB M ca F (Γ.lamG scope) X' → SE X' ca F c body) →
    SE X ca F (cLam c) (.Call (.Name errName p) [.Lambda ⟨[], [], none, [], [], none, []⟩ body scope lpos] [] pos)
theorem CxB.toE {M : ModI} {ca : CA} {F : FEnv} {Γ : Gam} {X : Cx} (C : CxB M ca F Γ X) (h : Γ.lm = false) : CxE M ca F Γ X := ⟨C, fun z => by rw [h] at z; cases z⟩
section
variable {M : ModI} {ca : CA} {F : FEnv} {Γ : Gam} {X : Cx}
theorem CxE.blk (C : CxE M ca F Γ X) (scope : Scope) (s : Shared) (H : Hp) (Cl : Addr) (cl : List (Str × Addr)) (fp : List Addr) : CxE M ca F (Γ.blk scope) (X.blk s H scope (compEnvC scope cl Cl X.env) fp) :=
  CxB.toE { sc := by
              show relS scope X.env.scope = relS scope Γ.sc
              rw [C.sc]
            N := C.N
            nd := C.nd
            fl := rfl
            calm := C.calm
            un := C.un
            bi := C.bi
            fn := C.fn } rfl
theorem CxE.vis (C : CxE M ca F Γ X) {x : Str} (h : Γ.vis x = true) : Vis X.env.scope x := by
  unfold Vis
  rw [C.sc]
  unfold Gam.vis at h
  split at h <;> first | exact .inl (by assumption) | exact .inr (.inl (by assumption)) | exact .inr (.inr (by assumption)) | cases h
theorem CxE.gl (C : CxE M ca F Γ X) {x : Str} (h : Γ.gl x = true) : Gl X x := by
  unfold Gl Env.kindOf
  rw [C.sc]
  unfold Gam.gl at h
  split at h <;> first | assumption | cases h
theorem CxE.lcl (C : CxE M ca F Γ X) {x : Str} (h : Γ.lcl x = true) : X.env.scope.names.lookup x = some .local := by
  rw [C.sc]
  unfold Gam.lcl at h
  split at h <;> first | assumption | cases h
theorem CxE.loc (C : CxE M ca F Γ X) {x : Str} (h : Γ.loc x = true) : L2.Loc X.env.scope x ∧ (X.fn x = true ∨ X.env.scope.names.lookup x = some .local) := by
  unfold L2.Loc
  rw [C.sc, C.fl]
  unfold Gam.loc at h
  split at h
  · exact ⟨.inl (by assumption), .inr (by assumption)⟩
  · exact ⟨.inr (by assumption), .inl h⟩
  · cases h
theorem noDbg_ok {x : Str} (h : noDbg x = true) : (x == ("__debug__" : Str)) = false ∧ (x == ("__classdict__" : Str)) = false := by
  unfold noDbg at h
  rw [Bool.and_eq_true, Bool.not_eq_true', Bool.not_eq_true'] at h
  exact h
theorem o2_ok (o : O2) : OpS X (binaryOp o.ast) o.f := by
  cases o
  · exact os_add
  · exact os_sub
  · exact os_mul
  · exact os_fdiv
  · exact os_mod
  · exact os_pow
theorem oc_ok (C : CxE M ca F Γ X) (o : OC) : OpS X (compareOp o.ast) o.f := by
  have h := C.un
  have h1 : X.A.units + 64 < cLine := Nat.lt_of_le_of_lt (by omega) h
  have h2 : X.A.units + 65 < cLine := Nat.lt_of_le_of_lt (by omega) h
  cases o
  · exact os_eq h1
  · exact os_ne h1
  · exact os_lt h1
  · exact os_le
  · exact os_lt_int
  · exact os_ge
  · exact os_in h2
  · exact os_notin h2
  · exact os_is
  · exact os_isnot
theorem bltN (C : CxE M ca F Γ X) {x : Str} (h : x ∈ bltNames) : X.mg x = none := C.bi x h
theorem fb_ok (C : CxE M ca F Γ X) (g : FB) {x : Str} (hx : x = g.name) (hg : Gl X x) {e : Expr} {es : List Expr} {cl : CL} {p pos : Pos} (ha : SA X ca F cl (e :: es)) (hs : (e :: es).all notStar = true) : SE X ca F (cFn g.f cl) (.Call (.Name x p) (e :: es) [] pos) := by
  subst hx
  rw [List.all_cons, Bool.and_eq_true] at hs
  have s1 := star_cons (es := es) (env := X.env) hs.1
  have s2 := star_plain (es := es) (env := X.env) (pos := pos) hs.2
  have hm : X.mg g.name = none := C.bi _ (by cases g <;> decide)
  cases g
  · exact se_fnB fs_len hg hm boot_len ha (by decide) (by decide) s1 s2
  · exact se_fnT fs_int hg hm boot_int ha (by decide) (by decide) s1 s2
  · exact se_fnT fs_bool hg hm boot_bool ha (by decide) (by decide) s1 s2
  · exact se_fnB fs_abs hg hm boot_abs ha (by decide) (by decide) s1 s2
  · exact se_fnB (fs_max C.calm) hg hm boot_max ha (by decide) (by decide) s1 s2
  · exact se_fnB (fs_min C.calm) hg hm boot_min ha (by decide) (by decide) s1 s2
  · exact se_fnT fs_tuple hg hm boot_tuple ha (by decide) (by decide) s1 s2
  · exact se_fnT fs_list hg hm boot_list ha (by decide) (by decide) s1 s2
  · exact se_fnB (fs_all C.calm) hg hm boot_all ha (by decide) (by decide) s1 s2
  · exact se_fnB (fs_any C.calm) hg hm boot_any ha (by decide) (by decide) s1 s2
  · exact se_fnB (fs_sum C.calm) hg hm boot_sum ha (by decide) (by decide) s1 s2
  · exact se_fnB (fs_sorted C.un) hg hm boot_sorted ha (by decide) (by decide) s1 s2
theorem isi_ok (C : CxE M ca F Γ X) (t : BT) {x y : Str} (hx : x = "isinstance") (hy : y = t.name) (hg : Gl X x) (hg2 : Gl X y) {a : Expr} {c : CE} {p p2 pos : Pos} (ha : SE X ca F c a) (hs : notStar a = true) : SE X ca F (cFn (fIs t) (lCons c lNil)) (.Call (.Name x p) [a, .Name y p2] [] pos) := by
  subst hx hy
  have hm : X.mg "isinstance" = none := C.bi _ (by decide)
  have hm2 : X.mg t.name = none := C.bi _ (by cases t <;> decide)
  have hv : bootBuiltins t.name = some (.type (btV t)) := by
    cases t
    · exact boot_int
    · exact boot_bool
    · exact boot_tuple
    · exact boot_str
    · exact boot_list
  exact se_isi hg hm boot_isinstance hg2 hm2 hv (by cases t <;> decide) (by cases t <;> decide) ha (star_cons hs)
theorem st_chainR {op op' : CmpOp} {f f' : LH → PV → PV → Option PV} {a b c : Expr} {ca1 cb cc : CE} {pos : Pos} (ho : OpS X (compareOp op) f) (ho' : OpS X (compareOp op') f') (ha : SE X ca F ca1 a) (hb : SE X ca F cb b) (hc : SE X ca F cc c)
    (hm : behindInMarks op b = false) (hm' : behindInMarks op' c = false) : ST X ca F (tVal (cChain f f' ca1 cb cc)) (.Compare a [op, op'] [b, c] pos) := fun W tk =>
  PT.imp (pt_chain ho.opR ho'.opR (ha W tk) (hb W tk) (hc W tk) hm') fun σ H Q ⟨S, env, eH, R, e, p⟩ => by
    subst eH
    exact chain_imp (X := X) (Q := fun x H' => ∃ k, x = .bl k ∧ Q k H') ⟨S, env, rfl, R, e, PostE.ofT p⟩
theorem se_neg {i : Int} {k : Nat} {p pos : Pos} : SE X ca F (cC (.int (-i))) (.UnaryOp .USub (.Constant (.int i) k p) pos) := fun W _ =>
  PE.imp (pe_un un_neg pe_int) fun σ H Q ⟨S, env, eH, R, e, p⟩ => by
    subst eH
    exact ⟨i, rfl, PostE.here R (by rw [RepV]) p⟩
end
mutual
theorem sG {M : ModI} {ca : CA} {F : FEnv} : ∀ (t : TP) (Γ : Gam) (X : Cx) (e : Expr), CxE M ca F Γ X → chkG t Γ e = true → SG X t e
  | .name i, Γ, X, e, C, h => by
    simp only [chkG] at h
    split at h
    · rw [Bool.and_eq_true] at h
      obtain ⟨h1, h2⟩ := h
      obtain ⟨l1, l2⟩ := C.loc h2
      exact sg_name (by rw [C.N]; exact C.nd) (by rw [C.N]; exact of_decide_eq_true h1) l1 l2
    · cases h
  | .tup ts, Γ, X, e, C, h => by
    simp only [chkG] at h
    split at h
    · obtain ⟨h1, h2, h3⟩ := sGs ts Γ X _ C h
      exact sg_tup C.calm h1 (by rw [assign_len h2]; exact h3) (assign_star h2)
    · cases h
theorem sGs {M : ModI} {ca : CA} {F : FEnv} : ∀ (t : List TP) (Γ : Gam) (X : Cx) (e : List Expr), CxE M ca F Γ X → chkGs t Γ e = true → SGs X t e ∧ e.all notStar = true ∧ e.length = t.length
  | [], Γ, X, e, C, h => by
    simp only [chkGs] at h
    split at h
    · exact ⟨sgs_nil, rfl, rfl⟩
    · cases h
  | t :: ts, Γ, X, e, C, h => by
    simp only [chkGs] at h
    split at h
    · rw [Bool.and_eq_true, Bool.and_eq_true] at h
      obtain ⟨h1, h2, h3⟩ := h
      obtain ⟨q1, q2, q3⟩ := sGs ts Γ X _ C h3
      exact ⟨sgs_cons (sG t Γ X _ C h1) q1 (assignM h2), by rw [List.all_cons, h2, q2]; rfl, by rw [List.length_cons, List.length_cons, q3]⟩
    · cases h
end
mutual
theorem sE {M : ModI} {ca : CA} {F : FEnv} : ∀ (ie : IE) (Γ : Gam) (X : Cx) (e : Expr), CxE M ca F Γ X → chkE M ie Γ e = true → SE X ca F (den ie) e
  | .var i, Γ, X, e, C, h => by
    simp only [chkE] at h
    split at h
    · rw [Bool.and_eq_true, Bool.and_eq_true] at h
      obtain ⟨h1, h2, h3⟩ := h
      exact se_var (by rw [C.N]; exact of_decide_eq_true h1) (C.vis h2) (noDbg_ok h3).1 (noDbg_ok h3).2
    · cases h
  | .int i, Γ, X, e, C, h => by
    simp only [chkE] at h
    split at h
    · rw [of_decide_eq_true h]; exact se_int
    · cases h
  | .neg i, Γ, X, e, C, h => by
    simp only [chkE] at h
    split at h
    · rw [of_decide_eq_true h]; exact se_neg
    · cases h
  | .bl i, Γ, X, e, C, h => by
    simp only [chkE] at h
    split at h
    · rw [of_decide_eq_true h]; exact se_bl
    · cases h
  | .non, Γ, X, e, C, h => by
    simp only [chkE] at h
    split at h
    · exact se_non
    · cases h
  | .str s, Γ, X, e, C, h => by
    simp only [chkE] at h
    split at h
    · rw [Bool.and_eq_true] at h
      rw [← of_decide_eq_true h.1]
      exact se_str h.2
    · cases h
  | .op o a b, Γ, X, e, C, h => by
    simp only [chkE] at h
    split at h
    · simp only [Bool.and_eq_true] at h
      obtain ⟨h1, h2, h3⟩ := h
      rw [of_decide_eq_true h1]
      exact se_op (o2_ok o) (sE a Γ X _ C h2) (sE b Γ X _ C h3)
    · cases h
  | .cmp o a b, Γ, X, e, C, h => by
    simp only [chkE] at h
    split at h
    · simp only [Bool.and_eq_true, Bool.not_eq_true'] at h
      obtain ⟨h1, h2, h3, h4⟩ := h
      rw [of_decide_eq_true h1] at h4 ⊢
      exact se_cmp (oc_ok C o) (sE a Γ X _ C h2) (sE b Γ X _ C h3) h4
    · cases h
  | .chain o p a b c, Γ, X, e, C, h => by
    simp only [chkE] at h
    split at h
    · simp only [Bool.and_eq_true, Bool.not_eq_true'] at h
      obtain ⟨h1, h2, h3, h4, h5, h6, h7⟩ := h
      rw [of_decide_eq_true h1] at h6 ⊢
      rw [of_decide_eq_true h2] at h7 ⊢
      exact se_chain (oc_ok C o) (oc_ok C p) (sE a Γ X _ C h3) (sE b Γ X _ C h4) (sE c Γ X _ C h5) h6 h7 fun ho ho' ha hb hc => pe_chain ho ho' ha hb hc h7
    · cases h
  | .tup l, Γ, X, e, C, h => by
    simp only [chkE] at h
    split at h
    · exact se_tup (sL l Γ X _ C h)
    · cases h
  | .lst l, Γ, X, e, C, h => by
    simp only [chkE] at h
    split at h
    · exact se_lst (sL l Γ X _ C h)
    · cases h
  | .newL l, Γ, X, e, C, h => by
    simp only [chkE] at h
    split at h
    · exact se_newL (sL l Γ X _ C h)
    · cases h
  | .thaw o a b, Γ, X, e, C, h => by
    simp only [chkE] at h
    split at h
    · simp only [Bool.and_eq_true, Bool.or_eq_true] at h
      obtain ⟨h0, h1, h2, h3⟩ := h
      rw [of_decide_eq_true h1]
      rcases h0 with h0 | h0
      · have := of_decide_eq_true h0
        subst this
        exact se_thaw2 new_add (sE a Γ X _ C h2) (sE b Γ X _ C h3)
      · have := of_decide_eq_true h0
        subst this
        exact se_thaw2 new_mul (sE a Γ X _ C h2) (sE b Γ X _ C h3)
    · cases h
  | .and l, Γ, X, e, C, h => by
    simp only [chkE] at h
    split at h
    · exact sA l Γ X _ C h _
    · cases h
  | .or l, Γ, X, e, C, h => by
    simp only [chkE] at h
    split at h
    · exact sO l Γ X _ C h _
    · cases h
  | .not a, Γ, X, e, C, h => by
    simp only [chkE] at h
    split at h
    · exact se_not (sE a Γ X _ C h)
    · cases h
  | .ife t a b, Γ, X, e, C, h => by
    simp only [chkE] at h
    split at h
    · simp only [Bool.and_eq_true] at h
      obtain ⟨h1, h2, h3⟩ := h
      exact se_if (sT t Γ X _ C h1) (sE a Γ X _ C h2) (sE b Γ X _ C h3)
    · cases h
  | .ix a i, Γ, X, e, C, h => by
    simp only [chkE] at h
    split at h
    · simp only [Bool.and_eq_true] at h
      obtain ⟨h1, h2, h3⟩ := h
      exact se_ix (Nat.lt_of_le_of_lt (by omega) C.un) (sE a Γ X _ C h1) (sE i Γ X _ C h2) (plain_ix h3)
    · cases h
  | .sl00 a, Γ, X, e, C, h => by
    simp only [chkE] at h
    split at h
    · exact se_slice00 (sE a Γ X _ C h)
    · cases h
  | .sl10 a b, Γ, X, e, C, h => by
    simp only [chkE] at h
    split at h
    · simp only [Bool.and_eq_true] at h
      exact se_slice10 (sE a Γ X _ C h.1) (sE b Γ X _ C h.2)
    · cases h
  | .sl01 a b, Γ, X, e, C, h => by
    simp only [chkE] at h
    split at h
    · simp only [Bool.and_eq_true] at h
      exact se_slice01 (sE a Γ X _ C h.1) (sE b Γ X _ C h.2)
    · cases h
  | .sl11 a b c, Γ, X, e, C, h => by
    simp only [chkE] at h
    split at h
    · simp only [Bool.and_eq_true] at h
      exact se_slice11 (sE a Γ X _ C h.1) (sE b Γ X _ C h.2.1) (sE c Γ X _ C h.2.2)
    · cases h
  | .call f l, Γ, X, e, C, h => by
    simp only [chkE] at h
    split at h
    · rw [Bool.and_eq_true, Bool.and_eq_true, Bool.and_eq_true, Bool.and_eq_true] at h
      obtain ⟨h1, h2, h3, h4, h5⟩ := h
      rw [List.all_cons, Bool.and_eq_true] at h5
      obtain ⟨k, fa, fd, ps, G0, hr, hm, hk, hb⟩ := C.fn _ _ (of_decide_eq_true h1)
      exact se_call G0 hr (C.gl h2) hm hk hb (sL l Γ X _ C h4) (noDbg_ok h3).1 (star_cons h5.1) (star_plain h5.2)
    · cases h
  | .fn g l, Γ, X, e, C, h => by
    simp only [chkE] at h
    split at h
    · rw [Bool.and_eq_true, Bool.and_eq_true, Bool.and_eq_true] at h
      obtain ⟨h1, h2, h3, h4⟩ := h
      exact fb_ok C g (of_decide_eq_true h1) (C.gl h2) (sL l Γ X _ C h3) h4
    · cases h
  | .isi t a, Γ, X, e, C, h => by
    simp only [chkE] at h
    split at h
    · simp only [Bool.and_eq_true] at h
      obtain ⟨h1, h2, h3, h4, h5, h6⟩ := h
      exact isi_ok C t (of_decide_eq_true h1) (of_decide_eq_true h2) (C.gl h3) (C.gl h4) (sE a Γ X _ C h5) h6
    · cases h
  | .comp own it tg t el, Γ, X, e, C, h => by
    simp only [chkE] at h
    split at h
    · simp only [Bool.and_eq_true] at h
      obtain ⟨h1, h2, h3, h4, h5, h6, h7⟩ := h
      refine se_comp C.calm (by rw [C.N]; exact C.nd) (sI it Γ X _ _ C h1) (by rw [C.N, C.sc]; exact blkOk_by h2) (fun j hj => ?_) (fun s H Cl cl fp => sG tg _ _ _ (C.blk _ s H Cl cl fp) h4) (fun s H Cl cl fp => sTs t _ _ _ (C.blk _ s H Cl cl fp) h5)
        (fun s H Cl cl fp => sE el _ _ _ (C.blk _ s H Cl cl fp) h6 W0 takes0N) (no_set h7)
      have := List.all_eq_true.mp h3 j hj
      exact of_decide_eq_true this
    · cases h
  | .pop0 a, Γ, X, e, C, h => by
    simp only [chkE] at h
    split at h
    · simp only [Bool.and_eq_true] at h
      obtain ⟨h1, h2, h3, h4⟩ := h
      rw [of_decide_eq_true h1]
      exact se_pop0 (sE a Γ X _ C h2) (base_of h3) (few1 rfl) h4 rfl
    · cases h
  | .pop a, Γ, X, e, C, h => by
    simp only [chkE] at h
    split at h
    · simp only [Bool.and_eq_true] at h
      obtain ⟨h1, h2, h3, h4⟩ := h
      rw [of_decide_eq_true h1]
      exact se_pop (sE a Γ X _ C h2) fun hp => pe_bm0 PySem.F.plainAttrs_list PySem.F.slot_list_pop PySem.F.type_list_pop mt_pop hp (base_of h3) h4
    · cases h
  | .setSort a, Γ, X, e, C, h => by
    simp only [chkE] at h
    split at h
    · simp only [Bool.and_eq_true] at h
      obtain ⟨h1, h2, h3, h4, h5, h6⟩ := h
      rw [of_decide_eq_true h1] at h3 ⊢
      rw [of_decide_eq_true h2] at h4 ⊢
      exact se_setSort C.calm (Nat.lt_of_le_of_lt (by omega) C.un) (C.gl h3) (C.bi _ (by decide)) (C.gl h4) (C.bi _ (by decide)) (sE a Γ X _ C h5) (star_one h6)
    · cases h
  | .setLen a, Γ, X, e, C, h => by
    simp only [chkE] at h
    split at h
    · simp only [Bool.and_eq_true] at h
      obtain ⟨h1, h2, h3, h4, h5, h6⟩ := h
      rw [of_decide_eq_true h1] at h3 ⊢
      rw [of_decide_eq_true h2] at h4 ⊢
      exact se_setLen C.calm (C.gl h3) (C.bi _ (by decide)) (C.gl h4) (C.bi _ (by decide)) (sE a Γ X _ C h5) (star_one h6)
    · cases h
  | .lam a, Γ, X, e, C, h => by
    simp only [chkE] at h
    split at h
    · simp only [Bool.and_eq_true] at h
      obtain ⟨h1, h2, h3, h4, h5⟩ := h
      rw [of_decide_eq_true h2] at h3 ⊢
      exact C.lam h1 _ _ _ _ _ _ (LamX.lamS_by h4) (C.gl h3) fun X' B => sE a _ X' _ (B.toE rfl) h5
    · cases h
  | .x _ _, Γ, X, e, C, h => by
    simp only [chkE] at h
    cases h
theorem sL {M : ModI} {ca : CA} {F : FEnv} : ∀ (l : IL) (Γ : Gam) (X : Cx) (es : List Expr), CxE M ca F Γ X → chkL M l Γ es = true → SA X ca F (denL l) es
  | .nil, Γ, X, es, C, h => by
    simp only [chkL] at h
    split at h
    · exact sa_nil
    · cases h
  | .cons a l, Γ, X, es, C, h => by
    simp only [chkL] at h
    split at h
    · simp only [Bool.and_eq_true] at h
      exact sa_cons (sE a Γ X _ C h.1) (sL l Γ X _ C h.2.2) (star_cons h.2.1)
    · cases h
theorem sA {M : ModI} {ca : CA} {F : FEnv} : ∀ (l : IL) (Γ : Gam) (X : Cx) (es : List Expr), CxE M ca F Γ X → chkA M l Γ es = true → ∀ pos, SE X ca F (denA l) (.BoolOp .And es pos)
  | .nil, Γ, X, es, C, h => by simp only [chkA] at h; cases h
  | .cons a .nil, Γ, X, es, C, h => by
    simp only [chkA] at h
    split at h
    · exact fun pos => se_one (sE a Γ X _ C h)
    · cases h
  | .cons a (.cons b l), Γ, X, es, C, h => by
    simp only [chkA] at h
    split at h
    · rw [Bool.and_eq_true] at h
      exact fun pos => se_and (sE a Γ X _ C h.1) (sA (.cons b l) Γ X _ C h.2 pos)
    · cases h
theorem sO {M : ModI} {ca : CA} {F : FEnv} : ∀ (l : IL) (Γ : Gam) (X : Cx) (es : List Expr), CxE M ca F Γ X → chkA M l Γ es = true → ∀ pos, SE X ca F (denO l) (.BoolOp .Or es pos)
  | .nil, Γ, X, es, C, h => by simp only [chkA] at h; cases h
  | .cons a .nil, Γ, X, es, C, h => by
    simp only [chkA] at h
    split at h
    · exact fun pos => se_one (sE a Γ X _ C h)
    · cases h
  | .cons a (.cons b l), Γ, X, es, C, h => by
    simp only [chkA] at h
    split at h
    · rw [Bool.and_eq_true] at h
      exact fun pos => se_or (sE a Γ X _ C h.1) (sO (.cons b l) Γ X _ C h.2 pos)
    · cases h
theorem sT {M : ModI} {ca : CA} {F : FEnv} : ∀ (t : IT) (Γ : Gam) (X : Cx) (e : Expr), CxE M ca F Γ X → chkT M t Γ e = true → ST X ca F (denT t) e
  | .yes, Γ, X, e, C, h => by simp only [chkT] at h; cases h
  | .val a, Γ, X, e, C, h => by
    simp only [chkT] at h
    rw [Bool.and_eq_true] at h
    exact st_val (sE a Γ X _ C h.1) (plain_test h.2)
  | .tru a, Γ, X, e, C, h => by
    simp only [chkT] at h
    rw [Bool.and_eq_true] at h
    exact st_tru (sE a Γ X _ C h.1) (plain_test h.2)
  | .cmp o a b, Γ, X, e, C, h => by
    simp only [chkT] at h
    split at h
    · simp only [Bool.and_eq_true, Bool.not_eq_true'] at h
      obtain ⟨h1, h2, h3, h4⟩ := h
      rw [of_decide_eq_true h1] at h4 ⊢
      exact st_cmp (oc_ok C o) (sE a Γ X _ C h2) (sE b Γ X _ C h3) h4
    · cases h
  | .chain o p a b c, Γ, X, e, C, h => by
    simp only [chkT] at h
    split at h
    · simp only [Bool.and_eq_true, Bool.not_eq_true'] at h
      obtain ⟨h1, h2, h3, h4, h5, h6, h7⟩ := h
      rw [of_decide_eq_true h1] at h6 ⊢
      rw [of_decide_eq_true h2] at h7 ⊢
      exact st_chainR (oc_ok C o) (oc_ok C p) (sE a Γ X _ C h3) (sE b Γ X _ C h4) (sE c Γ X _ C h5) h6 h7
    · cases h
  | .and l, Γ, X, e, C, h => by
    simp only [chkT] at h
    split at h
    · exact (sTA l Γ X _ C h _).st
    · cases h
  | .or l, Γ, X, e, C, h => by
    simp only [chkT] at h
    split at h
    · exact (sTO l Γ X _ C h _).st
    · cases h
  | .not a, Γ, X, e, C, h => by
    simp only [chkT] at h
    split at h
    · exact st_not (sT a Γ X _ C h)
    · cases h
theorem sTA {M : ModI} {ca : CA} {F : FEnv} : ∀ (l : ITL) (Γ : Gam) (X : Cx) (es : List Expr), CxE M ca F Γ X → chkTL M l Γ es = true → ∀ pos, STW X ca F (denTA l) (.BoolOp .And es pos)
  | .one a, Γ, X, es, C, h => by
    simp only [chkTL] at h
    split at h
    · exact fun pos => stw_and1 (sT a Γ X _ C h)
    · cases h
  | .cons a l, Γ, X, es, C, h => by
    simp only [chkTL] at h
    split at h
    · rw [Bool.and_eq_true] at h
      exact fun pos => stw_and (sT a Γ X _ C h.1) (sTA l Γ X _ C h.2 pos)
    · cases h
theorem sTO {M : ModI} {ca : CA} {F : FEnv} : ∀ (l : ITL) (Γ : Gam) (X : Cx) (es : List Expr), CxE M ca F Γ X → chkTL M l Γ es = true → ∀ pos, STW X ca F (denTO l) (.BoolOp .Or es pos)
  | .one a, Γ, X, es, C, h => by
    simp only [chkTL] at h
    split at h
    · exact fun pos => stw_or1 (sT a Γ X _ C h)
    · cases h
  | .cons a l, Γ, X, es, C, h => by
    simp only [chkTL] at h
    split at h
    · rw [Bool.and_eq_true] at h
      exact fun pos => stw_or (sT a Γ X _ C h.1) (sTO l Γ X _ C h.2 pos)
    · cases h
theorem sTs {M : ModI} {ca : CA} {F : FEnv} : ∀ (t : IT) (Γ : Gam) (X : Cx) (es : List Expr), CxE M ca F Γ X → chkTs M t Γ es = true → STs X ca F (denT t) es
  | .yes, Γ, X, es, C, h => by
    simp only [chkTs] at h
    split at h
    · exact sts_nil
    · cases h
  | .val a, Γ, X, e, C, h => by
    simp only [chkTs] at h
    split at h
    · rw [Bool.and_eq_true] at h
      exact sts_one (st_val (sE a Γ X _ C h.1) (plain_test h.2) W0 takes0N)
    · cases h
  | .tru a, Γ, X, e, C, h => by
    simp only [chkTs] at h
    split at h
    · rw [Bool.and_eq_true] at h
      exact sts_one (st_tru (sE a Γ X _ C h.1) (plain_test h.2) W0 takes0N)
    · cases h
  | .cmp o a b, Γ, X, e, C, h => by
    simp only [chkTs] at h
    split at h
    · simp only [Bool.and_eq_true, Bool.not_eq_true'] at h
      obtain ⟨h1, h2, h3, h4⟩ := h
      rw [of_decide_eq_true h1] at h4 ⊢
      exact sts_one (st_cmp (oc_ok C o) (sE a Γ X _ C h2) (sE b Γ X _ C h3) h4 W0 takes0N)
    · cases h
  | .chain o p a b c, Γ, X, e, C, h => by
    simp only [chkTs] at h
    split at h
    · simp only [Bool.and_eq_true, Bool.not_eq_true'] at h
      obtain ⟨h1, h2, h3, h4, h5, h6, h7⟩ := h
      rw [of_decide_eq_true h1] at h6 ⊢
      rw [of_decide_eq_true h2] at h7 ⊢
      exact sts_one (st_chainR (oc_ok C o) (oc_ok C p) (sE a Γ X _ C h3) (sE b Γ X _ C h4) (sE c Γ X _ C h5) h6 h7 W0 takes0N)
    · cases h
  | .and l, Γ, X, e, C, h => by
    simp only [chkTs] at h
    split at h
    · exact sts_one ((sTA l Γ X _ C h _).st W0 takes0N)
    · cases h
  | .or l, Γ, X, e, C, h => by
    simp only [chkTs] at h
    split at h
    · exact sts_one ((sTO l Γ X _ C h _).st W0 takes0N)
    · cases h
  | .not a, Γ, X, e, C, h => by
    simp only [chkTs] at h
    split at h
    · exact sts_one (st_not (sT a Γ X _ C h) W0 takes0N)
    · cases h
theorem sI {M : ModI} {ca : CA} {F : FEnv} : ∀ (it : II) (Γ : Gam) (X : Cx) (tg e : Expr), CxE M ca F Γ X → chkI M it Γ tg e = true → SI X ca F (denI it) tg e
  | .of a, Γ, X, tg, e, C, h => by
    simp only [chkI] at h
    exact si_of (sE a Γ X _ C h)
  | .rng1 a, Γ, X, tg, e, C, h => by
    simp only [chkI] at h
    split at h
    · simp only [Bool.and_eq_true] at h
      obtain ⟨h1, h2, h3, h4⟩ := h
      rw [of_decide_eq_true h1] at h2 ⊢
      exact si_range1 (C.gl h2) (C.bi _ (by decide)) (sE a Γ X _ C h3) (star_one h4)
    · cases h
  | .rng2 a b, Γ, X, tg, e, C, h => by
    simp only [chkI] at h
    split at h
    · simp only [Bool.and_eq_true] at h
      obtain ⟨h1, h2, h3, h4, h5, h6⟩ := h
      rw [of_decide_eq_true h1] at h2 ⊢
      exact si_range2 (C.gl h2) (C.bi _ (by decide)) (sE a Γ X _ C h3) (sE b Γ X _ C h4) (by rw [star_cons h5, star_one h6]) (star_one h6)
    · cases h
  | .enum a, Γ, X, tg, e, C, h => by
    simp only [chkI] at h
    split at h
    · simp only [Bool.and_eq_true] at h
      obtain ⟨h1, h2, h3, h4, h5⟩ := h
      rw [of_decide_eq_true h1] at h2 ⊢
      cases tg with
      | Tuple es k p => exact si_enum (C.gl h2) (C.bi _ (by decide)) (sE a Γ X _ C h3) (star_one h4)
      | _ => cases h5
    · cases h
  | .zip a b, Γ, X, tg, e, C, h => by
    simp only [chkI] at h
    split at h
    · simp only [Bool.and_eq_true] at h
      obtain ⟨h1, h2, h3, h4, h5, h6, h7⟩ := h
      rw [of_decide_eq_true h1] at h2 ⊢
      cases tg with
      | Tuple es k p => exact si_zip (C.gl h2) (C.bi _ (by decide)) (sE a Γ X _ C h3) (sE b Γ X _ C h4) (star_cons h5) (star_one h6) (star_plain (es := [_]) (by rw [List.all_cons, h6]; rfl))
      | _ => cases h7
    · cases h
end
end G
end
section
set_option Elab.async false
set_option linter.all false
set_option maxRecDepth 100000
/-! GSt: the checker of statements, and that it is right. -/
namespace G
open PySem PySem.Spec PyProof.Rows L2
variable [Tabl]

section
variable {X : Cx} {ca : CA} {F : FEnv} {a b c e : Expr} {cl : CL} {pos : Pos} {x y z : Str}
theorem repL_three {K : PySem.W.Frag} {S : GS} {x y z : PV} {vs : List V} (h : RepL K S [x, y, z] vs) : ∃ u v w, vs = [u, v, w] ∧ RepV K S x u ∧ RepV K S y v ∧ RepV K S z w := by
  rw [RepL] at h
  obtain ⟨u, r, rfl, h1, h⟩ := h
  obtain ⟨v, w, rfl, h2, h3⟩ := repL_two h
  exact ⟨u, v, w, rfl, h1, h2, h3⟩
theorem put3 {i j l : Nat} {u v w : PV} {env env' : Env} (q : TP.putL [.name i, .name j, .name l] [u, v, w] env = some env') : env' = ((env.set i (some u)).set j (some v)).set l (some w) := by
  simp only [TP.putL, TP.put] at q
  split at q
  · rename_i e1 h1
    split at h1
    · cases h1
      split at q
      · rename_i e2 h2
        split at h2
        · cases h2
          split at q
          · rename_i e3 h3
            split at h3
            · cases h3
              cases q
              rfl
            · cases h3
          · cases q
        · cases h2
      · cases q
    · cases h1
  · cases q
theorem ss_par3 {i j l : Nat} {px py pz pt : Pos} {kt k2 pt2} (hc : X.calm = true) (hN : X.N.Nodup) (hi : X.N[i]? = some x) (hj : X.N[j]? = some y) (hl : X.N[l]? = some z) (hij : i ≠ j) (hil : i ≠ l) (hjl : j ≠ l)
    (hx : X.env.scope.names.lookup x = some .local) (hy : X.env.scope.names.lookup y = some .local) (hz : X.env.scope.names.lookup z = some .local) (ha : SA X ca F cl [a, b, c])
    (hw : swappedStores [.Tuple [.Name x px, .Name y py, .Name z pz] kt pt] (.Tuple [a, b, c] k2 pt2) X.env = pure (some [x, y, z]))
    (hs : swapsWithSole [.Tuple [.Name x px, .Name y py, .Name z pz] kt pt] (.Tuple [a, b, c] k2 pt2) pos.line X.env = pure false) :
    SS X ca F (sTgt (.tup [.name i, .name j, .name l]) (cTup cl)) (.Assign [.Tuple [.Name x px, .Name y py, .Name z pz] kt pt] (.Tuple [a, b, c] k2 pt2) pos) := fun W tk =>
  PS.imp (L2.ps_par3 hc hN hi hj hl hij hil hjl hx hy hz (ha W tk) hw hs) fun D σ H ⟨S, env, eH, R, e, p⟩ => by
    subst eH
    have p : PostS X.K ca W S D (sBind ((cl F env S.h).bind fun xs h => if sizeOk xs.length then .ok (.tup xs) h else .fail) fun x h => match TP.put (.tup [.name i, .name j, .name l]) x env with | some env => .nx env h | none => .fail) := p
    refine ⟨S, env, rfl, R, e, PostS.bindA (D := D) (f := fun xs h => if sizeOk xs.length then (match TP.putL [.name i, .name j, .name l] xs env with | some env => .nx env h | none => .fail) else .fail) ?_ fun xs S1 zs E1 R1 r1 p1 => ?_⟩
    · cases q : cl F env S.h with
      | ok xs g =>
        rw [q] at p
        simp only [Res.bind, sBind] at p ⊢
        split
        · rename_i hz
          rw [if_pos hz] at p
          simpa only [TP.put] using p
        · rename_i hz
          rw [if_neg hz] at p
          exact p
      | exc k g => rw [q] at p; exact p
      | fail => rw [q] at p; exact p
    · split at p1
      · cases q : TP.putL [.name i, .name j, .name l] xs env with
        | none => rw [q] at p1; exact p1.elim
        | some env' =>
          rw [q] at p1
          have hl := putL_length q
          match xs, hl with
          | [u, v, w], _ =>
            obtain ⟨uv, vv, wv, rfl, ru, rv, rw'⟩ := repL_three r1
            have := put3 q
            subst this
            exact ⟨uv, vv, wv, rfl, p1.nx_here R1 ((((e.mono E1.toExtW).set i ru).set j rv).set l rw')⟩
      · exact p1.elim
theorem ss_raise {k : Nat} (hc : X.calm = true) (he : L2N.PMk X e fun _ H Q => Q (.ref (ca k)) none H) : SS X ca F (sRaise k) (.Raise (some e) none pos) := fun W tk =>
  PS.imp (L2N.ps_raise hc tk he) fun D σ H ⟨S, env, eH, R, e, p⟩ => by
    subst eH
    exact p S σ rfl (Ext.refl _) R
end

theorem no_swap_sole {e t : Expr} {l : Nat} {env : PySem.Env} (h : isName t = false) : swapsWithSole [t] e l env = pure false := by
  show swapsWith e (some t) l env = pure false
  exact no_swap_tgt h
theorem asg_sub {a i : Expr} {p : Pos} {env : PySem.Env} (h : plainIx i = true) (v : Value) : assign (.Subscript a i p) env v = (do
      let ov ← holding [v] (eval a env)
      let iv ← holding [v, ov] (eval i env)
      standAt p
      holding [v, ov, iv] (setItem ov iv v)
      release [v, ov, iv] []) := by
  cases i <;> first | rfl | cases h
/-- name = e, e's last store not swapped -/
def noSw (Γ : Gam) (x : Str) (px : Pos) : Expr → Bool
  | .ListComp _ _ scope pos => !(Γ.lcl x && ((px.line == pos.line) && !(scope.names.any fun (n, k) => n == x && (k == .local || k == .cell))))
  | .SetComp _ _ _ _ => false
  | .DictComp _ _ _ _ _ => false
  | _ => true
theorem no_sw {Γ : Gam} {x : Str} {px : Pos} {e : Expr} {l : Nat} {env : PySem.Env} (hs : env.scope = Γ.sc) (hk : Γ.sc.kind = .function) (h : noSw Γ x px e = true) : swapsWith e (some (.Name x px)) l env = pure false := by
  cases e with
  | ListComp elt gs scope pos =>
    have hb : env.blockKind = .function := by unfold Env.blockKind; rw [hs, hk]; rfl
    have hq : (env.kindOf x == some .local) = Γ.lcl x := by
      unfold Env.kindOf Gam.lcl
      rw [hs]
      cases Γ.sc.names.lookup x with
      | none => rfl
      | some k => cases k <;> rfl
    simp only [noSw] at h
    rw [Bool.not_eq_true'] at h
    unfold swapsWith
    simp only [hb, hq, Expr.pos]
    have : (ScopeKind.function == ScopeKind.function && Γ.lcl x && px.line == pos.line && !(scope.names.any fun (n, k) => n == x && (k == .local || k == .cell))) = false := by
      rw [show (ScopeKind.function == ScopeKind.function) = true from rfl, Bool.true_and, Bool.and_assoc]
      exact h
    exact congrArg pure this
  | SetComp _ _ _ _ => cases h
  | DictComp _ _ _ _ _ => cases h
  | _ => rfl
structure CxS (M : ModI) (ca : CA) (F : FEnv) (Γ : Gam) (X : Cx) : Prop extends CxE M ca F Γ X where
  kind : Γ.sc.kind = .function
  hp : PassesOwn (model X.prog X.w) X.A X.env X.xe
  ex : ∀ (x : Str) (c : Nat), M.ex.lookup x = some c → Gl X x → (x == ("__debug__" : Str)) = false → ∀ (m : Str) (j : Nat) (p p2 pos : Pos), L2N.PMk X (.Call (.Name x p) [.Constant (.str m) j p2] [] pos) fun _ H Q => Q (.ref (ca c)) none H

mutual
def chkS (M : ModI) : IS → Gam → Stmt → Bool
  | .skip, _, st => match st with
    | .Pass _ => true
    | .Expr (.Constant (.str _) _ _) _ => true
    | _ => false
  | .expr e, Γ, st => match st with
    | .Expr e' _ => chkE M e Γ e' && notComp e'
    | _ => false
  | .set i e, Γ, st => match st with
    | .Assign [.Name x px] e' _ => decide (Γ.N[i]? = some x) && (Γ.loc x && (chkE M e Γ e' && noSw Γ x px e'))
    | _ => false
  | .setC i own it tg t el, Γ, st => match st with
    | .Assign [.Name y py] (.ListComp el' [⟨tg', iter, ifs, 0⟩] scope pos) _ => (decide (Γ.N[i]? = some y) && (Γ.lcl y && ((py.line == pos.line) && !(scope.names.any fun (n, k) => n == y && (k == .local || k == .cell))))) &&
      (chkI M it Γ tg' iter && (blkC Γ.N Γ.sc scope own && (tg.slots.all (fun j => decide (j ∈ own.map (·.2))) && (chkG tg (Γ.blk scope) tg' && (chkTs M t (Γ.blk scope) ifs && (chkE M el (Γ.blk scope) el' && notSet iter))))))
    | _ => false
  | .tgt tg e, Γ, st => match st with
    | .Assign [.Tuple ts _ _] e' _ => chkG tg Γ (.Tuple ts 0 ⟨0, 0, 0, 0⟩) && (chkE M e Γ e' && (match e' with
      | .Tuple vs _ _ => decide (swM Γ.sc ts vs = some none)
      | _ => true))
    | _ => false
  | .par2 i j a b, Γ, st => match st with
    | .Assign [.Tuple [.Name x px, .Name y py] _ _] (.Tuple [a', b'] _ _) _ => decide (Γ.N[i]? = some x) && (decide (Γ.N[j]? = some y) && (decide (i ≠ j) && (Γ.lcl x && (Γ.lcl y && (chkE M a Γ a' && (chkE M b Γ b' && (notStar a' && (notStar b' && decide (swM Γ.sc [.Name x px, .Name y py] [a', b'] = some (some [x, y]))))))))))
    | _ => false
  | .par3 i j l a b c, Γ, st => match st with
    | .Assign [.Tuple [.Name x px, .Name y py, .Name z pz] _ _] (.Tuple [a', b', c'] _ _) _ => decide (Γ.N[i]? = some x) && (decide (Γ.N[j]? = some y) && (decide (Γ.N[l]? = some z) && (decide (i ≠ j ∧ i ≠ l ∧ j ≠ l) && (Γ.lcl x && (Γ.lcl y && (Γ.lcl z && (chkE M a Γ a' && (chkE M b Γ b' && (chkE M c Γ c' && (notStar a' && (notStar b' && (notStar c' &&
        decide (swM Γ.sc [.Name x px, .Name y py, .Name z pz] [a', b', c'] = some (some [x, y, z]))))))))))))))
    | _ => false
  | .store e a i, Γ, st => match st with
    | .Assign [.Subscript a' i' _] e' _ => chkE M e Γ e' && (chkE M a Γ a' && (chkE M i Γ i' && plainIx i'))
    | _ => false
  | .app a e, Γ, st => match st with
    | .Expr (.Call (.Attribute a' n apos) [e'] [] cpos) _ => decide (n = "append") && (chkE M a Γ a' && (chkE M e Γ e' && (notCall a' && (notStar e' && (apos.endLine == cpos.line)))))
    | _ => false
  | .ret e, Γ, st => match st with
    | .Return (some e') _ => chkE M e Γ e'
    | _ => false
  | .retF e, Γ, st => match st with
    | .Return (some e') _ => chkE M e Γ e'
    | _ => false
  | .retN, _, st => match st with
    | .Return none _ => true
    | _ => false
  | .ife t a b, Γ, st => match st with
    | .If t' a' b' _ => chkT M t Γ t' && (chkSs M a Γ a' && chkSs M b Γ b')
    | _ => false
  | .for_ it tg b, Γ, st => match st with
    | .For tg' iter b' [] _ => chkI M it Γ tg' iter && (chkG tg Γ tg' && (chkSs M b Γ b' && notSet iter))
    | _ => false
  | .while_ t b, Γ, st => match st with
    | .While t' b' [] _ => chkT M t Γ t' && chkSs M b Γ b'
    | _ => false
  | .raise_ c, Γ, st => match st with
    | .Raise (some (.Call (.Name x _) [.Constant (.str _) _ _] [] _)) none _ => decide (M.ex.lookup x = some c) && (Γ.gl x && noDbg x)
    | _ => false
def chkSs (M : ModI) : ISs → Gam → List Stmt → Bool
  | .nil, _, sts => match sts with
    | [] => true
    | _ => false
  | .cons s r, Γ, sts => match sts with
    | st :: rest => chkS M s Γ st && chkSs M r Γ rest
    | _ => false
  | .frz _ r, Γ, sts => chkSs M r Γ sts
end
theorem chkG_pos {tg : TP} {Γ : Gam} {ts : List Expr} {k k' : Nat} {p p' : Pos} : chkG tg Γ (.Tuple ts k p) = chkG tg Γ (.Tuple ts k' p') := by
  cases tg <;> simp only [chkG]
mutual
theorem sS {M : ModI} {ca : CA} {F : FEnv} : ∀ (s : IS) (Γ : Gam) (X : Cx) (st : Stmt), CxS M ca F Γ X → chkS M s Γ st = true → SS X ca F (denS s) st
  | .skip, Γ, X, st, C, h => by
    simp only [chkS] at h
    split at h
    · exact ss_pass
    · exact ss_doc
    · cases h
  | .expr e, Γ, X, st, C, h => by
    simp only [chkS] at h
    split at h
    · rw [Bool.and_eq_true] at h
      exact ss_expr (sE e Γ X _ C.toCxE h.1) (no_swap h.2)
    · cases h
  | .set i e, Γ, X, st, C, h => by
    simp only [chkS] at h
    split at h
    · simp only [Bool.and_eq_true] at h
      obtain ⟨h1, h2, h3, h4⟩ := h
      obtain ⟨l1, l2⟩ := C.loc h2
      exact ss_set (by rw [C.N]; exact C.nd) (by rw [C.N]; exact of_decide_eq_true h1) l1 l2 (sE e Γ X _ C.toCxE h3) (no_sw C.sc C.kind h4)
    · cases h
  | .setC i own it tg t el, Γ, X, st, C, h => by
    simp only [chkS] at h
    split at h
    · simp only [Bool.and_eq_true] at h
      obtain ⟨⟨g1, g2, g3, g4⟩, h1, h2, h3, h4, h5, h6, h7⟩ := h
      refine ss_setC C.calm (by rw [C.N]; exact C.nd) (by rw [C.N]; exact of_decide_eq_true g1) (C.lcl g2) (sw_true (by rw [C.sc]; exact C.kind) (C.lcl g2) g3 (by rw [Bool.not_eq_true'] at g4; exact g4)) (sI it Γ X _ _ C.toCxE h1) (by rw [C.N, C.sc]; exact blkOk_by h2) (fun j hj => ?_)
        (fun s H Cl cl fp => sG tg _ _ _ (C.toCxE.blk _ s H Cl cl fp) h4) (fun s H Cl cl fp => sTs t _ _ _ (C.toCxE.blk _ s H Cl cl fp) h5)
        (fun s H Cl cl fp => sE el _ _ _ (C.toCxE.blk _ s H Cl cl fp) h6 W0 takes0N) (no_set h7)
      have := List.all_eq_true.mp h3 j hj
      exact of_decide_eq_true this
    · cases h
  | .tgt tg e, Γ, X, st, C, h => by
    simp only [chkS] at h
    split at h
    · rename_i ts k p e' pos
      simp only [Bool.and_eq_true] at h
      obtain ⟨h1, h2, h3⟩ := h
      refine ss_tgt (sE e Γ X _ C.toCxE h2) (sG (M := M) (ca := ca) (F := F) tg Γ X _ C.toCxE (by rw [chkG_pos]; exact h1)) (no_swap_sole rfl) ?_ (assign1 rfl)
      cases e' with
      | Tuple vs k2 p2 => exact swM_eq C.sc C.kind (of_decide_eq_true h3)
      | _ => exact no_stores rfl
    · cases h
  | .par2 i j a b, Γ, X, st, C, h => by
    simp only [chkS] at h
    split at h
    · simp only [Bool.and_eq_true] at h
      obtain ⟨h1, h2, h3, h4, h5, h6, h7, h8, h9, h10⟩ := h
      exact ss_par C.calm (by rw [C.N]; exact C.nd) (by rw [C.N]; exact of_decide_eq_true h1) (by rw [C.N]; exact of_decide_eq_true h2) (of_decide_eq_true h3) (C.lcl h4) (C.lcl h5)
        (sa_cons (sE a Γ X _ C.toCxE h6) (sa_cons (sE b Γ X _ C.toCxE h7) sa_nil (star_cons h9)) (star_cons h8)) (swM_eq C.sc C.kind (of_decide_eq_true h10)) rfl
    · cases h
  | .par3 i j l a b c, Γ, X, st, C, h => by
    simp only [chkS] at h
    split at h
    · simp only [Bool.and_eq_true] at h
      obtain ⟨h1, h2, h3, h4, h5, h6, h7, h8, h9, h10, h11, h12, h13, h14⟩ := h
      obtain ⟨n1, n2, n3⟩ := of_decide_eq_true h4
      exact ss_par3 C.calm (by rw [C.N]; exact C.nd) (by rw [C.N]; exact of_decide_eq_true h1) (by rw [C.N]; exact of_decide_eq_true h2) (by rw [C.N]; exact of_decide_eq_true h3) n1 n2 n3 (C.lcl h5) (C.lcl h6) (C.lcl h7)
        (sa_cons (sE a Γ X _ C.toCxE h8) (sa_cons (sE b Γ X _ C.toCxE h9) (sa_cons (sE c Γ X _ C.toCxE h10) sa_nil (star_cons h13)) (star_cons h12)) (star_cons h11)) (swM_eq C.sc C.kind (of_decide_eq_true h14)) rfl
    · cases h
  | .store e a i, Γ, X, st, C, h => by
    simp only [chkS] at h
    split at h
    · simp only [Bool.and_eq_true] at h
      obtain ⟨h1, h2, h3, h4⟩ := h
      exact ss_store (Nat.lt_of_le_of_lt (by omega) C.un) (sE e Γ X _ C.toCxE h1) (sE a Γ X _ C.toCxE h2) (sE i Γ X _ C.toCxE h3) (fun v => asg_sub h4 v) (no_swap_sole rfl) no_stores_sub (assign1 rfl)
    · cases h
  | .app a e, Γ, X, st, C, h => by
    simp only [chkS] at h
    split at h
    · simp only [Bool.and_eq_true] at h
      obtain ⟨h1, h2, h3, h4, h5, h6⟩ := h
      rw [of_decide_eq_true h1]
      exact ss_append (sE a Γ X _ C.toCxE h2) (sE e Γ X _ C.toCxE h3) (base_of h4) (few1 h5) h6 (star_cons h5) rfl rfl
    · cases h
  | .ret e, Γ, X, st, C, h => by
    simp only [chkS] at h
    split at h
    · exact ss_ret (sE e Γ X _ C.toCxE h)
    · cases h
  | .retF e, Γ, X, st, C, h => by
    simp only [chkS] at h
    split at h
    · exact ss_retF (sE e Γ X _ C.toCxE h)
    · cases h
  | .retN, Γ, X, st, C, h => by
    simp only [chkS] at h
    split at h
    · exact ss_retN
    · cases h
  | .ife t a b, Γ, X, st, C, h => by
    simp only [chkS] at h
    split at h
    · simp only [Bool.and_eq_true] at h
      obtain ⟨h1, h2, h3⟩ := h
      exact ss_if (sT t Γ X _ C.toCxE h1) (sSs a Γ X _ C h2) (sSs b Γ X _ C h3)
    · cases h
  | .for_ it tg b, Γ, X, st, C, h => by
    simp only [chkS] at h
    split at h
    · simp only [Bool.and_eq_true] at h
      obtain ⟨h1, h2, h3, h4⟩ := h
      exact ss_for C.hp C.calm (sI it Γ X _ _ C.toCxE h1) (sG tg Γ X _ C.toCxE h2) (sSs b Γ X _ C h3) (no_set h4)
    · cases h
  | .while_ t b, Γ, X, st, C, h => by
    simp only [chkS] at h
    split at h
    · rw [Bool.and_eq_true] at h
      exact ss_while C.hp (sT t Γ X _ C.toCxE h.1) (sSs b Γ X _ C h.2)
    · cases h
  | .raise_ c, Γ, X, st, C, h => by
    simp only [chkS] at h
    split at h
    · simp only [Bool.and_eq_true] at h
      obtain ⟨h1, h2, h3⟩ := h
      exact ss_raise C.calm (C.ex _ _ (of_decide_eq_true h1) (C.gl h2) (noDbg_ok h3).1 _ _ _ _ _)
    · cases h
theorem sSs {M : ModI} {ca : CA} {F : FEnv} : ∀ (s : ISs) (Γ : Gam) (X : Cx) (st : List Stmt), CxS M ca F Γ X → chkSs M s Γ st = true → SSs X ca F (denSs s) st
  | .nil, Γ, X, st, C, h => by
    simp only [chkSs] at h
    split at h
    · exact ss_nil
    · cases h
  | .cons s r, Γ, X, st, C, h => by
    simp only [chkSs] at h
    split at h
    · rw [Bool.and_eq_true] at h
      exact ss_cons (sS s Γ X _ C h.1) (sSs r Γ X _ C h.2)
    · cases h
  | .frz i r, Γ, X, st, C, h => by
    simp only [chkSs] at h
    exact ss_frz (sSs r Γ X _ C h)
end
end G
end
section
set_option Elab.async false
set_option linter.all false
set_option maxRecDepth 100000
set_option maxHeartbeats 2000000
/-! GLam: a lambda handed to a def, its errors with their context (the library's HandS.Lambda, turned to L2N). -/
namespace G
open PySem PySem.Spec PyProof.Rows L2 LamX
abbrev lamCxN (X : Cx) (A : Around) (outer : List PySem.Env) (s : Shared) (H : Hp) (E : XK) (scope : Scope) (f c' : Addr) : Cx :=
  (lamCx X A outer s H E scope f c').wish fun e s' => wpAny (model X.prog X.w) (A.deeper (lamEnv X scope s.heap.objs.size f c')) (leaving (lamEnv X scope s.heap.objs.size f c') e) (fun _ s'' => L2N.CX X.prog X.w outer H s E e s'') (fun e' s'' => L2N.CX X.prog X.w outer H s E e' s'') s'
section
variable {X : Cx} {pins : List (Addr × Obj)} {σ : L2.St} {H HZ : Hp} {s s1 : Shared}
/-- x(), in the def that got the lambda: Z is that def's context, entered at s -/
theorem pe_actN {CXg : CXT} {Eg : XK} {Ng : List Str} {qg : Str} {sg : Scope} {g f c' : Addr} {cdg pm ctv : Value} {params : Arguments} {body : Expr} {scope : Scope} {k i : Nat} {a : Str} {pn : List (Addr × Obj)} {xe : Value → Shared → Prop} {W : WX} {E : XK} {tb : TE} {p1 p2 : Pos}
    (I : Inv X pins σ H s) (L : LamS X.env.scope scope) (hf : s.heap.get? f = some (PySem.W.kla_obj "<lambda>" (X.env.qual ++ "<lambda>") params body scope (cloFrom X.env.cells scope.names []) pm c' ctv)) (hfn : H f = none) (hfr : f ∉ frs X.stack)
    (hbind : bindArgs (PySem.W.kla_fn "<lambda>" (X.env.qual ++ "<lambda>") params body scope (cloFrom X.env.cells scope.names []) pm (.ref c') ctv) ⟨[], []⟩ = pure [])
    (tk : L2N.Takes ((cxOf CXg X.prog X.w X.K X.mg X.base Ng qg sg g cdg X.A X.stack s H Eg).tr pn xe) W) (hW : ∀ cls d σ' H', E cls d H' → W cls d σ' H') (hr : Room (k + 1) (X.A.deeper (envOfC qg sg s.heap.objs.size g cdg)))
    (hbody : ∀ (A : Around) (outer : List PySem.Env) (s : Shared) (H : Hp), Room k (A.deeper (lamEnv X scope s.heap.objs.size f c')) → PE (lamCxN X A outer s H E scope f c') body tb)
    (hN : Ng[i]? = some a) (hv : Vis sg a) (hd : (a == ("__debug__" : Str)) = false := by decide) (hcd : (a == ("__classdict__" : Str)) = false := by decide) :
    PE ((cxOf CXg X.prog X.w X.K X.mg X.base Ng qg sg g cdg X.A X.stack s H Eg).tr pn xe) (.Call (.Name a p1) [] [] p2)
      (fun σZ HZ Q => σZ[i]? = some (some (.ref f)) ∧ HZ c' = some (CodeO c' (X.env.qual ++ "<lambda>")) ∧ tb σ HZ Q) := by
  refine ⟨fun pinsZ sZ σZ HZ Q IZ h => ?_⟩
  obtain ⟨hs, hc, ht⟩ := h
  refine wpAny_Call_Name_kw (thn ((pe_var (pos := p1) (i := i) hN hv hd hcd).run pinsZ sZ σZ HZ (fun v H1 => v = .ref f ∧ H1 = HZ) IZ ⟨.ref f, hs, rfl, rfl⟩) fun u s1 ⟨v, H1, I1, r1, q1⟩ => ?_)
  obtain ⟨ev, eH⟩ := q1
  subst ev
  rw [eH] at I1
  obtain rfl : u = Value.ref f := r1
  have of1 : s1.heap.get? f = some (PySem.W.kla_obj "<lambda>" (X.env.qual ++ "<lambda>") params body scope (cloFrom X.env.cells scope.names []) pm c' ctv) := I1.base.keep f _ hf hfn hfr (fun z => nomatch (show f ∈ ([] : List Addr) from z))
  refine PySem.W.callWith_F0 ⟨_, _, _, _, of1⟩ ?_
  have un : Un (frs X.stack) [] H HZ s.heap s1.heap := I1.base
  obtain ⟨⟨oc, vs, t, hoc, hdc, hvc⟩, _, _⟩ := I1.hok c' _ hc
  have rc : codeAny (model X.prog X.w) (X.A.deeper (envOfC qg sg s.heap.objs.size g cdg)) (.call (.ref f) ⟨[], []⟩) (CR (L2N.CX X.prog X.w) (envOfC qg sg s.heap.objs.size g cdg :: X.stack) X.prog X.w HZ s1 Q E) s1 := by
    refine PySem.W.kla_callFunE hr.depth of1 rfl L.co L.gen rfl ⟨c', oc, vs, t, rfl, hoc, hdc, hvc⟩ ?_
    rw [hbind]
    refine wpAny_pure (wpAny_newFunctionEnv (fun y hy => (L.own y hy).2) (fun y hy => absurd hy (by simp)) (fun h₁ hns hsb => ⟨I1.nolimit.fresh _ hsb, ?_⟩) L.kind)
    show codeAny _ _ (.expr body (lamEnv X scope s1.heap.objs.size f c')) _ _
    have kp : ∀ b o, s1.heap.get? b = some o → h₁.get? b = some o := fun b o e => hsb.extBut b o (Nat.ne_of_lt (Heap.lt_size e)) (Heap.get?_push_of_some _ e)
    have J : Inv (lamCxN X (X.A.deeper (envOfC qg sg s.heap.objs.size g cdg)) (envOfC qg sg s.heap.objs.size g cdg :: X.stack) s1 HZ E scope f c') [] σ HZ { s1 with heap := h₁, toks := s1.toks + ([] : List (Str × Value)).length } :=
      (lam_start2 I L I1.env0 hr.hd un hns kp).wish _
    refine PySem.W.kla_codeExpr (wpAny_mono ((hbody _ _ s1 HZ (hr.deeper _)).run [] _ _ HZ Q J ht) (fun v s' hq => ?_) fun e s' hq => hq)
    obtain ⟨w', H', J', rv, q⟩ := hq
    exact ⟨w', H', J'.os, J'.bare, J'.base, J'.hok, rv, q⟩
  have hx : Passes (L2N.CX X.prog X.w) ((cxOf CXg X.prog X.w X.K X.mg X.base Ng qg sg g cdg X.A X.stack s H Eg).tr pn xe) E := L2N.passes_call tk hW
  refine wpAny_call (codeAny_mono rc fun r s' hq => ?_)
  cases r with
  | error e => exact hx pinsZ σZ HZ s1 e s' I1 hq
  | ok fl =>
    cases fl with
    | ret u => exact I1.after hq
    | next => exact False.elim hq
    | brk => exact False.elim hq
    | cont => exact False.elim hq
end
/-- the def that calls what it got: a calls it; TT: what it makes of the lambda's reading -/
def GivesToN (X : Cx) (Ng : List Str) (x : Str) (sg : Scope) (g : Addr) (cdg : Value) (bg : List Stmt) (a : Str) (q : Str) (TT : (XK → Hp → VK → Prop) → Hp → VK → Prop) : Prop :=
  ∀ (f c' : Addr) (s : Shared) (H : Hp) (Q : VK) (tl : XK → Hp → VK → Prop),
    (∀ (W : WX) (pn : List (Addr × Obj)) (xe : Value → Shared → Prop) (E : XK) (p1 p2 : Pos), L2N.Takes ((cxOf C8.CX0 X.prog X.w X.K X.mg X.base Ng x sg g cdg X.A X.stack s H C8.E0).tr pn xe) W → (∀ cls d σ' H', E cls d H' → W cls d σ' H') →
      PE ((cxOf C8.CX0 X.prog X.w X.K X.mg X.base Ng x sg g cdg X.A X.stack s H C8.E0).tr pn xe) (.Call (.Name a p1) [] [] p2) (fun σZ HZ Q => σZ[0]? = some (some (.ref f)) ∧ HZ c' = some (CodeO c' q) ∧ tl E HZ Q)) →
    H c' = some (CodeO c' q) → TT tl H Q →
    ∃ t, PSs (cxOf C8.CX0 X.prog X.w X.K X.mg X.base Ng x sg g cdg X.A X.stack s H C8.E0).nox bg t ∧ t { nx := fun _ H' => Q .non H', rt := Q } (L2.start Ng [.ref f]) H
section
variable {X : Cx}
/-- x(lambda: body) -/
theorem pe_lamcallN {T : List (Addr × Str)} {TT : (XK → Hp → VK → Prop) → Hp → VK → Prop} {x a : Str} {g c P : Addr} {k : Nat} {pg : Arguments} {bg : List Stmt} {sg : Scope} {dV kV doc pm cdv ct oc : Value} {an od : Option Addr} {osl : Array (Option Value)} {Ng : List Str}
    {params : Arguments} {body : Expr} {scope : Scope} {t : XK → TE} {p lpos pos : Pos} (hg : Gl X x) (hm : X.mg x = some (.ref g)) (hk : PySem.W.keepIn X.K (.ref g) = true)
    (lk : X.K.lookup g = some ⟨oc, od, .func (PySem.W.fnOf x x pg bg sg dV kV doc pm an cdv ct), osl⟩) (hcg : PySem.W.codeIn X.K cdv x = true) (hb : L2.Binds X.K (PySem.W.fnOf x x pg bg sg dV kV doc pm an cdv ct) [a] []) (Sg : FnScope Ng [a] sg) (hNg : Ng[0]? = some a) (hva : Vis sg a)
    (hG : GivesToN X Ng x sg g cdv bg a (X.env.qual ++ "<lambda>") TT)
    (TB : TabB X.base X.mg c P) (hcode : X.env.code = .ref c) (hmT : (P, X.env.qual ++ "<lambda>") ∈ T) (hu : ∀ p ∈ T, p.1 = P → p.2 = X.env.qual ++ "<lambda>") (hr : Room (k + 2) X.A) (L : LamS X.env.scope scope) (hdef : defaultsOf params X.env = ([], []))
    (hbind : ∀ (q : Str) (cl : List (Str × Addr)) (pm cv ctv : Value), bindArgs (PySem.W.kla_fn "<lambda>" q params body scope cl pm cv ctv) ⟨[], []⟩ = pure [])
    (hbody : ∀ (A : Around) (outer : List PySem.Env) (s : Shared) (H : Hp) (E : XK) (f c' : Addr), Room k (A.deeper (lamEnv X scope s.heap.objs.size f c')) → PE (lamCxN X A outer s H E scope f c') body (t E))
    (hdb : (x == ("__debug__" : Str)) = false := by decide) (hd : (a == ("__debug__" : Str)) = false := by decide) (hcd : (a == ("__classdict__" : Str)) = false := by decide) :
    PE X (.Call (.Name x p) [.Lambda params body scope lpos] [] pos) (tLam T TT t) := by
  refine ⟨fun pins s σ H Q I h => ?_⟩
  obtain ⟨hT, h⟩ := h
  refine wpAny_Call_Name_kw (ld_glob I hg hm ?_ hdb)
  refine PySem.W.callWith_K (h₀ := X.base) I.ok.mod.kin hk ?_ (by rfl) (by rfl)
  show wpAny _ _ (spliced ((false, eval (.Lambda params body scope lpos) X.env) :: backTo pos (starEach [] X.env))) _ _ s
  refine Calls.spliced_cons (lam_make2 I TB hcode hmT hu hT hdef (L.has I.ok) fun f c' pm' ctv H1 s' I1 eN T1 hf hfn hfr hco => ?_)
  refine Calls.spliced_nil ⟨I1.kIn, ?_⟩
  have rc : codeAny (model X.prog X.w) X.A (.call (.ref g) ⟨[.ref f], []⟩) (CR C8.CX0 X.stack X.prog X.w H1 s' Q C8.E0) s' := by
    refine run_ofS (N := Ng) (ps := [a]) (us := [.ref f]) (vs := [.ref f]) lk hcg Sg hr I1.env0 (hb s' [.ref f] I1.kIn rfl) (.cons rfl .nil) rfl fun hr' => ?_
    obtain ⟨t', ht', hq'⟩ := hG f c' s' H1 Q (fun E H' Q' => t E σ H' Q') (fun W pn xe E p1 p2 tk hW => pe_actN (i := 0) I1 L hf hfn hfr (hbind _ _ _ _ _) tk hW hr' (fun A outer s H hr2 => hbody A outer s H E f c' hr2) hNg hva hd hcd) hco (h H1 eN T1)
    exact ⟨t', ht'.nox, hq'⟩
  refine wpAny_call (codeAny_mono rc fun r s2 hq => ?_)
  cases r with
  | error e => exact (show False from hq).elim
  | ok fl =>
    cases fl with
    | ret u => exact I1.after hq
    | next => exact False.elim hq
    | brk => exact False.elim hq
    | cont => exact False.elim hq
end
end G
end
section
set_option Elab.async false
set_option linter.all false
set_option maxRecDepth 100000
/-! GHot0: iterators that end while an exception is handled (the library's roads, turned by HotX). -/
namespace G
open PySem PySem.Spec PyProof.Rows L2 HotX
theorem get_hot {h : Heap} {it b : Addr} {o o1 o2 : Obj} {f g : Obj → Obj} (hb : b ≠ it) (e : h.get? b = some o) : ((((h.update it f).push o1).push o2).update ((h.update it f).push o1).objs.size g).get? b = some o := by
  have e2 : ((h.update it f).push o1).get? b = some o := Heap.get?_push_of_some _ ((Heap.get?_update_other h f (Ne.symm hb)).trans e)
  rw [Heap.get?_update_other _ _ (Nat.ne_of_gt (Heap.lt_size e2))]
  exact Heap.get?_push_of_some _ e2
section
variable {prog : Program} {w : World} {A : Around} {E : Value → Shared → Prop} {s : Shared}
theorem pyNext_tuple_end_hot {it t : Addr} {i : Nat} {items} {Q : Option Value → Shared → Prop} {x1 : Addr} (hot : HotAt A x1 s.heap)
    (hit : s.heap.IsTupleIter it t i) (ht : s.heap.IsTuple t items) (hx : items[i]? = none)
    (hQ : ∀ h', Heap.ExtBut it s.heap h' → Q none { s with heap := h' }) : wpAny (model prog w) A (pyNext (.ref it)) Q E s := by
  obtain ⟨o, ho, hc, hd⟩ := id hit
  obtain ⟨ol, hol, _, nl, hdl⟩ := ht
  obtain ⟨hh, o1, vs1, h1, d1, c1⟩ := hot
  have nx : it ≠ x1 := fun z => by
    subst z
    have := ho.symm.trans h1
    cases this
    rw [hd] at d1
    cases d1
    simp at c1
  unfold pyNext
  refine wpAny_bind (wpAny_attempt (wpAny_callSpecial?_slot (name := Str.ofString "__next__") hit.typeIs F.slot_tuple_iterator_next
    (wpAny_call_entry F.slot_tuple_iterator_next hit.typeIs F.entry_tuple_iterator_next ?_ (F.args_tuple_iterator_next_1 _))))
  show wpAny _ _ (field (.ref it) 0 >>= _) _ _ s
  refine wpAny_bind (wpAny_field ho hd (x := .ref t) rfl ?_)
  show wpAny _ _ (if (Value.ref t == Value.none) = true then _ else _) _ _ s
  rw [if_neg (show ¬ ((Value.ref t == Value.none) = true) from Bool.false_ne_true)]
  show wpAny _ _ (field (.ref it) 1 >>= _) _ _ s
  refine wpAny_bind (wpAny_field ho hd (x := .int i 0) rfl ?_)
  show wpAny _ _ (seqItems? (.ref t) >>= _) _ _ s
  refine wpAny_bind (wpAny_seqItems hol hdl ?_)
  simp only [Int.toNat_natCast, hx]
  refine wpAny_bind (wpAny_rule (wpAny_bind (wpAny_setField ho hd (by simp) ?_)))
  show wpAny _ _ (newExc (.type "StopIteration") [] >>= _) _ _ _
  refine wpAny_bind ?_
  simp only [newExc, newTuple]
  refine wpAny_bind (wpAny_newObj_type ?_ (by size_fits))
  refine wpAny_bind (m := firstArgMember _ _) (wpAny_of_eq (a := Value.none) (by first | rfl | (simp only [firstArgMember]; rfl)) ?_)
  refine wpAny_newObj_type ?_ (by size_fits)
  refine raiseNew_hot (x1 := x1) ⟨hh, o1, vs1, Heap.get?_push_of_some _ (Heap.get?_push_of_some _ ((Heap.get?_update_other _ _ nx).trans h1)), d1, c1⟩ (Nat.ne_of_lt (Heap.lt_size (Heap.get?_push_of_some _ ((Heap.get?_update_other _ _ nx).trans h1)))) (Heap.get?_push_size _ rfl) rfl (by first | (simp; done) | (simp; omega) | (simp only [Array.size_append]; simp; omega)) ?_
  refine wpAny_bind (wpAny_isInstance (T := "StopIteration") (b := true) ⟨_, Heap.get?_update_self _ (Heap.get?_push_size _ rfl) rfl, rfl⟩ isSubtype_stop ?_)
  refine wpAny_pure (hQ _ fun b o hb e => ?_)
  exact get_hot hb e

theorem nextOf_list_end_hot {it l : Addr} {i : Nat} {items} {Q : Value → Shared → Prop} {x1 : Addr} (hot : HotAt A x1 s.heap)
    (hit : s.heap.IsListIter it l i) (hl : s.heap.IsList l items) (hx : items[i]? = none)
    (hE : ∀ h' e, Heap.ExtBut it s.heap h' → (∃ o, h'.get? e = some o ∧ o.cls = .type "StopIteration") → E (.ref e) { s with heap := h' }) :
    wpAny (model prog w) A (Builtin.SmallTypes.nextOf (.ref it)) Q E s := by
  obtain ⟨o, ho, hc, hd⟩ := id hit
  obtain ⟨ol, hol, _, nl, hdl⟩ := hl
  obtain ⟨hh, o1, vs1, h1, d1, c1⟩ := hot
  have nx : it ≠ x1 := fun z => by
    subst z
    have := ho.symm.trans h1
    cases this
    rw [hd] at d1
    cases d1
    simp at c1
  unfold Builtin.SmallTypes.nextOf
  refine wpAny_bind (wpAny_callSpecial?_slot (name := Str.ofString "__next__") hit.typeIs slot_listiter_next
    (wpAny_call_entry slot_listiter_next hit.typeIs entry_listiter_next ?_ (args_listiter_next _)))
  show wpAny _ _ (field (.ref it) 0 >>= _) _ _ s
  refine wpAny_bind (wpAny_field ho hd (x := .ref l) rfl ?_)
  show wpAny _ _ (if (Value.ref l == Value.none) = true then _ else _) _ _ s
  rw [if_neg (show ¬ ((Value.ref l == Value.none) = true) from Bool.false_ne_true)]
  show wpAny _ _ (field (.ref it) 1 >>= _) _ _ s
  refine wpAny_bind (wpAny_field ho hd (x := .int i 0) rfl ?_)
  show wpAny _ _ (seqItems? (.ref l) >>= _) _ _ s
  refine wpAny_bind (wpAny_seqItems hol hdl ?_)
  simp only [Int.toNat_natCast, hx]
  refine wpAny_bind (wpAny_rule (wpAny_bind (wpAny_setField ho hd (by simp) ?_)))
  show wpAny _ _ (newExc (.type "StopIteration") [] >>= _) _ _ _
  refine wpAny_bind ?_
  simp only [newExc, newTuple]
  refine wpAny_bind (wpAny_newObj_type ?_ (by size_fits))
  refine wpAny_bind (m := firstArgMember _ _) (wpAny_of_eq (a := Value.none) (by first | rfl | (simp only [firstArgMember]; rfl)) ?_)
  refine wpAny_newObj_type ?_ (by size_fits)
  refine raiseNew_hot (x1 := x1) ⟨hh, o1, vs1, Heap.get?_push_of_some _ (Heap.get?_push_of_some _ ((Heap.get?_update_other _ _ nx).trans h1)), d1, c1⟩ (Nat.ne_of_lt (Heap.lt_size (Heap.get?_push_of_some _ ((Heap.get?_update_other _ _ nx).trans h1)))) (Heap.get?_push_size _ rfl) rfl (by first | (simp; done) | (simp; omega) | (simp only [Array.size_append]; simp; omega)) ?_
  refine hE _ _ (fun b o hb e => ?_) ⟨_, Heap.get?_update_self _ (Heap.get?_push_size _ rfl) rfl, rfl⟩
  exact get_hot hb e

end
end G
end
section
set_option Elab.async false
set_option linter.all false
set_option maxRecDepth 100000
/-! GHot1: zip and unpacking while an exception is handled. -/
namespace G
open PySem PySem.Spec PyProof.Rows L2 HotX
section
variable {prog : Program} {w : World} {A : Around} {E : Value → Shared → Prop} {s : Shared}
theorem zip_next_end_hot {z TI TO i1 i2 l1 l2 : Addr} {k1 k2 : Nat} {xs ys : Array Value} {a b : Value} {Q : Fin → Shared → Prop} {x1 : Addr} (hot : HotAt A x1 s.heap) (D : ZipApart z TI TO i1 i2 l1 l2)
    (hz : IsZip s.heap z TI TO .none) (hTI : IsPair s.heap TI (.ref i1) (.ref i2)) (hTO : IsPair s.heap TO a b)
    (h1 : s.heap.IsListIter i1 l1 k1) (h2 : s.heap.IsListIter i2 l2 k2) (hl1 : s.heap.IsList l1 xs) (hl2 : s.heap.IsList l2 ys) (hx : xs[k1]? = none)
    (hE : ∀ h' e, (∀ c o, c ≠ z → c ≠ TO → c ≠ i1 → c ≠ i2 → s.heap.get? c = some o → h'.get? c = some o) → (∃ o, h'.get? e = some o ∧ o.cls = .type "StopIteration") → E (.ref e) { s with heap := h' }) :
    wpAny (model prog w) A (Builtin.«zip.__next__» ⟨[.ref z], []⟩) Q E s := by
  show wpAny _ _ (field (.ref z) 2 >>= _) _ _ _
  refine wpAny_bind (wpAny_field hz rfl (x := .bool false) rfl ?_)
  show wpAny _ _ (field (.ref z) 3 >>= _) _ _ _
  refine wpAny_bind (wpAny_field hz rfl (x := .ref TI) rfl ?_)
  refine wpAny_bind (wpAny_seqItems hTI rfl ?_)
  show wpAny _ _ (Builtin.SmallTypes.ownedTupleIsFree (.ref z) >>= _) _ _ _
  refine wpAny_bind ?_
  unfold Builtin.SmallTypes.ownedTupleIsFree
  refine wpAny_bind (wpAny_field hz rfl (x := .none) rfl (wpAny_pure ?_))
  simp only [if_true]
  refine wpAny_bind (wpAny_rule ?_)
  refine wpAny_bind (wpAny_field hz rfl (x := .ref TO) rfl ?_)
  refine wpAny_bind (wpAny_setField_rec hz (by simp) fun h₁ hz₁ hs₁ => ?_)
  replace hz₁ : IsZip h₁ z TI TO .ellipsis := hz₁
  refine wpAny_bind ?_
  simp only [List.zipIdx_cons, List.zipIdx_nil, List.forIn_cons, List.forIn_nil]
  refine wpAny_bind (wpAny_bind (wpAny_onRaise ?_))
  show wpAny _ _ (Builtin.SmallTypes.nextOf (.ref i1) >>= _) _ _ _
  have hot1 : HotAt A x1 h₁ := by
    obtain ⟨hh, o1, vs1, e1, d1, c1⟩ := hot
    refine ⟨hh, o1, vs1, hs₁.extBut _ _ (fun q => ?_) e1, d1, c1⟩
    subst q
    have := hz.symm.trans e1
    cases this
    cases d1
    simp at c1
  refine wpAny_bind (nextOf_list_end_hot hot1 (h1.extBut hs₁.extBut D.i1z) (hl1.extBut hs₁.extBut D.l1z) hx fun h₂ e hs₂ he => ?_)
  obtain ⟨oe, hoe, hce⟩ := he
  have hz₂ : IsZip h₂ z TI TO .ellipsis := hs₂ _ _ D.i1z.symm hz₁
  have hez : e ≠ z := fun x => by subst x; rw [hz₂] at hoe; cases hoe; simp at hce
  refine wpAny_setField_rec hz₂ (by simp) fun h₃ _ hs₃ => hE h₃ e (fun c o c1 _ c3 _ x => hs₃.extBut _ _ c1 (hs₂ _ _ c3 (hs₁.extBut _ _ c1 x))) ⟨oe, hs₃.extBut _ _ hez hoe, hce⟩

theorem pyNext_zip_end_hot {z TI TO i1 i2 l1 l2 : Addr} {k1 k2 : Nat} {xs ys : Array Value} {a b : Value} {Q : Option Value → Shared → Prop} {x1 : Addr} (hot : HotAt A x1 s.heap) (D : ZipApart z TI TO i1 i2 l1 l2)
    (hz : IsZip s.heap z TI TO .none) (hTI : IsPair s.heap TI (.ref i1) (.ref i2)) (hTO : IsPair s.heap TO a b)
    (h1 : s.heap.IsListIter i1 l1 k1) (h2 : s.heap.IsListIter i2 l2 k2) (hl1 : s.heap.IsList l1 xs) (hl2 : s.heap.IsList l2 ys) (hx : xs[k1]? = none)
    (hQ : ∀ h', (∀ c o, c ≠ z → c ≠ TO → c ≠ i1 → c ≠ i2 → s.heap.get? c = some o → h'.get? c = some o) → Q none { s with heap := h' }) : wpAny (model prog w) A (pyNext (.ref z)) Q E s := by
  have hT : s.TypeIs (.ref z) "zip" := ⟨_, hz, rfl⟩
  unfold pyNext
  refine wpAny_bind (wpAny_attempt (wpAny_callSpecial?_slot (name := Str.ofString "__next__") hT F.slot_zip_next
    (wpAny_call_entry F.slot_zip_next hT F.entry_zip_next (zip_next_end_hot (x1 := x1) hot D hz hTI hTO h1 h2 hl1 hl2 hx fun h' e hk he => ?_) (F.args_zip_next_1 _))))
  obtain ⟨o, ho, hc⟩ := he
  refine wpAny_bind (wpAny_isInstance (T := "StopIteration") (b := true) ⟨o, ho, hc⟩ isSubtype_stop ?_)
  exact wpAny_pure (hQ _ hk)


theorem unpackItems_tuple_hot {t : Addr} {items : Array Value} {Q : List Value → Shared → Prop} {x1 : Addr} (hot : HotAt A x1 s.heap) (ht : IsTup s.heap t items)
    (hQ : ∀ h', Heap.ExtBut s.heap.objs.size s.heap h' → Q items.toList { s with heap := h' }) : wpAny (model prog w) A (unpackItems (.ref t) items.size none) Q E s := by
  have hlt : t ≠ s.heap.objs.size := by obtain ⟨o, ho, _⟩ := ht; exact Nat.ne_of_lt (Heap.lt_size ho)
  unfold unpackItems
  refine wpAny_bind ?_
  · unfold notIterableAtAll
    refine wpAny_bind (wpAny_specialOf ht.typeIs slot_tuple_iter.lookup ?_)
    refine wpAny_pure ?_
    simp only [Bool.false_eq_true, if_false]
    refine wpAny_bind (wpAny_holding (iter_tuple ht ?_))
    refine wpAny_bind (wpAny_holding (draw_tuple hlt items.size 0 _ _ ⟨_, Heap.get?_push_size _ rfl, rfl, rfl⟩ (ht.push _) (by omega) fun h₁ hit₁ hs₁ => ?_))
    have hall : List.take items.size (List.drop 0 items.toList) = items.toList := by
      rw [List.drop_zero]; exact List.take_of_length_le (by simp)
    rw [hall]
    rw [if_neg (by simp)]
    have ht₁ : IsTup h₁ t items := (ht.push _).extBut hs₁.extBut hlt
    have hot1 : HotAt A x1 h₁ := by
      obtain ⟨hh, o1, vs1, e1, d1, c1⟩ := hot
      exact ⟨hh, o1, vs1, hs₁.extBut _ _ (Nat.ne_of_lt (Heap.lt_size e1)) (Heap.get?_push_of_some _ e1), d1, c1⟩
    refine wpAny_bind (wpAny_holding (pyNext_tuple_end_hot hot1 hit₁ ht₁ (by simp) fun h₂ he₂ => ?_))
    simp only [Option.isSome_none, Bool.false_eq_true, if_false]
    refine wpAny_pure (hQ h₂ fun b o hb e => he₂ b o hb (hs₁.extBut b o hb (Heap.get?_push_of_some _ e)))

theorem unpack_tuple_hot {t : Addr} {items : Array Value} {targets : List (Bool × (Value → Sem Unit))} {Q : Unit → Shared → Prop} {x1 : Addr} (hot : HotAt A x1 s.heap) (ht : IsTup s.heap t items)
    (hn : targets.length = items.size) (hstar : targets.findIdx? (·.1) = none)
    (h : ∀ h', Heap.ExtBut s.heap.objs.size s.heap h' → wpAny (model prog w) A (assignInOrder (targets.map (·.2)) items.toList) Q E { s with heap := h' }) :
    wpAny (model prog w) A (unpack (.ref t) targets) Q E s := by
  unfold unpack
  rw [hn, hstar]
  exact wpAny_bind (wpAny_holding (unpackItems_tuple_hot hot ht h))
theorem assign_Tuple_hot {env : PySem.Env} {elts : List Expr} {kx : Nat} {pos : Pos} {t : Addr} {items : Array Value} {Q : Unit → Shared → Prop} {x1 : Addr} (hot : HotAt A x1 s.heap) (ht : IsTup s.heap t items)
    (hn : (assignEach elts env).length = items.size) (hstar : (assignEach elts env).findIdx? (·.1) = none)
    (h : ∀ h', Heap.ExtBut s.heap.objs.size s.heap h' → wpAny (model prog w) A (assignInOrder ((assignEach elts env).map (·.2)) items.toList) Q E { s with heap := h' }) :
    wpAny (model prog w) A (assign (.Tuple elts kx pos) env (.ref t)) Q E s := by
  rw [assign_Tuple]
  exact wpAny_bind (wpAny_standAt (unpack_tuple_hot hot ht hn hstar h))

end
end G
end
section
set_option Elab.async false
set_option linter.all false
set_option maxRecDepth 100000
set_option maxHeartbeats 2000000
/-! GHot2: a comprehension over zip while an exception is handled. -/
namespace G
open PySem PySem.Spec PyProof.Rows L2 HotX
/-- a block's context that bears the handled exception -/
abbrev blkH (X : Cx) (p : Addr × Obj) (s : Shared) (H : Hp) (scope : Scope) (cenv : PySem.Env) (fp : List Addr) : Cx := (X.blk s H scope cenv fp).tr [p] fun _ _ => False
section
variable {X : Cx}
theorem lc_coreH {pins : List (Addr × Obj)} {s : Shared} {σ : St} {H : Hp} {Q : VK} {elt tg iter : Expr} {ifs : List Expr} {scope : Scope} {own : List (Str × Nat)} {pos pos' : Pos} {wi : TI} {g : TG} {tt : TT} {te : TE} {use : Option (Value → Sem Unit)} {Qf : Value → Shared → Prop}
    (hcH : L2H.HotC X) (hN : X.N.Nodup) (I : Inv X pins σ H s) (hi : L2H.PIH X tg iter wi) (ok : BlkOk X.N X.env.scope scope own)
    (hg : ∀ (p : Addr × Obj), L2H.Hot1 X.A p → ∀ (s : Shared) (H : Hp) (C : Addr) (cl : List (Str × Addr)) (fp : List Addr), PG (blkH X p s H scope (compEnvC scope cl C X.env) fp) tg g) (ht : ∀ (p : Addr × Obj), L2H.Hot1 X.A p → ∀ (s : Shared) (H : Hp) (C : Addr) (cl : List (Str × Addr)) (fp : List Addr), PTs (blkH X p s H scope (compEnvC scope cl C X.env) fp) ifs tt)
    (he : ∀ (p : Addr × Obj), L2H.Hot1 X.A p → ∀ (s : Shared) (H : Hp) (C : Addr) (cl : List (Str × Addr)) (fp : List Addr), PE (blkH X p s H scope (compEnvC scope cl C X.env) fp) elt te) (hs : ∀ x, foldedSetIterable iter X.env x = pure x)
    (h : tLc wi g tt te (own.map (·.2)) σ H Q)
    (hRR : ∀ D C s' m H', Inv X pins σ H' s' → Q (.ref D) H' → s'.heap.Ns C m → FpOk X pins H' C → compPost (model X.prog X.w) X.A X.xe use Qf (.ref D) C (.ok .next) s') :
    wpAny (model X.prog X.w) X.A (comprehension (.ListComp elt [⟨tg, iter, ifs, 0⟩] scope pos) scope X.env pos' (newList []) false (eval iter X.env) use) Qf X.xe s := by
  obtain ⟨p, hot, hp⟩ := hcH
  have hfree : ∀ y ∈ scope.names, y.2 = .free → ∃ c, X.env.cells.lookup y.1 = some c := fun y hy e => by
    rcases ok.free y hy e with k | k
    · exact I.ok.has _ (.inl k)
    · exact I.ok.has _ (.inr k)
  refine wpAny_comprehension_free (use := use) rfl hs (closure_ok hfree) ok.kind (fun y hy e => by rw [ok.uniq y hy, e])
    (thn (hi.run pins s σ H _ I h) fun xv s1 hx => thn hx fun itv s2 h2 => ?_)
  obtain ⟨it, fp, tn, J, H2, e, I2, T, st2, f2, q⟩ := h2
  subst e
  refine wpAny_newObj_type (newEnv_comp ?_) (by show 0 ≤ sizeLine; decide)
  generalize hD : s2.heap.objs.size = D
  have hDn : H2 D = none := I2.hok.fresh (Nat.le_of_eq hD)
  obtain ⟨W, ⟨m0, w0⟩, turn⟩ := q D hDn
  -- the new list
  generalize hs3 : ({ s2 with heap := s2.heap.push { cls := .type "list", data := .seq ([] : List Value).toArray } } : Shared) = s3
  have I3 : Inv X pins σ (upd H2 D (.lst [])) s3 := by
    rw [← hs3]
    refine I2.laid (t' := s2.toks) (fun b o e => Heap.get?_push_of_some _ e) (Nat.le_of_eq hD) ⟨Nat.zero_le _, [], 0, .nil, ?_⟩
    rw [← hD]
    exact Heap.get?_push_size _ rfl
  have h3 : s3.heap = s2.heap.push { cls := .type "list", data := .seq ([] : List Value).toArray } := by rw [← hs3]
  have sz : ∀ b ∈ fp, b < s2.heap.objs.size := fun b hb => by
    obtain ⟨o, e, _⟩ := T.obj _ _ st2 b hb
    exact Heap.lt_size e
  have f3 : ∀ b ∈ fp, FpOk X pins (upd H2 D (.lst [])) b ∧ b < s3.heap.objs.size := fun b hb => by
    have hlt := sz b hb
    refine ⟨⟨?_, (f2 b hb).2⟩, by rw [h3, Heap.size_push]; exact Nat.lt_succ_of_lt hlt⟩
    rw [upd_ne (by rw [← hD]; exact Nat.ne_of_lt hlt)]
    exact (f2 b hb).1
  have st3 : tn 0 s3.heap := T.keep _ _ _ st2 fun b _ o e => by rw [h3]; exact Heap.get?_push_of_some _ e
  have I4 := block_start I3 ok hN f3
  have pg := hg p hot s3 (upd H2 D (.lst [])) s3.heap.objs.size (cellsFrom (s3.heap.objs.size + 1) scope.names (cloFrom X.env.cells scope.names [])) fp
  have pt := ht p hot s3 (upd H2 D (.lst [])) s3.heap.objs.size (cellsFrom (s3.heap.objs.size + 1) scope.names (cloFrom X.env.cells scope.names [])) fp
  have pe := he p hot s3 (upd H2 D (.lst [])) s3.heap.objs.size (cellsFrom (s3.heap.objs.size + 1) scope.names (cloFrom X.env.cells scope.names [])) fp
  show codeAny _ _ (.compStart (.ListComp elt [⟨tg, iter, ifs, 0⟩] scope pos) 0 (.ref it) (.ref D) (compEnvC scope (cellsFrom (s3.heap.objs.size + 1) scope.names (cloFrom X.env.cells scope.names [])) s3.heap.objs.size X.env)) (compPost (model X.prog X.w) X.A X.xe use Qf (.ref D) s3.heap.objs.size) { s3 with heap := pushCells (s3.heap.push { cls := .type "dict", data := .dict #[] }) scope.names }
  have nfp : ∀ b ∈ fp, (upd H2 D (.lst [])) b = none := fun b hb => (f3 b hb).1.1
  generalize hce : compEnvC scope (cellsFrom (s3.heap.objs.size + 1) scope.names (cloFrom X.env.cells scope.names [])) s3.heap.objs.size X.env = ce at I4 pg pt pe ⊢
  have cL : ce.locals = s3.heap.objs.size := by subst hce; rfl
  generalize hH3 : upd H2 D (.lst []) = H3 at I3 I4 pg pt pe w0 nfp f3
  generalize hs4 : ({ s3 with heap := pushCells (s3.heap.push { cls := .type "dict", data := .dict #[] }) scope.names } : Shared) = s4 at I4 ⊢
  have I4 : Inv (blkH X p s3 H3 scope ce fp) [] (wipe σ (own.map (·.2))) H3 s4 := by
    have P3 := I3.pin p (List.mem_append_left _ hp)
    have lt3 : p.1 < s3.heap.objs.size := Heap.lt_size P3.1
    have Ip : Inv (X.blk s3 H3 scope ce fp) [p] (wipe σ (own.map (·.2))) H3 s4 := I4.pins_of fun q hq => by
      have eq : q = p := by simpa using hq
      subst eq
      refine ⟨?_, P3.2.1, ?_, fun z => ?_, P3.2.2.2.2⟩
      · rw [← hs4]
        exact pushCells_keeps _ _ _ _ (Heap.get?_push_of_some _ P3.1)
      · show q.1 ≠ ce.locals
        rw [cL]
        exact Nat.ne_of_lt lt3
      · rcases List.mem_cons.mp (I3.stkSub q.1 z) with z | z
        · exact P3.2.2.1 z
        · exact P3.2.2.2.1 z
    exact Ip.toTry _
  have hotB : L2H.HotC (blkH X p s3 H3 scope ce fp) := ⟨p, hot, List.mem_singleton.mpr rfl⟩
  have st4 : tn 0 s4.heap := T.keep _ _ _ st3 fun b _ o e => by rw [← hs4]; exact pushCells_keeps _ _ _ _ (Heap.get?_push_of_some _ e)
  have stat : ∀ {σ' : St} {H' : Hp} {s' : Shared}, Inv (blkH X p s3 H3 scope ce fp) [] σ' H' s' → (∀ b ∈ fp, H' b = none) → ∀ b ∈ fp, FpOk (blkH X p s3 H3 scope ce fp) [] H' b := fun {σ' H' s'} I' hn b hb =>
    ⟨hn b hb, (I'.ok.exf b hb).1, I'.ok.exfs b hb, .inl hb, fun x c e => (I'.ok.exf b hb).2 x c e, fun q hq => by
      have eq : q = p := by simpa using (show q ∈ [p] ++ ([] : List (Addr × Obj)) from hq)
      subst eq
      exact (f3 b hb).1.2.2.2.2.2 q (List.mem_append_left _ hp)⟩
  have loop : codeAny (model X.prog X.w) X.A (.compLoop (.ListComp elt [⟨tg, iter, ifs, 0⟩] scope pos) 0 (.ref it) (.ref D) ce) (compPost (model X.prog X.w) X.A X.xe use Qf (.ref D) s3.heap.objs.size) s4 := by
    refine compLoop_any (fun n s' => ∃ i H', Inv (blkH X p s3 H3 scope ce fp) [] (wipe σ (own.map (·.2))) H' s' ∧ tn i s'.heap ∧ (∀ b ∈ fp, H' b = none) ∧ W i n H') ?_ m0 ⟨0, H3, I4, st4, nfp, w0⟩
    rintro n s5 ⟨i, H5, I5, st5, n5, w5⟩
    rcases turn i n H5 w5 with ⟨stop, qq⟩ | ⟨go, Nx, hNx, step⟩
    · have td := T.done (blkH X p s3 H3 scope ce fp) rfl rfl rfl hotB i [] s5 _ H5 (fun _ _ => False) I5 (stat I5 n5) st5 stop
      refine thnF td fun r s6 ⟨hr, I6⟩ => ?_
      subst hr
      -- back in the def's context
      have I7 : Inv X pins σ H5 s6 := I3.call' (ch := fp) I6.os I6.base I6.hok I6.bare fun b hb => ⟨(f3 b hb).1.2.2.2.1, (f3 b hb).1.2.1, (f3 b hb).1.2.2.2.2.1, (f3 b hb).1.2.2.2.2.2⟩
      have nC : H5 s3.heap.objs.size = none := by
        have z : H5 ce.locals = none := I6.free
        rw [cL] at z
        exact z
      obtain ⟨m, hn, _⟩ := I6.loc
      have hn : s6.heap.Ns ce.locals m := hn
      rw [cL] at hn
      exact hRR D s3.heap.objs.size s6 m H5 I7 qq hn (I3.fpOk (Nat.le_refl _) nC)
    · have ti := T.item (blkH X p s3 H3 scope ce fp) rfl rfl rfl hotB i [] s5 _ H5 (fun _ _ => False) I5 (stat I5 n5) st5 go
      refine thnF ti fun r s6 ⟨u, hr, h6⟩ => ?_
      subst hr
      refine thnF h6 fun _ s7 ⟨x, H7, I7, r7, y7, st7, n7⟩ => ?_
      have I7' := I7.pinned (stat I7 n7) (T.obj _ _ st7)
      refine thnF (pg.run _ s7 _ H7 x u _ I7' r7 (step x H7 y7)) fun _ s8 ⟨σ8, H8, I8, hw8, q8⟩ => ?_
      refine thnF (pt.run _ s8 σ8 H8 _ I8 q8) fun b s9 ⟨H9, I9, q9⟩ => ?_
      -- the turn's end
      have fin : ∀ {s' : Shared} {H' : Hp}, Inv (blkH X p s3 H3 scope ce fp) ([] ++ pinsAt fp s7.heap) σ8 H' s' → Nx H' → ∃ m, m < n ∧ ∃ i H', Inv (blkH X p s3 H3 scope ce fp) [] (wipe σ (own.map (·.2))) H' s' ∧ tn i s'.heap ∧ (∀ b ∈ fp, H' b = none) ∧ W i m H' := fun {s' H'} I' nx => by
        obtain ⟨m', hm, w'⟩ := hNx H' nx
        have pin' : ∀ b ∈ fp, ∀ o, s7.heap.get? b = some o → s'.heap.get? b = some o ∧ H' b = none := fun b hb o e =>
          let z := I'.pin (b, o) (List.mem_append_right _ (List.mem_append_right _ (mem_pinsAt hb e)))
          ⟨z.1, z.2.1⟩
        have hl : (wipe σ (own.map (·.2))).length = σ8.length := by rw [← hw8, wipe_length]
        refine ⟨m', hm, i + 1, H', (I'.unpinned (pins := [])).weak hl (fun j v e => ?_), T.keep _ _ _ st7 fun b hb o e => (pin' b hb o e).1, fun b hb => ?_, w'⟩
        · rw [← hw8] at e
          exact (wipe_some e).1
        · obtain ⟨o, e, _⟩ := T.obj _ _ st7 b hb
          exact (pin' b hb o e).2
      cases b with
      | false =>
        simp only [Bool.false_eq_true, if_false] at q9 ⊢
        exact fin I9 q9
      | true =>
        simp only [if_true] at q9 ⊢
        refine thnF (pe.run _ s9 σ8 H9 _ I9 q9) fun z s10 ⟨yv, H10, I10, r10, acc, hD10, hz10, nx⟩ => ?_
        exact app_ok (X := blkH X p s3 H3 scope ce fp) I10 hD10 hz10 r10 fun s11 I11 => fin I11 nx
  exact codeAny_compStart_list loop (T.self X.A 0 _ _ _ st4 loop)
/-- as a value -/
theorem pe_lcH {elt tg iter : Expr} {ifs : List Expr} {scope : Scope} {own : List (Str × Nat)} {pos : Pos} {wi : TI} {g : TG} {tt : TT} {te : TE} (hcH : L2H.HotC X) (hN : X.N.Nodup) (hi : L2H.PIH X tg iter wi) (ok : BlkOk X.N X.env.scope scope own)
    (hg : ∀ (p : Addr × Obj), L2H.Hot1 X.A p → ∀ (s : Shared) (H : Hp) (C : Addr) (cl : List (Str × Addr)) (fp : List Addr), PG (blkH X p s H scope (compEnvC scope cl C X.env) fp) tg g) (ht : ∀ (p : Addr × Obj), L2H.Hot1 X.A p → ∀ (s : Shared) (H : Hp) (C : Addr) (cl : List (Str × Addr)) (fp : List Addr), PTs (blkH X p s H scope (compEnvC scope cl C X.env) fp) ifs tt)
    (he : ∀ (p : Addr × Obj), L2H.Hot1 X.A p → ∀ (s : Shared) (H : Hp) (C : Addr) (cl : List (Str × Addr)) (fp : List Addr), PE (blkH X p s H scope (compEnvC scope cl C X.env) fp) elt te) (hs : ∀ x, foldedSetIterable iter X.env x = pure x := by intro _; rfl) :
    PE X (.ListComp elt [⟨tg, iter, ifs, 0⟩] scope pos) (tLc wi g tt te (own.map (·.2))) := by
  refine ⟨fun pins s σ H Q I h => ?_⟩
  rw [eval_ListComp]
  refine lc_coreH hcH hN I hi ok hg ht he hs h fun D C s' m H' I' q hn f => ⟨m, hn, fun h'' sb => ?_⟩
  obtain ⟨f0, f1, f2, f3, f4, f5⟩ := f
  exact ⟨.ref D, H', I'.turned (t' := s'.toks) (fun b o hb e => (sb.2 b hb).trans e) f0 f1 f3 f4 f5, rfl, q⟩
end
def ItzH (K : PySem.W.Frag) (a b : Addr) : It :=
  ⟨fun i H => ∃ (xs ys : List V) (x y : V), SqL K H a xs ∧ SqL K H b ys ∧ xs[i]? = some x ∧ ys[i]? = some y,
    fun i H v H' => ∃ T x y, v = .ref T ∧ H T = none ∧ H' = upd H T (.tup [x, y]) ∧ (∀ xs, SqL K H a xs → xs[i]? = some x) ∧ ∀ ys, SqL K H b ys → ys[i]? = some y,
    fun i H => ∃ xs ys : List V, SqL K H a xs ∧ SqL K H b ys ∧ xs.length ≤ i⟩
theorem turn_zipH {P : Program} {w : World} {K : PySem.W.Frag} {elts : List Expr} {kk : Nat} {tpos : Pos} {a b z TI TO i1 i2 : Addr} (D : ZipApart z TI TO i1 i2 a b) :
    L2H.TurnH P w K (.Tuple elts kk tpos) (ItzH K a b) [z, TI, TO, i1, i2] z (fun i h => IsZip h z TI TO .none ∧ IsPair h TI (.ref i1) (.ref i2) ∧ (∃ x y, IsPair h TO x y) ∧ h.IsListIter i1 a i ∧ h.IsListIter i2 b i) where
  mem := by simp
  obj := fun i h st c hc => by
    obtain ⟨hz, hTI, ⟨x, y, hTO⟩, ⟨o1, e1, _, d1⟩, ⟨o2, e2, _, d2⟩⟩ := st
    have e' : c = z ∨ c = TI ∨ c = TO ∨ c = i1 ∨ c = i2 := by simpa using hc
    rcases e' with q | q | q | q | q
    · rw [q]; exact ⟨_, hz, fun v q => nomatch q⟩
    · rw [q]; exact ⟨_, hTI, fun v q => nomatch q⟩
    · rw [q]; exact ⟨_, hTO, fun v q => nomatch q⟩
    · rw [q]; exact ⟨o1, e1, fun v q => by rw [d1] at q; cases q⟩
    · rw [q]; exact ⟨o2, e2, fun v q => by rw [d2] at q; cases q⟩
  keep := fun i h h' st k => by
    obtain ⟨hz, hTI, ⟨x, y, hTO⟩, h1, h2⟩ := st
    exact ⟨k z (by simp) _ hz, k TI (by simp) _ hTI, ⟨x, y, k TO (by simp) _ hTO⟩, h1.at fun o q => k i1 (by simp) o q, h2.at fun o q => k i2 (by simp) o q⟩
  item := by
    intro X hP hw hK hc i pins s σ H E I hf st hg
    subst hP hw hK
    obtain ⟨hz, hTI, ⟨x0, y0, hTO⟩, h1, h2⟩ := st
    obtain ⟨xs, ys, x, y, hqx, hqy, hx, hy⟩ := hg
    obtain ⟨its, rv, p, _⟩ := I.list hqx
    obtain ⟨its2, rv2, p2, _⟩ := I.list hqy
    obtain ⟨u, hu, ru⟩ := rv.get hx
    obtain ⟨u2, hu2, ru2⟩ := rv2.get hy
    have hzl : z < s.heap.objs.size := Heap.lt_size hz
    refine wpAny_pyNext_zip_item D hz hTI hTO h1 h2 p.isList p2.isList (x := u) (y := u2) (by simpa using hu) (by simpa using hu2) fun h' z' TO' h1' h2' hT hsz hk => ?_
    refine ⟨_, rfl, wpAny_letOwnedTupleGo_zip (s := { s with heap := h' }) z' fun h'' z'' sb => ?_⟩
    have hT2 : h''.get? s.heap.objs.size = some { cls := .type "tuple", data := .seq #[u, u2] } := (sb.2 _ (Nat.ne_of_gt hzl)).trans hT
    have new : ObjOk X.prog X.w (upd H s.heap.objs.size (.tup [x, y])) h'' s.heap.objs.size (.tup [x, y]) :=
      ⟨by show 2 ≤ sizeLine; decide, [u, u2], .cons ru (.cons ru2 .nil), ⟨_, hT2, rfl, _, rfl⟩⟩
    have I1 : Inv X pins σ (upd H s.heap.objs.size (.tup [x, y])) { s with heap := h'' } :=
      I.turnedNew (t' := s.toks) (ch := [z, TI, TO, i1, i2]) (fun c o hb q => (sb.2 c (fun q' => hb (by simp [q']))).trans (hk c o (fun q' => hb (by simp [q'])) (fun q' => hb (by simp [q'])) (fun q' => hb (by simp [q'])) (fun q' => hb (by simp [q'])) q)) hf (Nat.le_refl _) new
    refine ⟨.ref s.heap.objs.size, _, I1, rfl, ⟨_, x, y, rfl, I.hok.fresh (Nat.le_refl _), rfl, fun l hl => by rw [I.list_inj hl hqx]; exact hx, fun l hl => by rw [I.list_inj hl hqy]; exact hy⟩, ⟨z'', ?_, ⟨u, u2, ?_⟩, ?_, ?_⟩, fun c hcm => ?_⟩
    · exact (sb.2 _ D.TIz).trans (hk _ _ D.TIz D.TITO D.TIi1 D.TIi2 hTI)
    · exact (sb.2 _ D.TOz).trans TO'
    · exact h1'.at fun o q => (sb.2 _ D.i1z).trans q
    · exact h2'.at fun o q => (sb.2 _ D.i2z).trans q
    · have hlt : c < s.heap.objs.size := by
        have e' : c = z ∨ c = TI ∨ c = TO ∨ c = i1 ∨ c = i2 := by simpa using hcm
        rcases e' with q | q | q | q | q
        · rw [q]; exact hzl
        · rw [q]; exact Heap.lt_size hTI
        · rw [q]; exact Heap.lt_size hTO
        · rw [q]; obtain ⟨_, e1, _⟩ := h1; exact Heap.lt_size e1
        · rw [q]; obtain ⟨_, e2, _⟩ := h2; exact Heap.lt_size e2
      rw [upd_ne (Nat.ne_of_lt hlt)]
      exact (hf c hcm).1
  done := by
    intro X hP hw hK hc i pins s σ H E I hf st hg
    subst hP hw hK
    obtain ⟨hz, hTI, ⟨x0, y0, hTO⟩, h1, h2⟩ := st
    obtain ⟨xs, ys, hqx, hqy, hend⟩ := hg
    obtain ⟨its, rv, p, _⟩ := I.list hqx
    obtain ⟨its2, rv2, p2, _⟩ := I.list hqy
    have l1 := rv.length
    have l2 := rv2.length
    have he : its.toArray[i]? = none := by simp; omega
    obtain ⟨x1, hot⟩ := hc.at I
    exact pyNext_zip_end_hot hot D hz hTI hTO h1 h2 p.isList p2.isList he fun h' hk => ⟨rfl, I.turnedL (t' := s.toks) (ch := [z, TI, TO, i1, i2]) (fun c o hb q =>
      hk c o (fun q' => hb (by simp [q'])) (fun q' => hb (by simp [q'])) (fun q' => hb (by simp [q'])) (fun q' => hb (by simp [q'])) q) hf⟩
  self := fun A i s Q E st h => wpAny_pyIter_zip st.1 h
def iZipH (K : PySem.W.Frag) (ta : TA) : TI := fun σ H R => ta σ H fun vs H1 => ∃ a b xs ys, vs = [.ref a, .ref b] ∧ SqL K H1 a xs ∧ SqL K H1 b ys ∧ R (ItzH K a b) H1
theorem pi_zipH {X : Cx} {e e2 : Expr} {ta : TA} {p pos tpos : Pos} {elts : List Expr} {kk : Nat} (hg : Gl X "zip") (hm : X.mg "zip" = none) (ha : PA X [e, e2] ta)
    (hs : starEach [e, e2] X.env = (false, eval e X.env) :: starEach [e2] X.env := by rfl) (hpl : (backTo pos (starEach [e2] X.env)).any (·.1) = false := by rfl) :
    L2H.PIH X (.Tuple elts kk tpos) (.Call (.Name "zip" p) [e, e2] [] pos) (iZipH X.K ta) := by
  refine ⟨fun pins s σ H R I h => ?_⟩
  refine Call_ (ld_blt I hg hm PyProof.Rows.boot_zip (PyProof.Rows.callWith_type1 (thn (ha.run pos pins s σ H _ I h) fun us s1 ⟨vs, H1, I1, r1, q1⟩ => ?_) hs hpl))
  obtain ⟨a, b, xs, ys, ex, hqx, hqy, q⟩ := q1
  subst ex
  cases r1 with
  | cons r rr =>
    cases rr with
    | cons r' rr =>
      cases rr
      cases r
      cases r'
      obtain ⟨its, rv, p1, _⟩ := I1.list hqx
      obtain ⟨its2, rv2, p2, _⟩ := I1.list hqy
      have la : a < s1.heap.objs.size := p1.lt
      have lb : b < s1.heap.objs.size := p2.lt
      refine call_zip_2 p1.isList p2.isList fun h' hz hTI hTO h1 h2 hsz hk => wpAny_pyIter_zip hz ?_
      have I2 : Inv X pins σ H1 { s1 with heap := h' } := I1.kept (t' := s1.toks) hk
      refine ⟨s1.heap.objs.size + 4, [s1.heap.objs.size + 4, s1.heap.objs.size + 2, s1.heap.objs.size + 3, s1.heap.objs.size, s1.heap.objs.size + 1], _, _, H1, rfl, I2, turn_zipH (PySem.W.ktu_apart s1.heap.objs.size a b la lb), ⟨hz, hTI, ⟨_, _, hTO⟩, h1, h2⟩, fun c hcm => ?_, q⟩
      have e' : c = s1.heap.objs.size + 4 ∨ c = s1.heap.objs.size + 2 ∨ c = s1.heap.objs.size + 3 ∨ c = s1.heap.objs.size ∨ c = s1.heap.objs.size + 1 := by simpa using hcm
      have hle : s1.heap.objs.size ≤ c := by
        rcases e' with z | z | z | z | z
        · rw [z]; exact Nat.le_add_right _ _
        · rw [z]; exact Nat.le_add_right _ _
        · rw [z]; exact Nat.le_add_right _ _
        · rw [z]; exact Nat.le_refl _
        · rw [z]; exact Nat.le_add_right _ _
      exact I1.fpOk hle (I1.hok.fresh hle)

/-- a, b, .. = a tuple, hot -/
theorem pg_tupH {X : Cx} {es : List Expr} {k : Nat} {t : TGs} {n : Nat} {pos : Pos} (hc : L2H.HotC X) (h : PGs X es t)
    (hn : (assignEach es X.env).length = n := by rfl) (hst : (assignEach es X.env).findIdx? (·.1) = none := by rfl) : PG X (.Tuple es k pos) (gTup X.K n t) := by
  refine ⟨fun pins s σ H v u Q I r hw => ?_⟩
  obtain ⟨a, xs, e1, hq, hl, hw⟩ := hw
  subst e1
  cases r
  obtain ⟨its, rv, ht, hz⟩ := I.tuple hq
  obtain ⟨x1, hot⟩ := hc.at I
  refine assign_Tuple_hot hot ht (by simp [hn, ← hl, rv.length]) hst fun h' hx => ?_
  have I1 : Inv X pins σ H { s with heap := h' } := I.kept (t' := s.toks) fun b o e => hx b o (Nat.ne_of_lt (Heap.lt_size e)) e
  exact h.run pins _ σ H xs _ Q I1 (by simpa using rv) hw
end G
end
section
set_option Elab.async false
set_option linter.all false
set_option maxRecDepth 100000
/-! GNamed: what an except suite's def may do: a small checker for hot contexts. -/
namespace G
open PySem PySem.Spec PyProof.Rows L2 HotX
variable [Tabl]

/-! ### texts -/
def strsOf : List PV → Option (List Str)
  | [] => some []
  | .str s :: r => (strsOf r).map (s :: ·)
  | _ :: _ => none
def opSplit (_ : LH) : PV → PV → Option PV
  | .str a, .str b => if !(b.length == 0) && (decide (a.length + 2 ≤ 16777216) && (Txt.split a b).all PyData.strOk) then some (.lst ((Txt.split a b).map .str)) else none
  | _, _ => none
def opJoin (_ : LH) : PV → PV → Option PV
  | .str a, .lst xs => match strsOf xs with
    | some ys => if decide ((ys.map (·.length)).sum + ys.length * a.length ≤ 16777216) && PyData.strOk (Txt.join a ys) then some (.str (Txt.join a ys)) else none
    | none => none
  | _, _ => none
theorem strsOf_eq : ∀ {xs : List PV} {ys : List Str}, strsOf xs = some ys → xs = ys.map .str
  | [], ys, h => by simp only [strsOf] at h; cases h; rfl
  | x :: xs, ys, h => by
    cases x with
    | str s =>
      simp only [strsOf, Option.map_eq_some_iff] at h
      obtain ⟨y, h1, rfl⟩ := h
      rw [List.map_cons, ← strsOf_eq h1]
    | _ => simp only [strsOf] at h; cases h
theorem repL_strs {K : PySem.W.Frag} {S : GS} : ∀ {ys : List Str} {vs : List V}, RepL K S (ys.map .str) vs → vs = ys.map V.str
  | [], vs, h => by rw [List.map_nil, RepL] at h; rw [h]; rfl
  | y :: ys, vs, h => by
    rw [List.map_cons, RepL] at h
    obtain ⟨v, r, rfl, h1, h2⟩ := h
    rw [(rep_str h1).1, repL_strs h2]
    rfl
theorem repL_ofStrs {K : PySem.W.Frag} {S : GS} : ∀ {ys : List Str}, ys.all PyData.strOk = true → RepL K S (ys.map .str) (ys.map V.str)
  | [], _ => repL_nil
  | y :: ys, h => by
    rw [List.all_cons, Bool.and_eq_true] at h
    exact repL_cons (by rw [RepV]; exact ⟨rfl, h.1⟩) (repL_ofStrs h.2)
def isStr : PV → Bool
  | .str _ => true
  | _ => false
def cS2 (op : LH → PV → PV → Option PV) (a b : CE) : CE := fun F env h => (a F env h).bind fun x h => if isStr x then (b F env h).bind fun y h => lift h (op h x y) else .fail
theorem isStr_ok {x : PV} (h : isStr x = true) : ∃ s, x = .str s := by
  cases x with
  | str s => exact ⟨s, rfl⟩
  | _ => cases h
section
variable {X : Cx} {ca : CA} {F : FEnv} {a b : Expr} {c1 c2 : CE} {apos pos : Pos}
theorem s2_imp {op : LH → PV → PV → Option PV} {r : V → List V → Hp → VK → Prop} {W : WX} {σ : St} {H : Hp} {Q : VK}
    (k : ∀ (S : GS) (s : Str) (y z : PV) (v : V) (Q : VK), Rel X.K S → strOk s → RepV X.K S y v → op S.h (.str s) y = some z → (∀ H' w, Ext S { S with H := H' } → Rel X.K { S with H := H' } → RepV X.K { S with H := H' } z w → Q w H') → r (.str s) [v] S.H Q)
    (h : tE X.K ca W F (cS2 op c1 c2) σ H Q) : tM1 r (tE X.K ca W F c1) (tE X.K ca W F c2) σ H Q := by
  obtain ⟨S, env, eH, R, e, p⟩ := h
  subst eH
  refine ⟨S, env, rfl, R, e, PostE.bindE p fun x S1 z E1 R1 r1 p1 => ?_⟩
  split at p1
  · rename_i hx
    obtain ⟨s, rfl⟩ := isStr_ok hx
    obtain ⟨rfl, hs⟩ := rep_str r1
    refine ⟨⟨s, rfl⟩, S1, env, rfl, R1, e.mono E1.toExtW, PostE.bindE p1 fun y S2 v E2 R2 r2 p2 => ?_⟩
    obtain ⟨u, e1, pp⟩ := p2.lift_some
    exact k S2 s y u v Q R2 hs r2 e1 fun H' w E R' q => pp _ w (by rfl) E R' q
  · exact p1.elim
theorem se_split (ha : SE X ca F c1 a) (hb : SE X ca F c2 b) (hs : starEach [b] X.env = [(false, eval b X.env)]) (hbase : attributeBase a "split" X.env (eval a X.env) = eval a X.env) (hline : (apos.endLine == pos.line) = true) :
    SE X ca F (cS2 opSplit c1 c2) (.Call (.Attribute a "split" apos) [b] [] pos) := fun W tk =>
  PE.imp (pe_split (ha W tk) (hb W tk) hs hbase hline) fun σ H Q h => s2_imp (fun S s y z v Q R hs ry e q => by
    cases y with
    | str t =>
      simp only [opSplit] at e
      split at e
      · rename_i hz
        cases e
        simp only [Bool.and_eq_true, Bool.not_eq_true'] at hz
        obtain ⟨z1, z2, z3⟩ := hz
        refine ⟨s, t, rfl, by rw [(rep_str ry).1], z1, by rw [sizeLine_eq]; exact of_decide_eq_true z2, fun p hp => ?_⟩
        obtain ⟨E, R'⟩ := R.alloc (o := .lst ((Txt.split s t).map V.str)) hp
        exact q _ _ E R' (rep_newL R hp (repL_ofStrs z3))
      · cases e
    | _ => simp only [opSplit] at e; cases e) h
theorem se_join (ha : SE X ca F c1 a) (hb : SE X ca F c2 b) (hs : starEach [b] X.env = [(false, eval b X.env)]) (hbase : attributeBase a "join" X.env (eval a X.env) = eval a X.env) (hline : (apos.endLine == pos.line) = true) :
    SE X ca F (cS2 opJoin c1 c2) (.Call (.Attribute a "join" apos) [b] [] pos) := fun W tk =>
  PE.imp (pe_join (ha W tk) (hb W tk) hs hbase hline) fun σ H Q h => s2_imp (fun S s y z v Q R hs ry e q => by
    cases y with
    | lst xs =>
      simp only [opJoin] at e
      split at e
      · rename_i ys ey
        split at e
        · rename_i hz
          cases e
          rw [Bool.and_eq_true] at hz
          have := strsOf_eq ey
          subst this
          obtain ⟨l, vs, rfl, t, r⟩ := rep_lst ry
          rw [repL_strs r] at t
          exact ⟨s, l, ys, rfl, rfl, .inl (SqL.of t), of_decide_eq_true hz.1, q S.H _ (Ext.refl S) R (by rw [RepV]; exact ⟨rfl, hz.2⟩)⟩
        · cases e
      · cases e
    | _ => simp only [opJoin] at e; cases e) h
end

/-! ### isinstance of the exception at hand -/
/-- slot 0 holds the object at a -/
def cIsE (a : Addr) (b : Bool) : CE := fun _ env h => match env[0]? with
  | some (some (PV.ext a' _)) => if a' = a then .ok (.bl b) h else .fail
  | _ => .fail
/-- the exception at p, of the class D, its object is pinned -/
structure ExcP (X : Cx) (p : Addr × Obj) (D : Addr) : Prop where
  hot : L2H.Hot1 X.A p
  mem : p ∈ X.pn
  zc : Zc (.ref D) none p.2
  dat : ∃ vs, p.2.data = .fields vs
  cls : ExcC X.K D
theorem ExcP.hotC {X : Cx} {p : Addr × Obj} {D : Addr} (h : ExcP X p D) : L2H.HotC X := ⟨p, h.hot, h.mem⟩
theorem call_isP {X : Cx} {p : Addr × Obj} {D : Addr} (C : ExcP X p D) : CallR X (.builtin "isinstance") (rIsE X.K D p.1) := by
  intro pins s σ H xs us Q I r h
  obtain ⟨c, cv, b, rfl, hcv, e, q⟩ := h
  cases r with
  | cons rx rr =>
    cases rr with
    | cons rt rr =>
      cases rr
      cases rx
      have ec := hcv _ rt
      subst ec
      obtain ⟨hget, _⟩ := I.pin p (List.mem_append_left _ C.mem)
      obtain ⟨vs, hv⟩ := C.dat
      have hz := C.zc
      obtain ⟨a, oe⟩ := p
      have J : PySem.W.InstAt s.heap a oe D none := by
        obtain ⟨oc, od, oda, osl⟩ := oe
        obtain ⟨h1, h2⟩ := hz
        dsimp only at h1 h2 hv
        subst h1 h2 hv
        exact ⟨hget, rfl, rfl, trivial⟩
      exact PySem.W.kia_one (PySem.W.handS_kitx_exc C.cls.hg C.cls.hk C.cls.hs C.cls.hd C.cls.ha C.cls.hn C.cls.ht C.cls.hm) I.kIn J e (fun z => nomatch z) fun tk => ⟨.bl b, H, I.kept (t' := tk) fun _ _ z => z, rfl, q⟩
/-- the name x is the class cv, and the exception's class is one of it: b -/
structure ClsN (X : Cx) (D : Addr) (x : Str) (b : Bool) : Prop where
  ex : ∃ (c : V) (cv : Value), (∀ u, RelV c u → u = cv) ∧ PySem.W.kitOne X.K (.ref D) cv = some b ∧ ∀ pos : Pos, PE X (.Name x pos) (tC c)
section
variable {X : Cx} {ca : CA} {F : FEnv} {a b : Expr} {c1 c2 : CE} {apos pos p1 p2 p3 : Pos} {p : Addr × Obj} {D : Addr} {x : Str}
theorem se_isP {r : Bool} {e0 : Str} (C : ExcP X p D) (hN : X.N[0]? = some e0) (hv : Vis X.env.scope e0) (hd : (e0 == ("__debug__" : Str)) = false) (hcd : (e0 == ("__classdict__" : Str)) = false) (hg : Gl X "isinstance") (hm : X.mg "isinstance" = none) (hc : ClsN X D x r) :
    SE X ca F (cIsE p.1 r) (.Call (.Name "isinstance" p1) [.Name e0 p2, .Name x p3] [] pos) := fun W tk => by
  obtain ⟨c, cv, h1, h2, h3⟩ := hc.ex
  refine PE.imp (pe_callB (call_isP C) hg hm boot_isinstance (pa_cons (pe_var (i := 0) hN hv hd hcd) (pa_cons (h3 p3) pa_nil rfl) rfl) (by decide) (by decide) rfl) fun σ H Q ⟨S, env, eH, R, e, pp⟩ => ?_
  subst eH
  unfold cIsE at pp
  cases q : env[0]? with
  | none => rw [q] at pp; exact pp.elim
  | some o =>
    rw [q] at pp
    cases o with
    | none => exact pp.elim
    | some y =>
      cases y with
      | ext a' k =>
        simp only at pp
        split at pp
        · rename_i ea
          subst ea
          obtain ⟨v, hs, rv⟩ := e.2 0 _ q
          rw [RepV] at rv
          subst rv
          exact ⟨.ref p.1, hs, c, cv, r, rfl, h1, h2, pp.here R (by rw [RepV])⟩
        · exact pp.elim
      | _ => exact pp.elim
end
end G
end
section
set_option Elab.async false
set_option linter.all false
set_option maxRecDepth 100000
/-! GHotF: a def that is called in an except suite: forms, checker, soundness. -/
namespace G
open PySem PySem.Spec PyProof.Rows L2 HotX
variable [Tabl]

def iZipLe (a b : CE) : CI := fun F env h => (a F env h).bind fun x h => (b F env h).bind fun y h => match x, y with
  | .lst xs, .lst ys => if decide (xs.length ≤ ys.length) then .ok (zipPV xs ys) h else .fail
  | _, _ => .fail
theorem feeds_zipH {K : PySem.W.Frag} {S : GS} {a b : Addr} {xs ys : List PV} {vs ws : List V} (la : ¬ Live S a) (ta : S.H a = some (.lst vs)) (ra : RepL K S xs vs) (lb : ¬ Live S b) (tb : S.H b = some (.lst ws)) (rb : RepL K S ys ws) (hle : xs.length ≤ ys.length) : Feeds K S (ItzH K a b) (zipPV xs ys) where
  go := (feeds_zipL la ta ra lb tb rb).go
  stop := fun S' i E R hi => by
    obtain ⟨t1, _⟩ := E.keep a _ ta la (fun _ z => by cases z)
    obtain ⟨t2, _⟩ := E.keep b _ tb lb (fun _ z => by cases z)
    rw [zipPV_length] at hi
    exact ⟨vs, ws, SqL.of t1, SqL.of t2, by rw [ra.length]; omega⟩
  yld := (feeds_zipL la ta ra lb tb rb).yld
def SIH (X : Cx) (ca : CA) (F : FEnv) (it : CI) (tg e : Expr) : Prop := ∀ W : WX, L2N.Takes X W → L2H.PIH X tg e (tI X.K ca W F it)
theorem PIH.imp {X : Cx} {tg e : Expr} {t t' : TI} (h : L2H.PIH X tg e t) (k : ∀ σ H R, t' σ H R → t σ H R) : L2H.PIH X tg e t' := ⟨fun pins s σ H R I q => h.run pins s σ H R I (k σ H R q)⟩
section
variable {X : Cx} {ca : CA} {F : FEnv} {a b tg : Expr} {c1 c2 : CE} {p0 pos : Pos}
theorem si_zipH {elts : List Expr} {kk : Nat} {tpos : Pos} (hg : Gl X "zip") (hm : X.mg "zip" = none) (ha : SE X ca F c1 a) (hb : SE X ca F c2 b) (hs : starEach [a, b] X.env = (false, eval a X.env) :: starEach [b] X.env) (hs2 : starEach [b] X.env = [(false, eval b X.env)]) (hpl : (backTo pos (starEach [b] X.env)).any (·.1) = false) :
    SIH X ca F (iZipLe c1 c2) (.Tuple elts kk tpos) (.Call (.Name "zip" p0) [a, b] [] pos) := fun W tk =>
  PIH.imp (pi_zipH hg hm (pa_cons (ha W tk) (pa_cons (hb W tk) pa_nil hs2) hs) hs hpl) fun σ H R ⟨S, env, eH, Rl, ev, p⟩ => by
    subst eH
    refine ⟨S, env, rfl, Rl, ev, PostI.bindE p fun x S1 z E1 R1 r1 p1 => ?_⟩
    refine ⟨S1, env, rfl, R1, ev.mono E1.toExtW, PostI.bindE p1 fun y S2 z2 E2 R2 r2 p2 => ?_⟩
    have r1 := r1.mono E2.toExtW _ _
    cases x with
    | lst xs =>
      cases y with
      | lst ys =>
        simp only at p2
        split at p2
        · rename_i hle
          obtain ⟨a, vs, rfl, l, t, r⟩ := rep_lstN r1
          obtain ⟨a2, vs2, rfl, l2, t2, r2⟩ := rep_lstN r2
          exact ⟨a, a2, vs, vs2, rfl, SqL.of t, SqL.of t2, p2.here R2 (feeds_zipH l t r l2 t2 r2 (of_decide_eq_true hle))⟩
        · exact p2.elim
      | _ => exact p2.elim
    | _ => exact p2.elim
theorem sg_tupH {ts : List TP} {es : List Expr} {k : Nat} (hc : L2H.HotC X) (h : SGs X ts es) (hn : (assignEach es X.env).length = ts.length) (hst : (assignEach es X.env).findIdx? (·.1) = none) : SG X (.tup ts) (.Tuple es k pos) :=
  PG.imp (pg_tupH hc h hn hst) fun v σ H Q ⟨S, env, env', y, eH, R, e, r, ep, kk⟩ => by
    cases y with
    | tup xs =>
      rw [TP.put] at ep
      obtain ⟨a, vs, ev, t, rl⟩ := rep_tup r
      subst eH
      exact ⟨a, vs, ev, t.sq, by rw [rl.length]; exact putL_length ep, S, env, env', xs, rfl, R, e, rl, ep, kk⟩
    | _ => simp only [TP.put] at ep; cases ep
theorem se_compH {elt iter : Expr} {ifs : List Expr} {scope : Scope} {own : List (Str × Nat)} {it : CI} {t : TP} {tc : CB} {te : CE} (hc : L2H.HotC X) (hN : X.N.Nodup) (hi : SIH X ca F it tg iter) (ok : BlkOk X.N X.env.scope scope own) (hsl : ∀ j ∈ t.slots, j ∈ own.map (·.2))
    (hg : ∀ (p : Addr × Obj), L2H.Hot1 X.A p → ∀ (s : Shared) (H : Hp) (C : Addr) (cl : List (Str × Addr)) (fp : List Addr), SG (blkH X p s H scope (compEnvC scope cl C X.env) fp) t tg) (ht : ∀ (p : Addr × Obj), L2H.Hot1 X.A p → ∀ (s : Shared) (H : Hp) (C : Addr) (cl : List (Str × Addr)) (fp : List Addr), STs (blkH X p s H scope (compEnvC scope cl C X.env) fp) ca F tc ifs)
    (he : ∀ (p : Addr × Obj), L2H.Hot1 X.A p → ∀ (s : Shared) (H : Hp) (C : Addr) (cl : List (Str × Addr)) (fp : List Addr), PE (blkH X p s H scope (compEnvC scope cl C X.env) fp) elt (tE X.K ca W0 F te)) (hs : ∀ x, foldedSetIterable iter X.env x = pure x) :
    SE X ca F (cComp (own.map (·.2)) it t tc te) (.ListComp elt [⟨tg, iter, ifs, 0⟩] scope pos) := fun W tk =>
  PE.imp (pe_lcH (g := tG X.K t) (tt := tT X.K ca W0 F tc) hc hN (hi W tk) ok hg ht he hs) fun σ H Q h => comp_imp hsl h
end

mutual
inductive HE where
  | var (i : Nat) | str (s : Str) | lst (l : HL) | add (a b : HE) | isE (x : Str) | split (a b : HE) | join (a b : HE) | compZ (own : List (Str × Nat)) (a b : HE) (i j : Nat)
inductive HL where
  | nil
  | cons (a : HE) (l : HL)
end
def hlit : List HE → HL
  | [] => .nil
  | a :: r => .cons a (hlit r)
mutual
def denH (tb : Str → Bool) (p : Addr) : HE → CE
  | .var i => cVar i
  | .str s => cC (.str s)
  | .lst l => cLst (denHL tb p l)
  | .add a b => cOp2 opAdd (denH tb p a) (denH tb p b)
  | .isE x => cIsE p (tb x)
  | .split a b => cS2 opSplit (denH tb p a) (denH tb p b)
  | .join a b => cS2 opJoin (denH tb p a) (denH tb p b)
  | .compZ own a b i j => cComp (own.map (·.2)) (iZipLe (denH tb p a) (denH tb p b)) (.tup [.name i, .name j]) (tTru (cVar j)) (cVar i)
def denHL (tb : Str → Bool) (p : Addr) : HL → CL
  | .nil => lNil
  | .cons a l => lCons (denH tb p a) (denHL tb p l)
end
/-- name = e; return e -/
def denHs (tb : Str → Bool) (p : Addr) : List (Option Nat × HE) → CS
  | [] => sSkip
  | (some i, e) :: r => sSeq (sTgt (.name i) (denH tb p e)) (denHs tb p r)
  | (none, e) :: r => sSeq (sRet (denH tb p e)) (denHs tb p r)
mutual
def chkH (cls : List Str) : HE → Gam → Expr → Bool
  | .var i, Γ, e => match e with
    | .Name x _ => decide (Γ.N[i]? = some x) && (Γ.vis x && noDbg x)
    | _ => false
  | .str s, _, e => match e with
    | .Constant (.str j) _ _ => decide (j = s) && PyData.strOk j
    | _ => false
  | .lst l, Γ, e => match e with
    | .List es _ => chkHL cls l Γ es
    | _ => false
  | .add a b, Γ, e => match e with
    | .BinOp a' o' b' _ => decide (o' = .Add) && (chkH cls a Γ a' && chkH cls b Γ b')
    | _ => false
  | .isE x, Γ, e => match e with
    | .Call (.Name f _) [.Name e0 _, .Name y _] [] _ => decide (f = "isinstance") && (decide (y = x) && (decide (x ∈ cls) && (Γ.gl f && (decide (Γ.N[0]? = some e0) && (Γ.vis e0 && noDbg e0)))))
    | _ => false
  | .split a b, Γ, e => match e with
    | .Call (.Attribute a' n apos) [b'] [] pos => decide (n = "split") && (chkH cls a Γ a' && (chkH cls b Γ b' && (notStar b' && (notCall a' && (apos.endLine == pos.line)))))
    | _ => false
  | .join a b, Γ, e => match e with
    | .Call (.Attribute a' n apos) [b'] [] pos => decide (n = "join") && (chkH cls a Γ a' && (chkH cls b Γ b' && (notStar b' && (notCall a' && (apos.endLine == pos.line)))))
    | _ => false
  | .compZ own a b i j, Γ, e => match e with
    | .ListComp (.Name w _) [⟨.Tuple [.Name w2 p2, .Name g p3] k p4, .Call (.Name z _) [a', b'] [] _, [.Name g2 _], 0⟩] scope _ =>
      (decide (z = "zip") && (Γ.gl z && (chkH cls a Γ a' && (chkH cls b Γ b' && (notStar a' && notStar b'))))) &&
      (blkC Γ.N Γ.sc scope own && (decide (i ∈ own.map (·.2)) && (decide (j ∈ own.map (·.2)) && (chkG (.tup [.name i, .name j]) (Γ.blk scope) (.Tuple [.Name w2 p2, .Name g p3] k p4) &&
        ((decide (Γ.N[i]? = some w) && ((Γ.blk scope).vis w && noDbg w)) && (decide (Γ.N[j]? = some g2) && ((Γ.blk scope).vis g2 && noDbg g2)))))))
    | _ => false
def chkHL (cls : List Str) : HL → Gam → List Expr → Bool
  | .nil, _, es => match es with
    | [] => true
    | _ => false
  | .cons a l, Γ, es => match es with
    | e :: r => chkH cls a Γ e && (notStar e && chkHL cls l Γ r)
    | _ => false
end
def chkHs (cls : List Str) : List (Option Nat × HE) → Gam → List Stmt → Bool
  | [], _, sts => match sts with
    | [] => true
    | _ => false
  | (some i, e) :: r, Γ, sts => match sts with
    | .Assign [.Name x px] e' _ :: rest => (decide (Γ.N[i]? = some x) && (Γ.loc x && (chkH cls e Γ e' && noSw Γ x px e'))) && chkHs cls r Γ rest
    | _ => false
  | (none, e) :: r, Γ, sts => match sts with
    | .Return (some e') _ :: rest => chkH cls e Γ e' && chkHs cls r Γ rest
    | _ => false
/-- a hot context -/
structure CxHot (cls : List Str) (tb : Str → Bool) (Γ : Gam) (X : Cx) (p : Addr × Obj) (D : Addr) : Prop where
  sc : X.env.scope = Γ.sc
  N : X.N = Γ.N
  nd : Γ.N.Nodup
  fl : X.fn = Γ.fl
  kind : Γ.sc.kind = .function
  bi : ∀ x ∈ bltNames, X.mg x = none
  exc : ExcP X p D
  cl : ∀ x ∈ cls, ClsN X D x (tb x)
section
variable {cls : List Str} {tb : Str → Bool} {Γ : Gam} {X : Cx} {p : Addr × Obj} {D : Addr}
theorem visOf {sc : Scope} {Γ : Gam} (hs : sc = Γ.sc) {x : Str} (h : Γ.vis x = true) : Vis sc x := by
  unfold Vis
  rw [hs]
  unfold Gam.vis at h
  split at h <;> first | exact .inl (by assumption) | exact .inr (.inl (by assumption)) | exact .inr (.inr (by assumption)) | cases h
theorem glOf (hs : X.env.scope = Γ.sc) {x : Str} (h : Γ.gl x = true) : Gl X x := by
  unfold Gl Env.kindOf
  rw [hs]
  unfold Gam.gl at h
  split at h <;> first | assumption | cases h
theorem locOf (hs : X.env.scope = Γ.sc) (hf : X.fn = Γ.fl) {x : Str} (h : Γ.loc x = true) : L2.Loc X.env.scope x ∧ (X.fn x = true ∨ X.env.scope.names.lookup x = some .local) := by
  unfold L2.Loc
  rw [hs, hf]
  unfold Gam.loc at h
  split at h
  · exact ⟨.inl (by assumption), .inr (by assumption)⟩
  · exact ⟨.inr (by assumption), .inl h⟩
  · cases h
theorem sgs2H {Γ : Gam} {X : Cx} (hs : X.env.scope = Γ.sc) (hf : X.fn = Γ.fl) (hN : X.N = Γ.N) (nd : Γ.N.Nodup) {i j : Nat} {w g : Str} {p2 p3 p4 : Pos} {k : Nat} (hc : L2H.HotC X) (h : chkG (.tup [.name i, .name j]) Γ (.Tuple [.Name w p2, .Name g p3] k p4) = true) : SG X (.tup [.name i, .name j]) (.Tuple [.Name w p2, .Name g p3] k p4) := by
  simp only [chkG, chkGs, Bool.and_eq_true] at h
  obtain ⟨⟨h1, h2⟩, _, ⟨h3, h4⟩, _⟩ := h
  obtain ⟨l1, l2⟩ := locOf hs hf h2
  obtain ⟨m1, m2⟩ := locOf hs hf h4
  exact sg_tupH hc (sgs_cons (sg_name (by rw [hN]; exact nd) (by rw [hN]; exact of_decide_eq_true h1) l1 l2) (sgs_cons (sg_name (by rw [hN]; exact nd) (by rw [hN]; exact of_decide_eq_true h3) m1 m2) sgs_nil (assignM rfl)) (assignM rfl)) rfl rfl
end
mutual
theorem sH {cls : List Str} {tb : Str → Bool} {ca : CA} {F : FEnv} {p : Addr × Obj} {D : Addr} : ∀ (ie : HE) (Γ : Gam) (X : Cx) (e : Expr), CxHot cls tb Γ X p D → chkH cls ie Γ e = true → SE X ca F (denH tb p.1 ie) e
  | .var i, Γ, X, e, C, h => by
    simp only [chkH] at h
    split at h
    · rw [Bool.and_eq_true, Bool.and_eq_true] at h
      obtain ⟨h1, h2, h3⟩ := h
      exact se_var (by rw [C.N]; exact of_decide_eq_true h1) (visOf C.sc h2) (noDbg_ok h3).1 (noDbg_ok h3).2
    · cases h
  | .str s, Γ, X, e, C, h => by
    simp only [chkH] at h
    split at h
    · rw [Bool.and_eq_true] at h
      rw [← of_decide_eq_true h.1]
      exact se_str h.2
    · cases h
  | .lst l, Γ, X, e, C, h => by
    simp only [chkH] at h
    split at h
    · exact se_lst (sHL l Γ X _ C h)
    · cases h
  | .add a b, Γ, X, e, C, h => by
    simp only [chkH] at h
    split at h
    · simp only [Bool.and_eq_true] at h
      obtain ⟨h1, h2, h3⟩ := h
      rw [of_decide_eq_true h1]
      exact se_op os_add (sH a Γ X _ C h2) (sH b Γ X _ C h3)
    · cases h
  | .isE x, Γ, X, e, C, h => by
    simp only [chkH] at h
    split at h
    · simp only [Bool.and_eq_true] at h
      obtain ⟨h1, h2, h3, h4, h5, h6, h7⟩ := h
      have h1 := of_decide_eq_true h1
      have h2 := of_decide_eq_true h2
      subst h1 h2
      exact se_isP C.exc (by rw [C.N]; exact of_decide_eq_true h5) (visOf C.sc h6) (noDbg_ok h7).1 (noDbg_ok h7).2 (glOf C.sc h4) (C.bi _ (by decide)) (C.cl _ (of_decide_eq_true h3))
    · cases h
  | .split a b, Γ, X, e, C, h => by
    simp only [chkH] at h
    split at h
    · simp only [Bool.and_eq_true] at h
      obtain ⟨h1, h2, h3, h4, h5, h6⟩ := h
      rw [of_decide_eq_true h1]
      exact se_split (sH a Γ X _ C h2) (sH b Γ X _ C h3) (star_one h4) (base_of h5) h6
    · cases h
  | .join a b, Γ, X, e, C, h => by
    simp only [chkH] at h
    split at h
    · simp only [Bool.and_eq_true] at h
      obtain ⟨h1, h2, h3, h4, h5, h6⟩ := h
      rw [of_decide_eq_true h1]
      exact se_join (sH a Γ X _ C h2) (sH b Γ X _ C h3) (star_one h4) (base_of h5) h6
    · cases h
  | .compZ own a b i j, Γ, X, e, C, h => by
    simp only [chkH] at h
    split at h
    · simp only [Bool.and_eq_true] at h
      obtain ⟨⟨h1, h2, h3, h4, h5, h6⟩, h7, h8, h9, h10, ⟨h11, h12, h13⟩, h14, h15, h16⟩ := h
      rw [of_decide_eq_true h1] at h2 ⊢
      have scB : ∀ (q : Addr × Obj) (s : Shared) (H : Hp) (Cl : Addr) (cl : List (Str × Addr)) (fp : List Addr) (scope : Scope), (blkH X q s H scope (compEnvC scope cl Cl X.env) fp).env.scope = (Γ.blk scope).sc := fun q s H Cl cl fp scope => by
        show relS scope X.env.scope = relS scope Γ.sc
        rw [C.sc]
      refine se_compH C.exc.hotC (by rw [C.N]; exact C.nd) (si_zipH (glOf C.sc h2) (C.bi _ (by decide)) (sH a Γ X _ C h3) (sH b Γ X _ C h4) (star_cons h5) (star_one h6) (star_plain (es := [_]) (by rw [List.all_cons, h6]; rfl))) (by rw [C.N, C.sc]; exact blkOk_by h7) (fun q hq => ?_)
        (fun q hot s H Cl cl fp => sgs2H (scB q s H Cl cl fp _) rfl (by exact C.N) C.nd ⟨q, hot, List.mem_singleton.mpr rfl⟩ h10)
        (fun q hot s H Cl cl fp => sts_one (st_tru (se_var (by show X.N[j]? = _; rw [C.N]; exact of_decide_eq_true h14) (visOf (scB q s H Cl cl fp _) h15) (noDbg_ok h16).1 (noDbg_ok h16).2) (plain_test rfl) W0 takes0N))
        (fun q hot s H Cl cl fp => se_var (by show X.N[i]? = _; rw [C.N]; exact of_decide_eq_true h11) (visOf (scB q s H Cl cl fp _) h12) (noDbg_ok h13).1 (noDbg_ok h13).2 W0 takes0N) (no_set rfl)
      simp only [TP.slots, TP.slotsL, List.mem_append, List.mem_cons, List.not_mem_nil, or_false] at hq
      rcases hq with z | z
      · rw [z]; exact of_decide_eq_true h8
      · rw [z]; exact of_decide_eq_true h9
    · cases h
theorem sHL {cls : List Str} {tb : Str → Bool} {ca : CA} {F : FEnv} {p : Addr × Obj} {D : Addr} : ∀ (l : HL) (Γ : Gam) (X : Cx) (es : List Expr), CxHot cls tb Γ X p D → chkHL cls l Γ es = true → SA X ca F (denHL tb p.1 l) es
  | .nil, Γ, X, es, C, h => by
    simp only [chkHL] at h
    split at h
    · exact sa_nil
    · cases h
  | .cons a l, Γ, X, es, C, h => by
    simp only [chkHL] at h
    split at h
    · simp only [Bool.and_eq_true] at h
      exact sa_cons (sH a Γ X _ C h.1) (sHL l Γ X _ C h.2.2) (star_cons h.2.1)
    · cases h
end
theorem sHs {cls : List Str} {tb : Str → Bool} {ca : CA} {F : FEnv} {p : Addr × Obj} {D : Addr} {Γ : Gam} {X : Cx} (C : CxHot cls tb Γ X p D) : ∀ (l : List (Option Nat × HE)) (sts : List Stmt), chkHs cls l Γ sts = true → SSs X ca F (denHs tb p.1 l) sts
  | [], sts, h => by
    simp only [chkHs] at h
    split at h
    · exact ss_nil
    · cases h
  | (some i, e) :: r, sts, h => by
    simp only [chkHs] at h
    split at h
    · simp only [Bool.and_eq_true] at h
      obtain ⟨⟨h1, h2, h3, h4⟩, h5⟩ := h
      obtain ⟨l1, l2⟩ := locOf C.sc C.fl h2
      exact ss_cons (ss_set (by rw [C.N]; exact C.nd) (by rw [C.N]; exact of_decide_eq_true h1) l1 l2 (sH e Γ X _ C h3) (no_sw C.sc C.kind h4)) (sHs C r _ h5)
    · cases h
  | (none, e) :: r, sts, h => by
    simp only [chkHs] at h
    split at h
    · rw [Bool.and_eq_true] at h
      exact ss_cons (ss_ret (sH e Γ X _ C h.1)) (sHs C r _ h.2)
    · cases h
end G
end
section
set_option Elab.async false
set_option linter.all false
set_option maxRecDepth 100000
set_option maxHeartbeats 2000000
/-! GErr: the law's own try: a lambda's error told by a text. -/
namespace G
open PySem PySem.Spec PyProof.Rows L2 HotX LamX
variable [Tabl]

theorem start_env {K : PySem.W.Frag} {S : GS} {N : List Str} {xs : List PV} {vs : List V} (r : RepL K S xs vs) : EnvR K S (xs.map some ++ List.replicate (N.length - xs.length) none) (L2.start N vs) := by
  unfold L2.start
  have hl := r.length
  refine ⟨by simp [hl], fun i x e => ?_⟩
  by_cases hi : i < xs.length
  · rw [List.getElem?_append_left (by simpa using hi), List.getElem?_map] at e
    cases q : xs[i]? with
    | none => rw [q] at e; cases e
    | some y =>
      rw [q] at e
      cases e
      obtain ⟨v, hv, rv⟩ := r.get q
      refine ⟨v, ?_, rv⟩
      rw [List.getElem?_append_left (by rw [List.length_map, hl]; exact hi), List.getElem?_map, hv]
      rfl
  · rw [List.getElem?_append_right (by simpa using hi), List.getElem?_replicate] at e
    split at e <;> cases e
theorem start_env1 {K : PySem.W.Frag} {S : GS} {N : List Str} {x : PV} {vs : List V} (r : RepL K S [x] vs) : EnvR K S (some x :: List.replicate (N.length - 1) none) (L2.start N vs) := start_env r
/-- the def that names an error, as the module has it -/
structure NamedFn (K : PySem.W.Frag) (mg : Str → Option Value) (x : Str) (f : Addr) (fd : FuncData) (N : List Str) (ps : Arguments) (body : List Stmt) (scope : Scope) (ir : List (Option Nat × HE)) (cls : List Str) : Prop where
  fn : FunD K x x ps body scope [] [] f fd
  sc : FnScope N (N.take 1) scope
  len : (N.take 1).length = 1
  chk : chkHs cls ir ⟨N, scope, fun _ => true, false⟩ body = true
  gl : ∀ y ∈ cls, (⟨N, scope, fun _ => true, false⟩ : Gam).gl y = true ∧ noDbg y = true
  gm : mg x = some (.ref f)
  bi : ∀ y ∈ bltNames, mg y = none
  bnd : ∀ us : List Value, us.length = 1 → ∀ s : Shared, K.In s.heap → BindsTo s fd ⟨us, []⟩ ((N.take 1).zip us)
/-- what is known of the class at D: which of the named classes it is one of -/
structure ClsK (K : PySem.W.Frag) (mg : Str → Option Value) (cls : List Str) (D : Addr) (tb : Str → Bool) : Prop where
  exc : ExcC K D
  cl : ∀ y ∈ cls, (∃ C, mg y = some (.ref C) ∧ PySem.W.kitOne K (.ref D) (.ref C) = some (tb y)) ∨ (∃ T, mg y = none ∧ bootBuiltins y = some (.type T) ∧ y ≠ "__name__" ∧ PySem.W.kitOne K (.ref D) (.type T) = some (tb y))
section
variable {P : Program} {w : World} {K : PySem.W.Frag} {mg : Str → Option Value} {base : Heap} {x : Str} {f : Addr} {fd : FuncData} {N : List Str} {ps : Arguments} {body : List Stmt} {scope : Scope} {ir : List (Option Nat × HE)} {cls : List Str}
theorem named_run {CX : CXT} {E : XK} (NF : NamedFn K mg x f fd N ps body scope ir cls) {A : Around} {outer : List PySem.Env} {s : Shared} {H : Hp} {p : Addr × Obj} {D : Addr} {tb : Str → Bool} {out : Str} {Q : VK} (hr : L2H.RoomH 1 A) (hot : L2H.Hot1 A p) (hpin : L2H.PinOk outer H s p)
    (e0 : Env0 P w K mg base A outer s H) (hz : Zc (.ref D) none p.2) (hd : ∃ vs, p.2.data = .fields vs) (ck : ClsK K mg cls D tb) {S : GS} (eH : S.H = H) (R : Rel K S)
    (ev : ∀ F, denHs tb p.1 ir F (some (.ext p.1 0) :: List.replicate (N.length - 1) none) S.h = .ret (.str out) S.h) (q : ∀ S', Ext S S' → Rel K S' → S'.h = S.h → strOk out → Q (.str out) S'.H) (hout : strOk out) :
    codeAny (model P w) A (.call (.ref f) ⟨[.ref p.1], []⟩) (CR CX outer P w H s Q E) s := by
  obtain ⟨oc, od, dV, kV, doc, pm, an, cdv, ct, osl, rfl, lk, hcd, _, _⟩ := NF.fn.ex
  have KX : K.In s.heap := e0.mod.kin.keeps fun b o e => (e0.bs b o e).1
  have lim : s.heap.NoLimit := e0.mod.nolimit.keeps fun b o e => (e0.bs b o e).1
  have hkind : ∀ y ∈ (N.take 1).zip [Value.ref p.1], scope.names.lookup y.1 = some .local ∨ (scope.names.lookup y.1 = some .cell ∧ ((cellsFrom (s.heap.objs.size + 1) scope.names []).lookup y.1).isSome = true) := fun ⟨n, v⟩ hy => by
    rcases NF.sc.par n (List.of_mem_zip hy).1 with q | q
    · exact .inl q
    · exact .inr ⟨q, PySem.W.cellsFrom_some _ _ _ (.inl q)⟩
  refine codeAny_call_function hr.depth (KX _ _ lk) rfl NF.sc.co NF.sc.gen rfl (PySem.W.codeRec_of KX hcd) (NF.bnd [.ref p.1] rfl s KX _ _ _ _ ?_)
  refine wpAny_newFunctionEnv_cells NF.sc.kind hkind fun env he s1 xx => ?_
  subst he
  refine ⟨lim.keeps xx.toInCall.keep, codeAny_func ?_⟩
  have I : Inv (L2H.cxH CX P w K mg base N x scope f cdv A outer s H E p) [] (L2.start N [V.ref p.1]) H s1 := L2H.inv_startH NF.sc hpin e0 (by rw [NF.len]; rfl) (.cons rfl .nil) xx
  let XH := L2H.cxH CX P w K mg base N x scope f cdv A outer s H E p
  have C : CxHot cls tb ⟨N, scope, fun _ => true, false⟩ XH p D :=
    { sc := rfl
      N := rfl
      nd := NF.sc.nd
      fl := rfl
      kind := NF.sc.kind
      bi := NF.bi
      exc := ⟨hot, List.mem_singleton.mpr rfl, hz, hd, ck.exc⟩
      cl := fun y hy => by
        obtain ⟨g1, g2⟩ := NF.gl y hy
        have hg : Gl XH y := glOf (Γ := ⟨N, scope, fun _ => true, false⟩) rfl g1
        rcases ck.cl y hy with ⟨C, h1, h2⟩ | ⟨T, h1, h2, h3, h4⟩
        · exact ⟨.ref C, .ref C, fun u r => r, h2, fun pos => pe_glob hg h1 rfl (noDbg_ok g2).1⟩
        · exact ⟨.ty T, .type T, fun u r => r, h4, fun pos => pe_bltn hg h1 h2 rfl h3 (noDbg_ok g2).1⟩ }
  have ht := sHs (ca := fun _ => 0) (F := fun _ _ _ => .fail) C ir body NF.chk W0 takes0N
  have hst : tS K (fun _ => 0) W0 (fun _ _ _ => .fail) (denHs tb p.1 ir) { nx := fun _ H' => Q .non H', rt := Q } (L2.start N [V.ref p.1]) H := by
    have rl : RepL K S [.ext p.1 0] [V.ref p.1] := repL_cons (by rw [RepV]) repL_nil
    refine ⟨S, some (.ext p.1 0) :: List.replicate (N.length - 1) none, eH, R, ?_, ?_⟩
    · exact start_env1 rl
    · rw [ev]
      intro S' z eh E' R' rv
      obtain ⟨rfl, _⟩ := rep_str rv
      exact q S' E' R' eh hout
  refine wpAny_mono (ht.run [] s1 _ H _ I hst) (fun fl s' hs => ?_) fun e s' hs => hs
  have fin : ∀ {σ' : L2.St} {H' : Hp} {v : V} {u : Value}, Inv XH [] σ' H' s' → RelV v u → Q v H' → L2.CE outer P w H s Q u s' :=
    fun {σ' H' v u} J rv q => ⟨v, H', J.os, J.bare, J.base, J.hok, rv, q⟩
  cases fl with
  | ret u =>
    obtain ⟨v, σ', H', J, rv, q⟩ := hs
    exact fin J rv q
  | next =>
    obtain ⟨σ', H', J, q⟩ := hs
    exact fin (v := V.non) (u := Value.none) J rfl q
  | brk =>
    obtain ⟨_, _, _, q⟩ := hs
    exact False.elim q
  | cont =>
    obtain ⟨_, _, _, q⟩ := hs
    exact False.elim q
end
/-- all that the naming of errors needs -/
structure ErrMod (ca : CA) (K : PySem.W.Frag) (mg : Str → Option Value) (x : Str) (f : Addr) (fd : FuncData) (N : List Str) (ps : Arguments) (body : List Stmt) (scope : Scope) (ir : List (Option Nat × HE)) (cls : List Str) (late : Addr) : Prop where
  nf : NamedFn K mg x f fd N ps body scope ir cls
  kn : ∀ (k : Nat) (out : Str), nmE k = some out → strOk out ∧ ∃ tb : Str → Bool, ClsK K mg cls (ca k) tb ∧ PySem.W.exmOne K (.ref (ca k)) (.ref late) = some true ∧
    ∀ (p : Addr) (F : FEnv) (h : LH), denHs tb p ir F (some (.ext p 0) :: List.replicate (N.length - 1) none) h = .ret (.str out) h
section
variable {ca : CA} {Xs : Cx} {x e0 : Str} {f late : Addr} {fd : FuncData} {N : List Str} {ps : Arguments} {body : List Stmt} {scope : Scope} {ir : List (Option Nat × HE)} {cls : List Str} {p : Addr × Obj} {i : Nat} {p1 p2 pos : Pos}
theorem pe_named (EM : ErrMod ca Xs.K Xs.mg x f fd N ps body scope ir cls late) (hot : L2H.Hot1 Xs.A p) (mem : p ∈ Xs.pn) (hr : L2H.RoomH 1 Xs.A) (hN : Xs.N[i]? = some e0) (hv : Vis Xs.env.scope e0) (hd : (e0 == ("__debug__" : Str)) = false) (hcd : (e0 == ("__classdict__" : Str)) = false)
    (hg : Gl Xs x) (hdb : (x == ("__debug__" : Str)) = false) :
    PE Xs (.Call (.Name x p1) [.Name e0 p2] [] pos) (fun σ H Q => σ[i]? = some (some (.ref p.1)) ∧ ∃ (k : Nat) (out : Str) (S : GS), nmE k = some out ∧ Zc (.ref (ca k)) none p.2 ∧ S.H = H ∧ Rel Xs.K S ∧ ∀ S', Ext S S' → Rel Xs.K S' → S'.h = S.h → strOk out → Q (.str out) S'.H) := by
  refine ⟨fun pins s σ H Q I h => ?_⟩
  obtain ⟨hs, k, out, S, e1, hz, eH, R, q⟩ := h
  have ha : PA Xs [.Name e0 p2] (tCons (tVar i) tNil) := pa_cons (pe_var hN hv hd hcd) pa_nil rfl
  refine wpAny_Call_Name_kw (ld_glob I hg EM.nf.gm ?_ hdb)
  refine PySem.W.callWith_K (h₀ := Xs.base) I.ok.mod.kin EM.nf.fn.kp (thn (ha.run pos pins s σ H (fun vs H1 => vs = [V.ref p.1] ∧ H1 = H) I ⟨.ref p.1, hs, rfl, rfl⟩) fun us s1 ⟨vs, H1, I1, r, ev, eH1⟩ => ⟨I1.kIn, ?_⟩) rfl rfl
  subst ev
  rw [eH1] at I1
  obtain ⟨so, tb, ck, _, dn⟩ := EM.kn k out e1
  have hus : us = [Value.ref p.1] := by
    cases r with
    | cons r1 rr =>
      cases rr
      rw [show _ = Value.ref p.1 from r1]
  subst hus
  have P1 := I1.pin p (List.mem_append_left _ mem)
  have hpin : L2H.PinOk Xs.stack H s1 p := ⟨P1.1, P1.2.1, fun hm => (List.mem_cons.mp (I1.stkSub p.1 hm)).elim P1.2.2.1 P1.2.2.2.1, P1.2.2.2.2⟩
  have hdat : ∃ vs, p.2.data = .fields vs := by
    obtain ⟨_, vs, e, _⟩ := hot
    exact ⟨vs, e⟩
  refine wpAny_call (codeAny_mono (named_run (CX := C8.CX0) (E := C8.E0) EM.nf hr hot hpin I1.env0 hz hdat ck eH R (fun F => dn p.1 F S.h) q so) fun r s' hq => ?_)
  cases r with
  | error e => exact (show False from hq).elim
  | ok fl =>
    cases fl with
    | ret u => exact I1.after hq
    | next => exact False.elim hq
    | brk => exact False.elim hq
    | cont => exact False.elim hq
end
/-- what the try makes of the lambda's reading -/
def TTerr (K : PySem.W.Frag) (ca : CA) : (XK → Hp → VK → Prop) → Hp → VK → Prop := fun tl H Q =>
  tl (fun cls d H' => ∃ (k : Nat) (out : Str) (S : GS), cls = .ref (ca k) ∧ d = none ∧ nmE k = some out ∧ S.H = H' ∧ Rel K S ∧ ∀ S', Ext S S' → Rel K S' → S'.h = S.h → strOk out → Q (.str out) S'.H) H fun _ H' => Q (.str "") H'
section
variable {ca : CA} {X : Cx} {x a e0 xn late q : Str} {f LA : Addr} {fd : FuncData} {N : List Str} {ps : Arguments} {body : List Stmt} {scope : Scope} {ir : List (Option Nat × HE)} {cls : List Str} {sg : Scope} {g : Addr} {cdg : Value} {p1 p2 p3 p4 p5 p6 p7 p8 p9 p10 p11 p12 : Pos} {j : Nat}
theorem err_gives (EM : ErrMod ca X.K X.mg xn f fd N ps body scope ir cls LA) (hae : a ≠ e0) (hsk : sg.kind = .function) (hle : sg.names.lookup e0 = some .local) (hde : (e0 == ("__debug__" : Str)) = false) (hce : (e0 == ("__classdict__" : Str)) = false)
    (hgl : sg.names.lookup late = some .globalImplicit) (hml : X.mg late = some (.ref LA)) (hdl : (late == ("__debug__" : Str)) = false) (hgn : sg.names.lookup xn = some .globalImplicit) (hdn : (xn == ("__debug__" : Str)) = false) (hr : Room 2 X.A) :
    GivesToN X [a, e0] x sg g cdg [.Try [.Expr (.Call (.Name a p1) [] [] p2) p3] [.ExceptHandler (some (.Name late p4)) (some e0) [.Return (some (.Call (.Name xn p5) [.Name e0 p6] [] p7)) p8] p9] [] [] p10, .Return (some (.Constant (.str "") j p11)) p12] a q (TTerr X.K ca) := by
  intro f0 c' s H Q tl act hc h
  let X0 := (cxOf C8.CX0 X.prog X.w X.K X.mg X.base [a, e0] x sg g cdg X.A X.stack s H C8.E0).nox
  have hNd : X0.N.Nodup := by
    show [a, e0].Nodup
    simp [hae]
  have h0 : (L2.start [a, e0] [V.ref f0])[0]? = some (some (V.ref f0)) := rfl
  refine ⟨_, pss_cons (L2N.ps_try_as (X := X0) (c := .ref LA) (n := e0) (i := 1) (Wout := fun _ _ _ _ => False)
      (tb := fun W D σ H => ∃ Ech : XK, (∀ cls d σ' H', Ech cls d H' → W cls d σ' H') ∧ σ[0]? = some (some (.ref f0)) ∧ H c' = some (CodeO c' q) ∧ tl Ech H fun _ H' => D.nx σ H')
      (ts := fun a' cl d D σ H => (∃ σ0 : L2.St, σ = σ0.set 1 (some (.ref a'))) ∧ ∃ (k : Nat) (out : Str) (S : GS), cl = .ref (ca k) ∧ d = none ∧ nmE k = some out ∧ S.H = H ∧ Rel X.K S ∧ ∀ S', Ext S S' → Rel X.K S' → S'.h = S.h → strOk out → D.rt (.str out) S'.H)
      rfl rfl hNd rfl hle ⟨hgl, hdl, .inl hml⟩ takes0N (fun W pn xe tk _ => ?_) (fun a' oe cl d pn hz hv => ?_)) (pss_one (ps_ret pe_str)), ?_⟩
  · refine ⟨fun pins s' σ H' D I h' => ?_⟩
    obtain ⟨Ech, hW, h1, h2, h3⟩ := h'
    have hp := act W pn xe Ech p1 p2 tk hW
    exact (pss_one (ps_expr (pos := p3) hp rfl)).run pins s' σ H' D I ⟨h1, h2, h3⟩
  · refine ⟨fun pins s' σ H' D I h' => ?_⟩
    obtain ⟨⟨σ0, e0s⟩, k, out, S, rfl, rfl, e1, eH, R, q⟩ := h'
    have hs : σ[1]? = some (some (V.ref a')) := by
      have hl : σ.length = 2 := I.len
      rw [e0s] at hl ⊢
      rw [List.length_set] at hl
      exact List.getElem?_set_self (by omega)
    obtain ⟨vs, hvs⟩ := hv
    have hot : L2H.Hot1 (X0.suite a' ((a', oe) :: pn)).A (a', oe) := ⟨rfl, vs, hvs, hz.2.2 vs hvs⟩
    have hp := pe_named (Xs := X0.suite a' ((a', oe) :: pn)) (p := (a', oe)) (i := 1) (e0 := e0) (p1 := p5) (p2 := p6) (pos := p7) EM hot List.mem_cons_self ⟨by have := (hr.deeper (envOfC x sg s.heap.objs.size g cdg)).dp; exact this, by have := (hr.deeper (envOfC x sg s.heap.objs.size g cdg)).un; exact this⟩ rfl (.inl hle) hde hce hgn hdn
    exact (pss_one (ps_ret (pos := p8) hp)).run pins s' σ H' D I ⟨hs, k, out, S, e1, hz.zc, eH, R, q⟩
  · refine ⟨fun cl d H' => ∃ (k : Nat) (out : Str) (S : GS), cl = .ref (ca k) ∧ d = none ∧ nmE k = some out ∧ S.H = H' ∧ Rel X.K S ∧ ∀ S', Ext S S' → Rel X.K S' → S'.h = S.h → strOk out → Q (.str out) S'.H, fun cl d σ' H' hh => ?_, h0, hc, h⟩
    obtain ⟨k, out, S, rfl, rfl, e1, eH, R, q⟩ := hh
    obtain ⟨_, tb, _, ex, _⟩ := EM.kn k out e1
    refine ⟨true, ex, fun _ a' na => ⟨⟨σ', rfl⟩, k, out, S, rfl, rfl, e1, eH, R, q⟩, fun z => by cases z⟩
end
end G
end
section
set_option Elab.async false
set_option linter.all false
set_option maxRecDepth 100000
set_option maxHeartbeats 2000000
/-! GLm: _law_error(lambda: e). -/
namespace G
open PySem PySem.Spec PyProof.Rows L2 LamX
variable [Tabl]

theorem extN_ok {K : PySem.W.Frag} {S : GS} {H1 : Hp} (R : Rel K S) (e : ExtN S.H H1) (t : Tabs (Tabl.tabs K) H1) : Ext S { S with H := H1 } ∧ Rel K { S with H := H1 } := by
  have W : ExtW S { S with H := H1 } := ⟨fun _ _ h => h, fun a o h l n => ⟨e a o h n, l⟩⟩
  refine ⟨⟨W, rfl, fun a ha => ?_⟩, t, R.len, R.nd, fun a ha => ?_, fun a ha => ?_, fun n a o h1 h2 => ?_⟩
  · obtain ⟨xs, h⟩ := (R.rsv a ha).2
    rw [h]
    exact e a _ h fun _ z => by cases z
  · obtain ⟨o, h, nt⟩ := R.trk a ha
    exact ⟨o, e a o h nt, nt⟩
  · obtain ⟨h1, xs, h⟩ := R.rsv a ha
    exact ⟨h1, xs, e a _ h fun _ z => by cases z⟩
  · obtain ⟨u, h, nt⟩ := R.trk a (List.mem_of_getElem? h1)
    exact RepO.mono W ((e a u h nt).trans h.symm) (R.obj n a o h1 h2)
/-- the def that hands a lambda's error on, as the module has it -/
structure ErrFn (K : PySem.W.Frag) (mg : Str → Option Value) (g : Addr) (fdg : FuncData) (pg : Arguments) (bg : List Stmt) (sg : Scope) (a e0 xn late : Str) (LA : Addr) : Prop where
  fn : FunD K errName errName pg bg sg [] [] g fdg
  gl : mg errName = some (.ref g)
  sc : FnScope [a, e0] [a] sg
  hae : a ≠ e0
  hva : Vis sg a
  had : (a == ("__debug__" : Str)) = false ∧ (a == ("__classdict__" : Str)) = false
  hle : sg.names.lookup e0 = some .local
  hed : (e0 == ("__debug__" : Str)) = false ∧ (e0 == ("__classdict__" : Str)) = false
  hgl : sg.names.lookup late = some .globalImplicit
  hml : mg late = some (.ref LA)
  hdl : (late == ("__debug__" : Str)) = false
  hgn : sg.names.lookup xn = some .globalImplicit
  hdn : (xn == ("__debug__" : Str)) = false
  bnd : ∀ (kV doc pm : Value) (an : Option Addr) (cdv ct : Value) (us : List Value), us.length = 1 → bindArgs (PySem.W.fnOf errName errName pg bg sg .none kV doc pm an cdv ct) ⟨us, []⟩ = pure ([a].zip us)
  body : ∃ (p1 p2 p3 p4 p5 p6 p7 p8 p9 p10 p11 p12 : Pos) (j : Nat), bg = [.Try [.Expr (.Call (.Name a p1) [] [] p2) p3] [.ExceptHandler (some (.Name late p4)) (some e0) [.Return (some (.Call (.Name xn p5) [.Name e0 p6] [] p7)) p8] p9] [] [] p10, .Return (some (.Constant (.str "") j p11)) p12]
section
variable {M : ModI} {ca : CA} {F : FEnv} {Γ : Gam} {X : Cx} {a e0 xn late : Str} {f LA g cA P : Addr} {fd fdg : FuncData} {N : List Str} {ps pg : Arguments} {body bg : List Stmt} {scope sg : Scope} {ir : List (Option Nat × HE)} {cls : List Str} {k : Nat}
theorem lam_rule (C : CxB M ca F Γ X) (EM : ErrMod ca X.K X.mg xn f fd N ps body scope ir cls LA) (EF : ErrFn X.K X.mg g fdg pg bg sg a e0 xn late LA) (hr : Room (k + 2) X.A)
    (fnk : ∀ (x : Str) (n : Nat), M.fn.lookup x = some n → ∃ (fa : Addr) (fd : FuncData) (ps : List Str), FnOk X.prog X.w X.K X.mg X.base (L2N.CX X.prog X.w) k fa fd ps (spF X.K ca F n) ∧ X.mg x = some (.ref fa) ∧ PySem.W.keepIn X.K (.ref fa) = true ∧ Binds X.K fd ps [])
    (TB : TabB X.base X.mg cA P) (hcode : X.env.code = .ref cA) (hmT : (P, X.env.qual ++ "<lambda>") ∈ Tabl.tabs X.K) (hu : ∀ p ∈ Tabl.tabs X.K, p.1 = P → p.2 = X.env.qual ++ "<lambda>")
    (c : CE) (lbody : Expr) (lscope : Scope) (lpos p pos : Pos) (L : LamS Γ.sc lscope) (hg : Gl X errName) (hb : ∀ X' : Cx, CxB M ca F (Γ.lamG lscope) X' → SE X' ca F c lbody) :
    SE X ca F (cLam c) (.Call (.Name errName p) [.Lambda ⟨[], [], none, [], [], none, []⟩ lbody lscope lpos] [] pos) := fun W tk => by
  obtain ⟨p1, p2, p3, p4, p5, p6, p7, p8, p9, p10, p11, p12, j, ebg⟩ := EF.body
  obtain ⟨oc, od, dV, kV, doc, pm, an, cdv, ct, osl, rfl, lk, hcd, hD, hK⟩ := EF.fn.ex
  have hbn := EF.fn.bindsN (ps := [a]) fun kV doc pm an cdv ct us hl => EF.bnd kV doc pm an cdv ct us hl
  have hG := err_gives (x := errName) (q := X.env.qual ++ "<lambda>") (sg := sg) (g := g) (cdg := cdv) (p1 := p1) (p2 := p2) (p3 := p3) (p4 := p4) (p5 := p5) (p6 := p6) (p7 := p7) (p8 := p8) (p9 := p9) (p10 := p10) (p11 := p11) (p12 := p12) (j := j) EM EF.hae EF.sc.kind EF.hle EF.hed.1 EF.hed.2 EF.hgl EF.hml EF.hdl EF.hgn EF.hdn (hr.mono (by omega))
  rw [← ebg] at hG
  have hL : LamS X.env.scope lscope := by rw [C.sc]; exact L
  refine PE.imp (pe_lamcallN (T := Tabl.tabs X.K) (k := k) (t := fun E => tE X.K ca (fun cls d _ H => E cls d H) F c) hg EF.gl EF.fn.kp lk hcd hbn EF.sc rfl EF.hva hG TB hcode hmT hu hr hL rfl (fun _ _ _ _ _ => rfl) (fun A outer s H E f' c' hr' => ?_) (by decide) EF.had.1 EF.had.2) fun σ H Q ⟨S, env, eH, R, ev, pp⟩ => ?_
  · have B : CxB M ca F (Γ.lamG lscope) (lamCxN X A outer s H E lscope f' c') :=
      { sc := rfl
        N := C.N
        nd := C.nd
        fl := rfl
        calm := rfl
        un := by have := hr'.un; show (A.deeper (lamEnv X lscope s.heap.objs.size f' c')).units + 80 < cLine; omega
        bi := C.bi
        fn := fun x n hx => by
          obtain ⟨fa, fd, ps, h1, h2, h3, h4⟩ := fnk x n hx
          exact ⟨k, fa, fd, ps, h1, hr', h2, h3, h4⟩ }
    exact hb _ B _ (L2N.takes_of (X := lamCxN X A outer s H E lscope f' c') rfl rfl rfl rfl)
  · subst eH
    refine ⟨R.tabs, fun H1 e1 t1 => ?_⟩
    obtain ⟨E1, R1⟩ := extN_ok R e1 t1
    refine ⟨{ S with H := H1 }, env, rfl, R1, ev.mono E1.toExtW, ?_⟩
    have pp := PostE.ext E1 pp
    unfold cLam at pp
    show PostE X.K ca _ { S with H := H1 } σ _ (c F env S.h)
    have pp : PostE X.K ca W { S with H := H1 } σ Q (match c F env S.h with
      | .ok _ h => .ok (.str "") h
      | .exc k h => match nmE k with
        | some out => .ok (.str out) h
        | none => .fail
      | .fail => .fail) := pp
    cases q : c F env S.h with
    | ok x g => rw [q] at pp; exact fun S2 z eh E2 R2 _ => pp S2 (.str "") eh E2 R2 (by rw [RepV]; exact ⟨rfl, by unfold strOk; decide +kernel⟩)
    | exc n g =>
      rw [q] at pp
      simp only at pp
      cases qn : nmE n with
      | none => rw [qn] at pp; exact pp.elim
      | some out =>
        rw [qn] at pp
        exact fun S2 eh E2 R2 => ⟨n, out, S2, rfl, rfl, qn, rfl, R2, fun S3 E3 R3 e3 so => pp S3 (.str out) (e3.trans eh) (E2.trans E3) R3 (by rw [RepV]; exact ⟨rfl, so⟩)⟩
    | fail => rw [q] at pp; exact pp
end
end G
end
section
set_option Elab.async false
set_option linter.all false
set_option maxRecDepth 100000
/-! GFn: functions by number, by induction on the depth. -/
namespace G
open PySem PySem.Spec PyProof.Rows L2
variable [Tabl]

/-- what was made within is forgotten -/
def GS.cut (S : GS) (n : Nat) : GS := ⟨S.ρ.take n, S.h.take n, S.H, S.rv⟩
section
variable {K : PySem.W.Frag} {S : GS} {n : Nat}
theorem take_some {α : Type} {l : List α} {i : Nat} {x : α} (h : (l.take n)[i]? = some x) : l[i]? = some x ∧ i < n := by
  rw [List.getElem?_take] at h
  split at h
  · exact ⟨h, by assumption⟩
  · cases h
theorem live_cut {a : Addr} (h : Live (S.cut n) a) : Live S a := by
  rcases h with ⟨m, o, h1, h2, h3⟩ | h
  · exact .inl ⟨m, o, (take_some h1).1, (take_some h2).1, h3⟩
  · exact .inr h
theorem TupAt.cut {a : Addr} {xs : List PV} {vs : List V} (h : TupAt K S a xs vs) : TupAt K (S.cut n) a xs vs := by
  rcases h with ⟨l, h⟩ | h
  · exact .inl ⟨fun z => l (live_cut z), h⟩
  · exact .inr h
mutual
theorem RepV.cut : ∀ (x : PV) (v : V), closedV n x = true → RepV K S x v → RepV K (S.cut n) x v
  | .non, _, _, h => by simpa only [RepV] using h
  | .bl _, _, _, h => by simpa only [RepV] using h
  | .int _, _, _, h => by simpa only [RepV] using h
  | .str _, _, _, h => by simpa only [RepV] using h
  | .tup xs, v, c, h => by
    rw [closedV] at c
    rw [RepV] at h ⊢
    obtain ⟨a, vs, e, t, r⟩ := h
    exact ⟨a, vs, e, t.cut, RepL.cutn xs vs c r⟩
  | .lst xs, v, c, h => by
    rw [closedV] at c
    rw [RepV] at h ⊢
    obtain ⟨a, vs, e, l, t, r⟩ := h
    exact ⟨a, vs, e, fun z => l (live_cut z), t, RepL.cutn xs vs c r⟩
  | .dT xs, v, c, h => by
    rw [closedV] at c
    rw [RepV] at h ⊢
    obtain ⟨a, vs, e, l, t, r⟩ := h
    exact ⟨a, vs, e, fun z => l (live_cut z), t, RepP.cutn xs vs c r⟩
  | .dK xs, v, c, h => by
    rw [closedV] at c
    rw [RepV] at h ⊢
    obtain ⟨a, vs, e, l, t, r⟩ := h
    exact ⟨a, vs, e, fun z => l (live_cut z), t, RepQ.cutn xs vs c r⟩
  | .ref k, v, c, h => by
    rw [closedV] at c
    rw [RepV] at h ⊢
    obtain ⟨a, e, p⟩ := h
    refine ⟨a, e, ?_⟩
    show (S.ρ.take n)[k]? = some a
    rw [List.getElem?_take_of_lt (of_decide_eq_true c)]
    exact p
  | .ext _ _, _, _, h => by simpa only [RepV] using h
  | .scr xs, v, c, h => by
    rw [closedV] at c
    rw [RepV] at h ⊢
    obtain ⟨a, vs, e, t, r⟩ := h
    refine ⟨a, vs, e, ?_, RepL.cutn xs vs c r⟩
    rcases t with ⟨l, t⟩ | t
    · exact .inl ⟨fun z => l (live_cut z), t⟩
    · exact .inr t
theorem RepL.cutn : ∀ (x : List PV) (v : List V), closedL n x = true → RepL K S x v → RepL K (S.cut n) x v
  | [], _, _, h => by simpa only [RepL] using h
  | x :: xs, v, c, h => by
    rw [closedL, Bool.and_eq_true] at c
    rw [RepL] at h ⊢
    obtain ⟨v, r, e, h1, h2⟩ := h
    exact ⟨v, r, e, RepV.cut x v c.1 h1, RepL.cutn xs r c.2 h2⟩
theorem RepP.cutn : ∀ (x : List (List Key × PV)) (v : List (List Key × V)), closedP n x = true → RepP K S x v → RepP K (S.cut n) x v
  | [], _, _, h => by simpa only [RepP] using h
  | (k, x) :: xs, v, c, h => by
    rw [closedP, Bool.and_eq_true] at c
    rw [RepP] at h ⊢
    obtain ⟨v, r, e, h1, h2⟩ := h
    exact ⟨v, r, e, RepV.cut x v c.1 h1, RepP.cutn xs r c.2 h2⟩
theorem RepQ.cutn : ∀ (x : List (Key × PV)) (v : List (Key × V)), closedQ n x = true → RepQ K S x v → RepQ K (S.cut n) x v
  | [], _, _, h => by simpa only [RepQ] using h
  | (k, x) :: xs, v, c, h => by
    rw [closedQ, Bool.and_eq_true] at c
    rw [RepQ] at h ⊢
    obtain ⟨v, r, e, h1, h2⟩ := h
    exact ⟨v, r, e, RepV.cut x v c.1 h1, RepQ.cutn xs r c.2 h2⟩
end
theorem cut_ok {S0 : GS} (R0 : Rel K S0) (E : Ext S0 S) (R : Rel K S) (hn : n = S0.h.length) (hc : (S.h.take n).all (closedO n) = true) : Ext S0 (S.cut n) ∧ Rel K (S.cut n) := by
  refine ⟨⟨⟨fun m a h => ?_, fun a o e l nt => ?_⟩, E.rv, E.rvk⟩, R.tabs, ?_, ?_, fun a ha => R.trk a (List.mem_of_mem_take ha), fun a ha => ?_, fun m a o h1 h2 => ?_⟩
  · have hm := (List.getElem?_eq_some_iff.mp h).1
    show (S.ρ.take n)[m]? = some a
    rw [List.getElem?_take_of_lt (by rw [hn, ← R0.len]; exact hm)]
    exact E.pre m a h
  · obtain ⟨e', l'⟩ := E.keep a o e l nt
    exact ⟨e', fun z => l' (live_cut z)⟩
  · show (S.ρ.take n).length = (S.h.take n).length
    rw [List.length_take, List.length_take, R.len]
  · exact R.nd.sublist (List.take_sublist _ _)
  · obtain ⟨h1, h2⟩ := R.rsv a ha
    exact ⟨fun z => h1 (List.mem_of_mem_take z), h2⟩
  · have z := R.obj m a o (take_some h1).1 (take_some h2).1
    have c := List.all_eq_true.mp hc o (List.mem_of_getElem? h2)
    cases o with
    | lst xs => rw [closedO] at c; obtain ⟨vs, e, r⟩ := z; exact ⟨vs, e, r.cutn xs vs c⟩
    | dT xs => rw [closedO] at c; obtain ⟨vs, e, r⟩ := z; exact ⟨vs, e, r.cutn xs vs c⟩
    | dK xs => rw [closedO] at c; obtain ⟨vs, e, r⟩ := z; exact ⟨vs, e, r.cutn xs vs c⟩
    | dead => trivial
end
section
variable {K : PySem.W.Frag} {ca : CA} {S0 S : GS} {Q : VK} {E : XK}
theorem leave_ok {x : PV} {z : V} (R0 : Rel K S0) (e : Ext S0 S) (R : Rel K S) (r : RepV K S x z) (h : PostF K ca S0 Q E (leave S0.h.length x S.h)) : Q z S.H := by
  unfold leave at h
  split at h
  · exact h S z rfl e R r
  · split at h
    · rename_i hc
      rw [Bool.and_eq_true] at hc
      obtain ⟨e', R'⟩ := cut_ok R0 e R rfl hc.2
      exact h (S.cut S0.h.length) z rfl e' R' (r.cut x z hc.1)
    · exact h S z rfl e R r
theorem leaveX_ok {c : Nat} (R0 : Rel K S0) (e : Ext S0 S) (R : Rel K S) (h : PostF K ca S0 Q E (leaveX S0.h.length c S.h)) : E (.ref (ca c)) none S.H := by
  unfold leaveX at h
  split at h
  · exact h S rfl e R
  · split at h
    · rename_i hc
      obtain ⟨e', R'⟩ := cut_ok R0 e R rfl hc
      exact h (S.cut S0.h.length) rfl e' R'
    · exact h S rfl e R
end
/-- a def -/
structure FI where
  name : Str
  num : Nat
  N : List Str
  np : Nat
  ps : Arguments
  body : List Stmt
  scope : Scope
  ir : ISs
  lm : Bool := false
def FI.Γ (f : FI) : Gam := ⟨f.N, f.scope, fun _ => true, f.lm⟩
/-- what is to be computed of a def -/
structure FI.Ok (M : ModI) (T : Nat → Option FD) (f : FI) : Prop where
  chk : chkSs M f.ir f.Γ f.body = true
  sc : FnScope f.N (f.N.take f.np) f.scope
  np : f.np ≤ f.N.length
  fd : T f.num = some ⟨f.np, f.N.length, denSs f.ir⟩
  bnd : ∀ (kV doc pm : Value) (an : Option Addr) (cdv ct : Value) (us : List Value), us.length = (f.N.take f.np).length → bindArgs (PySem.W.fnOf f.name f.name f.ps f.body f.scope .none kV doc pm an cdv ct) ⟨us, []⟩ = pure ((f.N.take f.np).zip us)
/-- the module as the heap has it -/
structure ModK (M : ModI) (ca : CA) (Ls : List FI) (K : PySem.W.Frag) (mg : Str → Option Value) (fa : Str → Addr) (fds : Str → FuncData) (base : Heap) : Prop where
  fn : ∀ f ∈ Ls, FunD K f.name f.name f.ps f.body f.scope [] [] (fa f.name) (fds f.name)
  num : ∀ (x : Str) (n : Nat), M.fn.lookup x = some n → ∃ f ∈ Ls, f.name = x ∧ f.num = n
  gl : ∀ f ∈ Ls, mg f.name = some (.ref (fa f.name))
  bi : ∀ x ∈ bltNames, mg x = none
  ex : ∀ (x : Str) (c : Nat), M.ex.lookup x = some c → mg x = some (.ref (ca c)) ∧ PySem.W.keepIn K (.ref (ca c)) = true ∧ PySem.W.subIn K (.ref (ca c)) (.type "BaseException") = some true ∧ PySem.W.typeIn K (.ref (ca c)) = some (.type "type") ∧
    ∃ (B newId initId : String) (bmB : List Value), ExcBaseFacts B newId initId bmB ∧ PySem.W.excIn K (ca c) bmB newId = true
  lam : ∀ f ∈ Ls, f.lm = true →
    (∃ (xn e0 a late : Str) (f0 LA g : Addr) (fd fdg : FuncData) (N : List Str) (ps pg : Arguments) (body bg : List Stmt) (scope sg : Scope) (ir : List (Option Nat × HE)) (cls : List Str), ErrMod ca K mg xn f0 fd N ps body scope ir cls LA ∧ ErrFn K mg g fdg pg bg sg a e0 xn late LA) ∧
    ∃ c P : Addr, (fds f.name).code = .ref c ∧ LamX.TabB base mg c P ∧ ∀ (L : Addr) (cd : Value), (P, (envOfC f.name f.scope L (fa f.name) cd).qual ++ "<lambda>") ∈ Tabl.tabs K ∧ ∀ p ∈ Tabl.tabs K, p.1 = P → p.2 = (envOfC f.name f.scope L (fa f.name) cd).qual ++ "<lambda>"
section
variable {M : ModI} {ca : CA} {Ls : List FI} {K : PySem.W.Frag} {mg : Str → Option Value} {fa : Str → Addr} {fds : Str → FuncData} {T : Nat → Option FD} {P : Program} {w : World} {base : Heap}
theorem fn_step {F : FEnv} {d : Nat} (MK : ModK M ca Ls K mg fa fds base) (ok : ∀ f ∈ Ls, f.Ok M T)
    (ih : ∀ f ∈ Ls, FnOk P w K mg base (L2N.CX P w) (3 * d) (fa f.name) (fds f.name) (f.N.take f.np) (spF K ca F f.num)) (f : FI) (hf : f ∈ Ls) :
    FnOk P w K mg base (L2N.CX P w) (3 * (d + 1)) (fa f.name) (fds f.name) (f.N.take f.np) (spF K ca (fun g xs h => match T g with | some fd => runFD fd F xs h | none => .fail) f.num) := by
  have o := ok f hf
  have lenP : (f.N.take f.np).length = f.np := by rw [List.length_take]; exact Nat.min_eq_left o.np
  have args : ∀ {vs : List V} {H : Hp} {Q : VK} {E : XK}, spF K ca (fun g xs h => match T g with | some fd => runFD fd F xs h | none => .fail) f.num vs H Q E → ∃ (S : GS) (xs : List PV), S.H = H ∧ Rel K S ∧ RepL K S xs vs ∧ xs.length = f.np ∧
      PostF K ca S Q E (match denSs f.ir F (xs.map some ++ List.replicate (f.N.length - f.np) none) S.h with
        | .nx _ h' => leave S.h.length .non h'
        | .ret v h' => leave S.h.length v h'
        | .exc c h' => leaveX S.h.length c h'
        | _ => .fail) := fun {vs H Q E} h => by
    obtain ⟨S, xs, e, R, r, p⟩ := h
    simp only [o.fd] at p
    unfold runFD at p
    simp only at p
    split at p
    · exact ⟨S, xs, e, R, r, by assumption, p⟩
    · exact p.elim
  have bn := (MK.fn f hf).bindsN o.bnd
  obtain ⟨oc, od, dV, kV, doc, pm, an, cdv, ct, osl, efd, lk, hcd, _, _⟩ := (MK.fn f hf).ex
  rw [efd] at lk ⊢
  refine FnOk.mono (j := 3 * d + 2 + 1) (fn_of lk hcd o.sc (fun vs H Q E h => ?_) fun A outer s H vs Q E hr h => ?_) (by omega)
  · obtain ⟨S, xs, _, _, r, hl, _⟩ := args h
    rw [r.length, hl, lenP]
  · obtain ⟨S, xs, eH, R, r, hl, p⟩ := args h
    let X := cxOf (L2N.CX P w) P w K mg base f.N f.name f.scope (fa f.name) cdv A outer s H E
    have tk : L2N.Takes X (fun cls d _ H => E cls d H) := L2N.takes_of (X := X) rfl rfl rfl rfl
    have fnk : ∀ (x : Str) (n : Nat), M.fn.lookup x = some n → ∃ (fa : Addr) (fd : FuncData) (ps : List Str), FnOk X.prog X.w X.K X.mg X.base (L2N.CX X.prog X.w) (3 * d) fa fd ps (spF X.K ca F n) ∧ X.mg x = some (.ref fa) ∧ PySem.W.keepIn X.K (.ref fa) = true ∧ Binds X.K fd ps [] := fun x n hx => by
      obtain ⟨g, hg, e1, e2⟩ := MK.num x n hx
      subst e1 e2
      exact ⟨_, _, _, ih g hg, MK.gl g hg, (MK.fn g hg).kp, (MK.fn g hg).bindsN (ok g hg).bnd⟩
    have B : CxB M ca F f.Γ X :=
      { sc := rfl
        N := rfl
        nd := o.sc.nd
        fl := rfl
        calm := rfl
        un := by have := hr.un; show (A.deeper (envOfC f.name f.scope s.heap.objs.size (fa f.name) cdv)).units + 80 < cLine; omega
        bi := MK.bi
        fn := fun x n hx => by
          obtain ⟨fa', fd', ps', h1, h2, h3, h4⟩ := fnk x n hx
          exact ⟨3 * d, fa', fd', ps', h1, hr.mono (by omega), h2, h3, h4⟩ }
    have C : CxS M ca F f.Γ X :=
      { B with
        lam := fun hl c body scope lpos p pos L hg hb => by
          obtain ⟨⟨xn, e0, a, late, f0, LA, g, fd, fdg, N, ps, pg, body', bg, scope', sg, ir, cls, EM, EF⟩, cA, Pt, hc, TB, ht⟩ := MK.lam f hf hl
          have hcode : X.env.code = .ref cA := by
            rw [efd] at hc
            exact hc
          exact lam_rule (X := X) B EM EF hr fnk TB hcode (ht _ _).1 (ht _ _).2 c body scope lpos p pos L hg hb
        kind := o.sc.kind
        hp := passes_of (X := X) rfl
        ex := fun x c hx hg hdb m j p p2 pos => by
          obtain ⟨h1, h2, h3, h4, B, nI, iI, bm, h5, h6⟩ := MK.ex x c hx
          exact L2N.pmk_own (X := X) h5 h6 h1 h2 (raises_own h3 h4) hg hdb }
    refine ⟨_, sSs f.ir f.Γ X f.body C o.chk _ tk, S, xs.map some ++ List.replicate (f.N.length - f.np) none, eH, R, by rw [← hl]; exact start_env r, ?_⟩
    cases q : denSs f.ir F (xs.map some ++ List.replicate (f.N.length - f.np) none) S.h with
    | nx env h' =>
      rw [q] at p
      exact fun S' σ' eh e R' ev => by subst eh; exact leave_ok R e R' (by rw [RepV]) p
    | ret v h' =>
      rw [q] at p
      exact fun S' z eh e R' rv => by subst eh; exact leave_ok R e R' rv p
    | exc c h' =>
      rw [q] at p
      exact fun S' σ' eh e R' => by subst eh; exact leaveX_ok R e R' p
    | bk env h' => rw [q] at p; exact p.elim
    | ct env h' => rw [q] at p; exact p.elim
    | fail => rw [q] at p; exact p.elim
theorem fn_all (MK : ModK M ca Ls K mg fa fds base) (ok : ∀ f ∈ Ls, f.Ok M T) : ∀ (d : Nat), ∀ f ∈ Ls, FnOk P w K mg base (L2N.CX P w) (3 * d) (fa f.name) (fds f.name) (f.N.take f.np) (spF K ca (fenv T d) f.num)
  | 0, f, hf => ⟨fun vs H Q E ⟨_, _, _, _, _, p⟩ => p.elim, fun A outer s H args us vs Q E _ _ _ _ ⟨_, _, _, _, _, p⟩ => p.elim⟩
  | d + 1, f, hf => fn_step MK ok (fn_all MK ok d) f hf
end
end G
end
section
set_option Elab.async false
set_option linter.all false
set_option maxRecDepth 100000
set_option maxHeartbeats 1000000
/-! GEnd: from what the head says to the module's facts. -/
namespace G
open PySem PySem.Spec PyProof.Rows L2

@[reducible] def lamTabs (ns : List Str) : Tabl := ⟨fun K => ns.map fun x => ((He.cT K (x, none)).2, (x ++ (".<locals>." : Str)) ++ ("<lambda>" : Str))⟩
/-- the class D may be asked by isinstance, as an exception -/
def excCB (K : PySem.W.Frag) (D : Addr) : Bool :=
  decide (PySem.W.findIn K (.ref D) "__getattribute__" = some (some (.builtin "BaseException.__getattribute__"))) && (decide (PySem.W.findIn K (.ref D) "__getattr__" = some none) && (decide (PySem.W.subIn K (.ref D) (.type "BaseException") = some true) && (PySem.W.hasDictIn K D &&
  (decide (PySem.W.findIn K (.ref D) "__class__" = some (some (.builtin "object.__class__"))) && (decide (PySem.W.specialIn K (.builtin "object.__class__") "__get__" = some (some (.builtin "getset_descriptor.__get__"))) && (decide (PySem.W.takesIn K (.builtin "object.__class__") = some true) && decide (PySem.W.mroIn K D (.type "object") = some true)))))))
theorem excCB_ok {K : PySem.W.Frag} {D : Addr} (h : excCB K D = true) : ExcC K D := by
  unfold excCB at h
  simp only [Bool.and_eq_true, decide_eq_true_eq] at h
  obtain ⟨h1, h2, h3, h4, h5, h6, h7, h8⟩ := h
  exact ⟨h1, h2, h3, h4, h5, h6, h7, h8⟩
/-- where the class of the number k stands -/
def caOf (exs : List (Str × Nat)) (K : PySem.W.Frag) : CA := fun k => match exs.find? (fun q => q.2 == k) with
  | some q => He.ga K q.1
  | none => 0
def errCls : List Str := ["InvalidTable", "InvalidDelay", "InvalidNumber", "InvalidPlan", "InvalidFacts", "InvalidText", "Unlike", "TooLate", "NothingToUndo", "ValueError"]
/-- which classes the class x is one of -/
def tbOf (x y : Str) : Bool := decide (y = x) || decide (y = "ValueError")
def exCB (exs : List (Str × Nat)) (K : PySem.W.Frag) : Bool := exs.all fun q => excCB K (He.ga K q.1) && (decide (PySem.W.exmOne K (.ref (He.ga K q.1)) (.ref (He.ga K "LateError")) = some true) &&
  errCls.all fun y => decide (PySem.W.kitOne K (.ref (He.ga K q.1)) (if y = "ValueError" then .type "ValueError" else .ref (He.ga K y)) = some (tbOf q.1 y)))
/-! ### the naming def -/
def namedN : List Str := ["e", "some", "words", "word", "good"]
def namedIR : List (Option Nat × HE) := [(some 1, .lst (hlit [.isE "InvalidTable", .isE "InvalidDelay", .isE "InvalidNumber"])), (some 1, .add (.var 1) (.lst (hlit [.isE "InvalidPlan", .isE "InvalidFacts", .isE "InvalidText"]))),
  (some 1, .add (.var 1) (.lst (hlit [.isE "Unlike", .isE "TooLate", .isE "NothingToUndo"]))), (some 2, .str "table delay number plan facts text unlike late undo value"), (some 1, .add (.var 1) (.lst (hlit [.isE "ValueError"]))),
  (none, .join (.str " ") (.compZ [("word", 3), ("good", 4)] (.split (.var 2) (.str " ")) (.var 1) 3 4))]
theorem isE_at (p : Addr) (b : Bool) (F : FEnv) (r : Env) (h : LH) : cIsE p b F (some (.ext p 0) :: r) h = .ok (.bl b) h := by
  simp [cIsE]
def wordsE : List Str := ["table", "delay", "number", "plan", "facts", "text", "unlike", "late", "undo", "value"]
theorem split_words : (Txt.split "table delay number plan facts text unlike late undo value" " ") = wordsE := by decide +kernel
def nmOf (x : Str) : Str := Txt.join " " (((wordsE.zip (errCls.map (tbOf x))).filter (·.2)).map (·.1))
def namedEnd : List (Option Nat × HE) := [(none, .join (.str " ") (.compZ [("word", 3), ("good", 4)] (.split (.var 2) (.str " ")) (.var 1) 3 4))]
def wordsT : Str := "table delay number plan facts text unlike late undo value"
theorem named_den5 (tb : Str → Bool) (p : Addr) (F : FEnv) (h : LH) : denHs tb p namedIR F (some (.ext p 0) :: List.replicate 4 none) h = denHs tb p namedEnd F [some (.ext p 0), some (.lst (errCls.map fun x => .bl (tb x))), some (.str wordsT), none, none] h := by
  simp [namedIR, namedEnd, denHs, denH, hlit, denHL, sSeq, sTgt, sBind, cLst, lCons, lNil, Res.bind, isE_at, cOp2, cVar, cC, lift, List.replicate, TP.put, sizeOk, opAdd, view, errCls, wordsT]
theorem named_den (x out : Str) (p : Addr) (F : FEnv) (h : LH) (he : denHs (tbOf x) p namedEnd F [some (.ext p 0), some (.lst (errCls.map fun y => .bl (tbOf x y))), some (.str wordsT), none, none] h = .ret (.str out) h) : denHs (tbOf x) p namedIR F (some (.ext p 0) :: List.replicate (namedN.length - 1) none) h = .ret (.str out) h := by
  rw [← he]
  exact named_den5 (tbOf x) p F h
theorem named_end2 (p : Addr) (F : FEnv) (h : LH) : denHs (tbOf "InvalidTable") p namedEnd F [some (.ext p 0), some (.lst (errCls.map fun y => .bl (tbOf "InvalidTable" y))), some (.str wordsT), none, none] h = .ret (.str "table value") h := by
  kernel_rfl
end G
end
section
set_option Elab.async false
set_option linter.all false
set_option maxRecDepth 100000
set_option maxHeartbeats 1000000
/-! GMod: the module's facts from the head's. -/
namespace G
open PySem PySem.Spec PyProof.Rows L2

theorem end_all (p : Addr) (F : FEnv) (h : LH) : ∀ q ∈ ([("LateError", "value"), ("InvalidTable", "table value"), ("InvalidDelay", "delay value"), ("InvalidNumber", "number value"), ("InvalidPlan", "plan value"), ("InvalidFacts", "facts value"), ("InvalidText", "text value"), ("Unlike", "unlike value"), ("TooLate", "late value"), ("NothingToUndo", "undo value")] : List (Str × Str)),
    denHs (tbOf q.1) p namedEnd F [some (.ext p 0), some (.lst (errCls.map fun y => .bl (tbOf q.1 y))), some (.str wordsT), none, none] h = .ret (.str q.2) h := by
  intro q hq
  simp only [List.mem_cons, List.not_mem_nil, or_false] at hq
  rcases hq with rfl | rfl | rfl | rfl | rfl | rfl | rfl | rfl | rfl | rfl <;> kernel_rfl
def exs10 : List (Str × Nat) := [("LateError", 1), ("InvalidTable", 2), ("InvalidDelay", 3), ("InvalidNumber", 4), ("InvalidPlan", 5), ("InvalidFacts", 6), ("InvalidText", 7), ("Unlike", 8), ("TooLate", 9), ("NothingToUndo", 10)]
theorem caOf_10 (K : PySem.W.Frag) : ∀ q ∈ exs10, caOf exs10 K q.2 = He.ga K q.1 := by
  intro q hq
  simp only [exs10, List.mem_cons, List.not_mem_nil, or_false] at hq
  rcases hq with rfl | rfl | rfl | rfl | rfl | rfl | rfl | rfl | rfl | rfl <;> rfl
theorem nmE_10 (k : Nat) (out : Str) (h : nmE k = some out) : strOk out ∧ ∃ x : Str, (x, k) ∈ exs10 ∧ ∀ (p : Addr) (F : FEnv) (h : LH), denHs (tbOf x) p namedIR F (some (.ext p 0) :: List.replicate (namedN.length - 1) none) h = .ret (.str out) h := by
  unfold nmE at h
  split at h <;> cases h
  · exact ⟨by unfold strOk; decide +kernel, "LateError", by simp [exs10], fun p F h => named_den _ _ p F h (end_all p F h ("LateError", "value") (by simp))⟩
  · exact ⟨by unfold strOk; decide +kernel, "InvalidTable", by simp [exs10], fun p F h => named_den _ _ p F h (end_all p F h ("InvalidTable", "table value") (by simp))⟩
  · exact ⟨by unfold strOk; decide +kernel, "InvalidDelay", by simp [exs10], fun p F h => named_den _ _ p F h (end_all p F h ("InvalidDelay", "delay value") (by simp))⟩
  · exact ⟨by unfold strOk; decide +kernel, "InvalidNumber", by simp [exs10], fun p F h => named_den _ _ p F h (end_all p F h ("InvalidNumber", "number value") (by simp))⟩
  · exact ⟨by unfold strOk; decide +kernel, "InvalidPlan", by simp [exs10], fun p F h => named_den _ _ p F h (end_all p F h ("InvalidPlan", "plan value") (by simp))⟩
  · exact ⟨by unfold strOk; decide +kernel, "InvalidFacts", by simp [exs10], fun p F h => named_den _ _ p F h (end_all p F h ("InvalidFacts", "facts value") (by simp))⟩
  · exact ⟨by unfold strOk; decide +kernel, "InvalidText", by simp [exs10], fun p F h => named_den _ _ p F h (end_all p F h ("InvalidText", "text value") (by simp))⟩
  · exact ⟨by unfold strOk; decide +kernel, "Unlike", by simp [exs10], fun p F h => named_den _ _ p F h (end_all p F h ("Unlike", "unlike value") (by simp))⟩
  · exact ⟨by unfold strOk; decide +kernel, "TooLate", by simp [exs10], fun p F h => named_den _ _ p F h (end_all p F h ("TooLate", "late value") (by simp))⟩
  · exact ⟨by unfold strOk; decide +kernel, "NothingToUndo", by simp [exs10], fun p F h => named_den _ _ p F h (end_all p F h ("NothingToUndo", "undo value") (by simp))⟩
/-- a law's parts: the checked defs, the two defs that tell errors -/
structure LawD where
  Ls : List FI
  named : FI
  err : FI
def ddF (f : FI) : He.DefD := ⟨(f.name, none), f.name, f.name, f.ps, f.body, f.scope, [], []⟩
def LawD.fnD (L : LawD) : List He.DefD := L.Ls.map ddF ++ [ddF L.named, ddF L.err]
def LawD.fa (L : LawD) : List He.Fa := L.Ls.map (fun f => .glo f.name) ++ ([.glo L.named.name, .glo L.err.name, .free "ValueError"] ++ (bltNames.map .free ++ (exs10.map (fun q => .glo q.1) ++ exs10.map (fun q => .exc q.1))))
def LawD.M (L : LawD) : ModI := ⟨L.Ls.map fun f => (f.name, f.num), exs10⟩
/-- what is computed of the two defs -/
structure LawD.Stat (L : LawD) : Prop where
  lm : ∀ f ∈ L.Ls, f.lm = true → f.name = "law"
  nN : L.named.N = namedN
  nname : L.named.name = "_law_named_error"
  nsc : FnScope namedN (namedN.take 1) L.named.scope
  nchk : chkHs errCls namedIR ⟨namedN, L.named.scope, fun _ => true, false⟩ L.named.body = true
  ngl : ∀ y ∈ errCls, (⟨namedN, L.named.scope, fun _ => true, false⟩ : Gam).gl y = true ∧ noDbg y = true
  nbnd : ∀ (kV doc pm : Value) (an : Option Addr) (cdv ct : Value) (us : List Value), us.length = (namedN.take 1).length → bindArgs (PySem.W.fnOf L.named.name L.named.name L.named.ps L.named.body L.named.scope .none kV doc pm an cdv ct) ⟨us, []⟩ = pure ((namedN.take 1).zip us)
  ename : L.err.name = errName
  esc : FnScope ["call", "e"] ["call"] L.err.scope
  eva : Vis L.err.scope "call"
  ele : L.err.scope.names.lookup ("e" : Str) = some .local
  egl : L.err.scope.names.lookup ("LateError" : Str) = some .globalImplicit
  egn : L.err.scope.names.lookup ("_law_named_error" : Str) = some .globalImplicit
  ebnd : ∀ (kV doc pm : Value) (an : Option Addr) (cdv ct : Value) (us : List Value), us.length = 1 → bindArgs (PySem.W.fnOf errName errName L.err.ps L.err.body L.err.scope .none kV doc pm an cdv ct) ⟨us, []⟩ = pure ((["call"] : List Str).zip us)
  ebody : ∃ (p1 p2 p3 p4 p5 p6 p7 p8 p9 p10 p11 p12 : Pos) (j : Nat), L.err.body = [.Try [.Expr (.Call (.Name "call" p1) [] [] p2) p3] [.ExceptHandler (some (.Name "LateError" p4)) (some "e") [.Return (some (.Call (.Name "_law_named_error" p5) [.Name "e" p6] [] p7)) p8] p9] [] [] p10, .Return (some (.Constant (.str "") j p11)) p12]
def fdK (K : PySem.W.Frag) (d0 : FuncData) (x : Str) : FuncData := match K.lookup (He.ga K x) with
  | some ⟨_, _, .func fd, _⟩ => fd
  | _ => d0
theorem fdK_eq {K : PySem.W.Frag} {d0 fd : FuncData} {x q : Str} {ps : Arguments} {body : List Stmt} {scope : Scope} {dvs : List V} {kws : List (Str × V)} (F : FunD K x q ps body scope dvs kws (He.ga K x) fd) : fdK K d0 x = fd := by
  obtain ⟨oc, od, dV, kV, doc, pm, an, cdv, ct, osl, e, lk, _⟩ := F.ex
  unfold fdK
  rw [lk]
instance lawTabl : Tabl := lamTabs ["law"]
section
variable {L : LawD} {w : World} {h base : Heap} {K : PySem.W.Frag} {mg : Str → Option Value} {tf : List He.Defn}
theorem modK_of (St : L.Stat) (c : He.SaysX L.fa L.fnD [] tf (exCB exs10) w h K) (KX : K.In h) (Gn : h.Ns mainGlobals mg) (d0 : FuncData)
    (tb : ∀ f ∈ L.Ls, f.lm = true → LamX.TabB base mg (He.cT K ("law", none)).1 (He.cT K ("law", none)).2) : ModK L.M (caOf exs10 K) L.Ls K mg (He.ga K) (fdK K d0) base := by
  have sd : He.SaysD L.fa L.fnD K := congrArg Prod.fst c.t
  have fact : ∀ f, f ∈ L.fa → f.ok K = true := fun f hf => sd.facts hf
  have def_ : ∀ f : FI, ddF f ∈ L.fnD → FunD K f.name f.name f.ps f.body f.scope [] [] (He.ga K f.name) (fdK K d0 f.name) := fun f hf => by
    obtain ⟨fd, F⟩ := sd.defs hf
    have F' : FunD K f.name f.name f.ps f.body f.scope [] [] (He.ga K f.name) fd := F
    rw [fdK_eq (d0 := d0) F']
    exact F'
  have inL : ∀ f ∈ L.Ls, ddF f ∈ L.fnD := fun f hf => List.mem_append_left _ (List.mem_map.mpr ⟨f, hf, rfl⟩)
  have nD := def_ L.named (List.mem_append_right _ (by simp))
  have eD := def_ L.err (List.mem_append_right _ (by simp))
  have glo : ∀ x, He.Fa.glo x ∈ L.fa → mg x = some (.ref (He.ga K x)) := fun x hx => He.glo_ok KX Gn (fact _ hx)
  have fre : ∀ x, He.Fa.free x ∈ L.fa → mg x = none := fun x hx => He.free_ok KX Gn (fact _ hx)
  have bi : ∀ x ∈ bltNames, mg x = none := fun x hx => fre x (List.mem_append_right _ (List.mem_append_right _ (List.mem_append_left _ (List.mem_map.mpr ⟨x, hx, rfl⟩))))
  have gE : ∀ q ∈ exs10, mg q.1 = some (.ref (He.ga K q.1)) := fun q hq => glo q.1 (List.mem_append_right _ (List.mem_append_right _ (List.mem_append_right _ (List.mem_append_left _ (List.mem_map.mpr ⟨q, hq, rfl⟩)))))
  have mE : ∀ q ∈ exs10, excCB K (He.ga K q.1) = true ∧ PySem.W.exmOne K (.ref (He.ga K q.1)) (.ref (He.ga K "LateError")) = some true ∧ ∀ y ∈ errCls, PySem.W.kitOne K (.ref (He.ga K q.1)) (if y = "ValueError" then .type "ValueError" else .ref (He.ga K y)) = some (tbOf q.1 y) := fun q hq => by
    have := List.all_eq_true.mp c.more q hq
    simp only [Bool.and_eq_true, decide_eq_true_eq, List.all_eq_true] at this
    exact this
  have EM : ErrMod (caOf exs10 K) K mg L.named.name (He.ga K L.named.name) (fdK K d0 L.named.name) namedN L.named.ps L.named.body L.named.scope namedIR errCls (He.ga K "LateError") :=
    { nf :=
        { fn := nD
          sc := St.nsc
          len := rfl
          chk := St.nchk
          gl := St.ngl
          gm := glo _ (List.mem_append_right _ (by simp))
          bi := bi
          bnd := fun us hl s _ => FunD.bindsA (ps := namedN.take 1) nD St.nbnd s us (by rw [hl]; rfl) }
      kn := fun k out hk => by
        obtain ⟨so, x, hx, dn⟩ := nmE_10 k out hk
        obtain ⟨m1, m2, m3⟩ := mE _ hx
        have eca : caOf exs10 K k = He.ga K x := caOf_10 K _ hx
        refine ⟨so, tbOf x, ⟨by rw [eca]; exact excCB_ok m1, fun y hy => ?_⟩, by rw [eca]; exact m2, dn⟩
        have z := m3 y hy
        rw [eca]
        by_cases hv : y = "ValueError"
        · subst hv
          rw [if_pos rfl] at z
          exact .inr ⟨"ValueError", fre _ (List.mem_append_right _ (by simp)), boot_ValueError, by decide, z⟩
        · rw [if_neg hv] at z
          refine .inl ⟨He.ga K y, ?_, z⟩
          have : ∃ q ∈ exs10, q.1 = y := by
            simp only [errCls, List.mem_cons, List.not_mem_nil, or_false] at hy
            rcases hy with rfl | rfl | rfl | rfl | rfl | rfl | rfl | rfl | rfl | rfl
            · exact ⟨("InvalidTable", 2), by simp [exs10], rfl⟩
            · exact ⟨("InvalidDelay", 3), by simp [exs10], rfl⟩
            · exact ⟨("InvalidNumber", 4), by simp [exs10], rfl⟩
            · exact ⟨("InvalidPlan", 5), by simp [exs10], rfl⟩
            · exact ⟨("InvalidFacts", 6), by simp [exs10], rfl⟩
            · exact ⟨("InvalidText", 7), by simp [exs10], rfl⟩
            · exact ⟨("Unlike", 8), by simp [exs10], rfl⟩
            · exact ⟨("TooLate", 9), by simp [exs10], rfl⟩
            · exact ⟨("NothingToUndo", 10), by simp [exs10], rfl⟩
            · exact absurd rfl hv
          obtain ⟨q, hq, rfl⟩ := this
          exact gE q hq }
  have EF : ErrFn K mg (He.ga K errName) (fdK K d0 errName) L.err.ps L.err.body L.err.scope "call" "e" L.named.name "LateError" (He.ga K "LateError") :=
    { fn := by have := eD; rw [St.ename] at this; exact this
      gl := by have := glo L.err.name (List.mem_append_right _ (by simp)); rw [St.ename] at this; exact this
      sc := St.esc
      hae := by decide
      hva := St.eva
      had := ⟨by decide, by decide⟩
      hle := St.ele
      hed := ⟨by decide, by decide⟩
      hgl := St.egl
      hml := gE ("LateError", 1) (by simp [exs10])
      hdl := by decide
      hgn := by rw [St.nname]; exact St.egn
      hdn := by rw [St.nname]; decide
      bnd := St.ebnd
      body := by rw [St.nname]; exact St.ebody }
  exact
    { fn := fun f hf => def_ f (inL f hf)
      num := fun x n hx => by
        have := PySem.mem_of_lookup hx
        obtain ⟨f, hf, e⟩ := List.mem_map.mp this
        cases e
        exact ⟨f, hf, rfl, rfl⟩
      gl := fun f hf => glo f.name (List.mem_append_left _ (List.mem_map.mpr ⟨f, hf, rfl⟩))
      bi := bi
      ex := fun x k hx => by
        have hm := PySem.mem_of_lookup hx
        have eca : caOf exs10 K k = He.ga K x := caOf_10 K _ hm
        rw [eca]
        obtain ⟨e1, e2, e3, e4⟩ := He.exc_ok (fact (.exc x) (List.mem_append_right _ (List.mem_append_right _ (List.mem_append_right _ (List.mem_append_right _ (List.mem_map.mpr ⟨(x, k), hm, rfl⟩))))))
        exact ⟨gE _ hm, e2, e3, e4, _, _, _, _, F.excBase_ValueError, e1⟩
      lam := fun f hf hl => by
        refine ⟨⟨_, _, _, _, _, _, _, _, _, _, _, _, _, _, _, _, _, _, EM, EF⟩, (He.cT K ("law", none)).1, (He.cT K ("law", none)).2, ?_, tb f hf hl, fun Ld cd => ?_⟩
        · have en := St.lm f hf hl
          have F := def_ f (inL f hf)
          obtain ⟨oc, od, dV, kV, doc, pm, an, cdv, ct, osl, e, lk, hcd, _⟩ := F.ex
          obtain ⟨c0, e0⟩ := He.codeIn_ref hcd
          subst e0
          have ec : (fdK K d0 f.name).code = .ref c0 := by rw [e]
          rw [ec]
          rw [en] at lk
          have := He.codeOf_eq (K := K) (p := ("law", none)) lk (by rw [en] at ec; exact ec)
          show Value.ref c0 = .ref (He.codeOf K ("law", none))
          rw [this]
        · have en := St.lm f hf hl
          have eq : (envOfC f.name f.scope Ld (He.ga K f.name) cd).qual ++ ("<lambda>" : Str) = (("law" : Str) ++ (".<locals>." : Str)) ++ ("<lambda>" : Str) := by
            show (f.name ++ (".<locals>." : Str)) ++ ("<lambda>" : Str) = _
            rw [en]
          rw [eq]
          exact ⟨List.mem_singleton.mpr rfl, fun p hp _ => by rw [List.mem_singleton.mp hp]⟩ }
end
end G
end
section
set_option Elab.async false
set_option linter.all false
set_option maxRecDepth 100000
set_option maxHeartbeats 1000000
/-! GWalk: a law holds where its def's evaluation says so. -/
namespace G
open PySem PySem.Spec PyProof.Rows L2

theorem rel0 {K : PySem.W.Frag} {H : Hp} (t : LamX.Tabs (Tabl.tabs K) H) : Rel K ⟨[], [], H, []⟩ where
  tabs := t
  len := rfl
  nd := .nil
  trk := fun a ha => by cases ha
  rsv := fun a ha => by cases ha
  obj := fun n a o h => by simp at h
theorem notLive0 {H : Hp} {a : Addr} : ¬ Live ⟨[], [], H, []⟩ a := fun z => by
  rcases z with ⟨n, o, h, _⟩ | z
  · simp at h
  · cases z
theorem rep_ints {K : PySem.W.Frag} {S : GS} : ∀ ns : List Int, RepL K S (ns.map .int) (ns.map V.int)
  | [] => repL_nil
  | n :: ns => repL_cons (by rw [RepV]) (rep_ints ns)
theorem walk_law {l : PySem.W.OpenLaw} {q : Program} {loose : List Str} {XP : (Str → Option Value) → Heap → Prop} {dr : DefRec} {L : LawD} {T : Nat → Option FD} {f0 : FI} {d nG : Nat} {x : Str}
    (hn : l.most = some 63) (hdf : dr.params.defaults = []) (hname : dr.name = "law") (St : L.Stat) (ok : ∀ f ∈ L.Ls, f.Ok L.M T) (hf0 : f0 ∈ L.Ls) (h0 : f0.name = "law") (hx : f0.N.take f0.np = [x]) (hr : Room (3 * d) callerA)
    (hev : ∀ ns : List Int, ns.length ≤ 63 → (∀ z ∈ ns, Builtin.Int.intBits z ≤ 1048576) → ∃ h', fenv T d f0.num [.scr (ns.map .int)] [] = .ok (.bl true) h') :
    PySem.W.WalkO q loose XP (He.hookX nG L.fa L.fnD [] [("law", none)] (exCB exs10)).says l.row.toRowW dr [] (fun f vs => PySem.call f vs) := by
  refine LamX.walk_ofTsE (n := 63) (k := 3 * d) (x := x) (CX := fun w => L2N.CX l.prog w) hn (by decide) hdf hr (fun w mg fa h Y Gn hmg => ?_) (fun w H s e s' z => ?_)
  · obtain ⟨K, KX, c⟩ := Y
    rw [hname] at hmg
    refine ⟨K, KX, ?_⟩
    have sd : He.SaysD L.fa L.fnD K := congrArg Prod.fst c.t
    obtain ⟨fd0, F0⟩ := sd.defs (d := ddF f0) (List.mem_append_left _ (List.mem_map.mpr ⟨f0, hf0, rfl⟩))
    have F0 : FunD K f0.name f0.name f0.ps f0.body f0.scope [] [] (He.ga K f0.name) fd0 := F0
    have efd : fdK K fd0 f0.name = fd0 := fdK_eq F0
    have hlaw : mg "law" = some (.ref (He.ga K "law")) := by
      rw [← h0]
      exact He.glo_ok KX Gn (sd.facts (List.mem_append_left _ (List.mem_map.mpr ⟨f0, hf0, rfl⟩)))
    have efa : fa = He.ga K "law" := by
      have := hmg.symm.trans hlaw
      cases this
      rfl
    subst efa
    have o := ok f0 hf0
    refine ⟨fd0, [He.cT K ("law", none)], spF K (caOf exs10 K) (fenv T d) f0.num, fun p hp => ?_, fun p hp => ?_, fun p hp => ?_, fun s u => ?_, fun H a ns hl hb hT hS => ?_, fun base KB GB TB => ?_⟩
    · rw [List.mem_singleton.mp hp]; exact c.empty _ (List.mem_singleton.mpr rfl)
    · rw [List.mem_singleton.mp hp]; exact c.out _ (List.mem_singleton.mpr rfl)
    · rw [List.mem_singleton.mp hp]; exact PySem.W.codeHd_of_K KX (c.hd _ (List.mem_singleton.mpr rfl))
    · have := FunD.bindsA (ps := f0.N.take f0.np) F0 o.bnd s [u] (by rw [hx]; rfl)
      rw [hx] at this
      exact this
    · obtain ⟨h', ev⟩ := hev ns hl hb
      have t0 : LamX.Tabs (Tabl.tabs K) H := fun p hp => by
        rw [List.mem_singleton.mp hp]
        exact LamX.TabS.nil (hT _ (List.mem_singleton.mpr rfl))
      have R := rel0 (K := K) (H := H) t0
      refine ⟨⟨[], [], H, []⟩, [.scr (ns.map .int)], rfl, R, repL_cons ?_ repL_nil, ?_⟩
      · rw [RepV]
        refine ⟨a, ns.map V.int, rfl, ?_, rep_ints ns⟩
        rcases hS with hS | hS
        · exact .inl ⟨notLive0, hS⟩
        · exact .inr hS
      · show PostF K _ _ _ _ (fenv T d f0.num [.scr (ns.map .int)] [])
        rw [ev]
        intro S' z _ _ _ r
        exact rep_bl r
    · have MK := modK_of (base := base) St c KX Gn fd0 fun f hf hl => TB _ (List.mem_singleton.mpr rfl)
      have := fn_all (P := l.prog) (w := w) MK ok d f0 hf0
      rw [efd, hx, h0] at this
      exact this
  · obtain ⟨_, _, _, _, _, _, _, _, _, _, _, _, z⟩ := z
    exact z
end G
end
section
set_option Elab.async false
set_option linter.all false
set_option maxRecDepth 100000
set_option maxHeartbeats 0
namespace K07
open PySem PySem.Spec PyProof.Rows L2 G
def top (i : Nat) : Stmt := PySem.Challenge.pw_latelines_k07_whole_all_plans_between_tw.main.body.getD i (.Pass ⟨0, 0, 0, 0⟩)
def ir_is_plain : ISs := .cons (.ret (.and (lit [.isi .int (.var 0), .not (.isi .bool (.var 0))]))) (.nil)
def ir_is_whole : ISs := .cons (.ret (.and (lit [.call 185 (lit [.var 0]), .chain .le .le (.var 1) (.var 0) (.var 2)]))) (.nil)
def ir_is_row : ISs := .cons (.ret (.and (lit [.isi .tuple (.var 0), .chain .le .le (.var 1) (.fn .len (lit [.var 0])) (.var 2)]))) (.nil)
def ir_is_call : ISs := .cons (.ife (.or (.cons (.not (.val (.call 188 (lit [.var 0, .int 4, .int 4])))) (.cons (.not (.val (.call 196 (lit [.ix (.var 0) (.int 0), .int 0, .int 5])))) (.one (.not (.val (.call 196 (lit [.ix (.var 0) (.int 3), .int 0, .int 240])))))))) (.cons (.ret (.bl false)) (.nil)) (.nil)) (.cons (.ret (.and (lit [.call 196 (lit [.ix (.var 0) (.int 1), .int 0, .int 240]), .call 196 (lit [.ix (.var 0) (.int 2), .ix (.var 0) (.int 1), .int 240])]))) (.nil))
def ir_is_run : ISs := .cons (.ife (.or (.cons (.not (.val (.call 188 (lit [.var 0, .int 2, .int 4])))) (.one (.not (.val (.fn .all (lit [.comp [("call", 1)] (.of (.var 0)) (.name 1) (.yes) (.call 179 (lit [.var 1]))]))))))) (.cons (.ret (.bl false)) (.nil)) (.nil)) (.cons (.ife (.or (.cons (.cmp .ne (.ix (.ix (.var 0) (.int 0)) (.int 1)) (.ix (.ix (.var 0) (.int 0)) (.int 2))) (.cons (.cmp .ne (.ix (.ix (.var 0) (.neg 1)) (.int 1)) (.ix (.ix (.var 0) (.neg 1)) (.int 2))) (.one (.cmp .ne (.ix (.ix (.var 0) (.int 0)) (.int 3)) (.int 0)))))) (.cons (.ret (.bl false)) (.nil)) (.nil)) (.cons (.for_ (.zip (.var 0) (.sl10 (.var 0) (.int 1))) (.tup [.name 2, .name 3]) (.cons (.ife (.or (.cons (.cmp .le (.ix (.var 3) (.int 1)) (.ix (.var 2) (.int 2))) (.cons (.cmp .eq (.ix (.var 3) (.int 0)) (.ix (.var 2) (.int 0))) (.one (.cmp .ge (.ix (.var 3) (.int 3)) (.op .sub (.ix (.var 3) (.int 1)) (.ix (.var 2) (.int 2)))))))) (.cons (.ret (.bl false)) (.nil)) (.nil)) (.nil))) (.cons (.ret (.bl true)) (.nil))))
def ir_is_wait : ISs := .cons (.ife (.or (.cons (.not (.val (.call 188 (lit [.var 1, .int 5, .int 5])))) (.cons (.not (.val (.call 196 (lit [.ix (.var 1) (.int 0), .int 0, .op .sub (.fn .len (lit [.var 0])) (.int 1)])))) (.one (.not (.val (.call 196 (lit [.ix (.var 1) (.int 2), .int 0, .op .sub (.fn .len (lit [.var 0])) (.int 1)])))))))) (.cons (.ret (.bl false)) (.nil)) (.nil)) (.cons (.ife (.or (.cons (.cmp .eq (.ix (.var 1) (.int 0)) (.ix (.var 1) (.int 2))) (.one (.not (.val (.call 196 (lit [.ix (.var 1) (.int 1), .int 0, .op .sub (.fn .len (lit [.ix (.var 0) (.ix (.var 1) (.int 0))])) (.int 2)]))))))) (.cons (.ret (.bl false)) (.nil)) (.nil)) (.cons (.ife (.or (.cons (.not (.val (.call 196 (lit [.ix (.var 1) (.int 3), .int 1, .op .sub (.fn .len (lit [.ix (.var 0) (.ix (.var 1) (.int 2))])) (.int 1)])))) (.one (.not (.val (.call 196 (lit [.ix (.var 1) (.int 4), .int 0, .int 60]))))))) (.cons (.ret (.bl false)) (.nil)) (.nil)) (.cons (.par2 2 3 (.ix (.ix (.var 0) (.ix (.var 1) (.int 0))) (.ix (.var 1) (.int 1))) (.ix (.ix (.var 0) (.ix (.var 1) (.int 2))) (.ix (.var 1) (.int 3)))) (.cons (.ret (.and (lit [.cmp .eq (.ix (.var 2) (.int 0)) (.ix (.var 3) (.int 0)), .cmp .le (.ix (.var 3) (.int 1)) (.ix (.var 2) (.int 2))]))) (.nil)))))
def ir_is_turn : ISs := .cons (.ife (.or (.cons (.not (.val (.call 188 (lit [.var 2, .int 3, .int 3])))) (.one (.not (.val (.fn .all (lit [.comp [("part", 3)] (.of (.sl01 (.var 2) (.int 2))) (.name 3) (.yes) (.call 196 (lit [.var 3, .int 0, .op .sub (.fn .len (lit [.var 0])) (.int 1)]))]))))))) (.cons (.ret (.bl false)) (.nil)) (.nil)) (.cons (.ife (.or (.cons (.not (.val (.isi .bool (.ix (.var 2) (.int 2))))) (.one (.cmp .ne (.ix (.ix (.ix (.var 0) (.ix (.var 2) (.int 0))) (.neg 1)) (.int 0)) (.ix (.ix (.ix (.var 0) (.ix (.var 2) (.int 1))) (.int 0)) (.int 0)))))) (.cons (.ret (.bl false)) (.nil)) (.nil)) (.cons (.ife (.and (.cons (.cmp .eq (.ix (.var 2) (.int 0)) (.ix (.var 2) (.int 1))) (.one (.not (.tru (.ix (.var 2) (.int 2))))))) (.cons (.ret (.bl false)) (.nil)) (.nil)) (.cons (.ret (.cmp .le (.ix (.ix (.ix (.var 0) (.ix (.var 2) (.int 0))) (.neg 1)) (.int 1)) (.op .add (.ix (.ix (.ix (.var 0) (.ix (.var 2) (.int 1))) (.int 0)) (.int 2)) (.ife (.tru (.ix (.var 2) (.int 2))) (.var 1) (.int 0))))) (.nil))))
def ir_is_ascending : ISs := .cons (.ret (.fn .all (lit [.comp [("one", 1), ("other", 2)] (.zip (.var 0) (.sl10 (.var 0) (.int 1))) (.tup [.name 1, .name 2]) (.yes) (.cmp .lt (.var 1) (.var 2))]))) (.nil)
def ir_are_turns : ISs := .cons (.ife (.or (.cons (.not (.val (.call 188 (lit [.var 2, .int 0, .int 4])))) (.cons (.not (.val (.fn .all (lit [.comp [("turn", 3)] (.of (.var 2)) (.name 3) (.yes) (.call 194 (lit [.var 0, .var 1, .var 3]))])))) (.one (.not (.val (.call 178 (lit [.var 2])))))))) (.cons (.ret (.bl false)) (.nil)) (.nil)) (.cons (.par2 4 5 (.comp [("turn", 3)] (.of (.var 2)) (.name 3) (.yes) (.ix (.var 3) (.int 0))) (.comp [("turn", 3)] (.of (.var 2)) (.name 3) (.yes) (.ix (.var 3) (.int 1)))) (.cons (.ret (.and (lit [.cmp .eq (.setLen (.var 4)) (.fn .len (lit [.var 2])), .cmp .eq (.setLen (.var 5)) (.fn .len (lit [.var 2]))]))) (.nil)))
def ir_is_source : ISs := .cons (.ife (.or (.cons (.not (.val (.call 188 (lit [.var 1, .int 3, .int 3])))) (.one (.not (.val (.call 196 (lit [.ix (.var 1) (.int 0), .int 0, .op .sub (.fn .len (lit [.var 0])) (.int 1)]))))))) (.cons (.ret (.bl false)) (.nil)) (.nil)) (.cons (.ife (.or (.cons (.not (.val (.call 196 (lit [.ix (.var 1) (.int 1), .int 0, .op .sub (.fn .len (lit [.ix (.var 0) (.ix (.var 1) (.int 0))])) (.int 2)])))) (.one (.not (.val (.isi .str (.ix (.var 1) (.int 2)))))))) (.cons (.ret (.bl false)) (.nil)) (.nil)) (.cons (.ret (.cmp .isin (.ix (.var 1) (.int 2)) (.tup (lit [.str "once", .str "each"])))) (.nil)))
def ir_events_of : ISs := .cons (.set 1 (.lst (lit []))) (.cons (.for_ (.enum (.ix (.var 0) (.int 0))) (.tup [.name 2, .name 3]) (.cons (.for_ (.rng1 (.fn .len (lit [.var 3]))) (.name 4) (.cons (.set 1 (.op .add (.var 1) (.ife (.cmp .gt (.var 4) (.int 0)) (.lst (lit [.tup (lit [.str "arrive", .var 2, .var 4])])) (.lst (lit []))))) (.cons (.set 1 (.op .add (.var 1) (.ife (.cmp .lt (.var 4) (.op .sub (.fn .len (lit [.var 3])) (.int 1))) (.lst (lit [.tup (lit [.str "depart", .var 2, .var 4])])) (.lst (lit []))))) (.nil)))) (.nil))) (.cons (.ret (.var 1)) (.nil)))
def ir_needs_of : ISs := .cons (.tgt (.tup [.name 2, .name 3, .name 4]) (.var 1)) (.cons (.ife (.cmp .eq (.var 2) (.str "arrive")) (.cons (.ret (.lst (lit [.tup (lit [.str "depart", .var 3, .op .sub (.var 4) (.int 1)])]))) (.nil)) (.nil)) (.cons (.set 5 (.ife (.cmp .gt (.var 4) (.int 0)) (.lst (lit [.tup (lit [.str "arrive", .var 3, .var 4])])) (.lst (lit [])))) (.cons (.for_ (.of (.ix (.var 0) (.int 2))) (.tup [.name 6, .name 7, .name 8]) (.cons (.ife (.and (.cons (.cmp .eq (.var 7) (.var 3)) (.cons (.cmp .eq (.var 4) (.int 0)) (.one (.not (.tru (.var 8))))))) (.cons (.set 5 (.op .add (.var 5) (.lst (lit [.tup (lit [.str "arrive", .var 6, .op .sub (.fn .len (lit [.ix (.ix (.var 0) (.int 0)) (.var 6)])) (.int 1)])])))) (.nil)) (.nil)) (.nil))) (.cons (.ret (.op .add (.var 5) (.comp [("wait", 9)] (.of (.ix (.var 0) (.int 1))) (.name 9) (.cmp .eq (.sl01 (.var 9) (.int 2)) (.tup (lit [.var 3, .var 4]))) (.tup (lit [.str "arrive", .ix (.var 9) (.int 2), .ix (.var 9) (.int 3)]))))) (.nil)))))
def ir_order_of : ISs := .cons (.set 1 (.lst (lit []))) (.cons (.set 2 (.call 162 (lit [.var 0]))) (.cons (.while_ (.cmp .ne (.var 2) (.lst (lit []))) (.cons (.set 3 (.comp [("event", 4)] (.of (.var 2)) (.name 4) (.val (.fn .all (lit [.comp [("need", 5)] (.of (.call 234 (lit [.var 0, .var 4]))) (.name 5) (.yes) (.cmp .isin (.var 5) (.var 1))]))) (.var 4))) (.cons (.ife (.cmp .eq (.var 3) (.lst (lit []))) (.cons (.ret (.non)) (.nil)) (.nil)) (.cons (.set 1 (.op .add (.var 1) (.var 3))) (.cons (.setC 2 [("event", 4)] (.of (.var 2)) (.name 4) (.cmp .notin (.var 4) (.var 3)) (.var 4)) (.nil)))))) (.cons (.ret (.var 1)) (.nil))))
def ir_is_table : ISs := .cons (.ife (.or (.cons (.not (.val (.call 188 (lit [.var 0, .int 5, .int 5])))) (.cons (.not (.val (.call 188 (lit [.ix (.var 0) (.int 0), .int 1, .int 4])))) (.one (.not (.val (.fn .all (lit [.comp [("run", 1)] (.of (.ix (.var 0) (.int 0))) (.name 1) (.yes) (.call 189 (lit [.var 1]))])))))))) (.cons (.ret (.bl false)) (.nil)) (.nil)) (.cons (.tgt (.tup [.name 2, .name 3, .name 4, .name 5, .name 6]) (.var 0)) (.cons (.ife (.or (.cons (.not (.val (.call 196 (lit [.var 6, .int 60, .int 480])))) (.cons (.not (.val (.call 188 (lit [.var 3, .int 0, .int 4])))) (.one (.not (.val (.fn .all (lit [.comp [("wait", 7)] (.of (.var 3)) (.name 7) (.yes) (.call 195 (lit [.var 2, .var 7]))])))))))) (.cons (.ret (.bl false)) (.nil)) (.nil)) (.cons (.ife (.or (.cons (.not (.val (.call 178 (lit [.var 3])))) (.cons (.not (.val (.call 133 (lit [.var 2, .var 6, .var 4])))) (.one (.not (.val (.call 191 (lit [.var 2, .var 5])))))))) (.cons (.ret (.bl false)) (.nil)) (.nil)) (.cons (.ret (.cmp .isnot (.call 237 (lit [.var 0])) (.non))) (.nil)))))
def ir_is_ride : ISs := .cons (.ife (.or (.cons (.not (.val (.call 188 (lit [.var 2, .int 3, .int 3])))) (.one (.not (.val (.call 196 (lit [.ix (.var 2) (.int 0), .int 0, .op .sub (.fn .len (lit [.ix (.var 0) (.int 0)])) (.int 1)]))))))) (.cons (.ret (.bl false)) (.nil)) (.nil)) (.cons (.set 3 (.ix (.ix (.var 0) (.int 0)) (.ix (.var 2) (.int 0)))) (.cons (.ife (.or (.cons (.not (.val (.call 196 (lit [.ix (.var 2) (.int 1), .int 0, .op .sub (.fn .len (lit [.var 3])) (.int 2)])))) (.one (.not (.val (.call 196 (lit [.ix (.var 2) (.int 2), .op .add (.ix (.var 2) (.int 1)) (.int 1), .op .sub (.fn .len (lit [.var 3])) (.int 1)]))))))) (.cons (.ret (.bl false)) (.nil)) (.nil)) (.cons (.ret (.cmp .eq (.ix (.ix (.var 3) (.ix (.var 2) (.int 1))) (.int 0)) (.var 1))) (.nil))))
def ir_fits_plan : ISs := .cons (.ife (.or (.cons (.not (.val (.call 188 (lit [.var 1, .int 3, .int 3])))) (.cons (.not (.val (.call 196 (lit [.ix (.var 1) (.int 0), .int 0, .int 5])))) (.one (.not (.val (.call 196 (lit [.ix (.var 1) (.int 1), .int 0, .int 240])))))))) (.cons (.ret (.bl false)) (.nil)) (.nil)) (.cons (.ife (.not (.val (.call 188 (lit [.ix (.var 1) (.int 2), .int 1, .int 4])))) (.cons (.ret (.bl false)) (.nil)) (.nil)) (.cons (.set 2 (.ix (.var 1) (.int 0))) (.cons (.for_ (.of (.ix (.var 1) (.int 2))) (.name 3) (.cons (.ife (.not (.val (.call 187 (lit [.var 0, .var 2, .var 3])))) (.cons (.ret (.bl false)) (.nil)) (.nil)) (.cons (.set 2 (.ix (.ix (.ix (.ix (.var 0) (.int 0)) (.ix (.var 3) (.int 0))) (.ix (.var 3) (.int 2))) (.int 0))) (.nil)))) (.cons (.ret (.bl true)) (.nil)))))
def ir_need_table : ISs := .cons (.ife (.not (.val (.call 192 (lit [.var 0])))) (.cons (.raise_ 2) (.nil)) (.nil)) (.nil)
def ir_need_number : ISs := .cons (.ife (.not (.val (.call 196 (lit [.var 0, .var 1, .var 2])))) (.cons (.raise_ 4) (.nil)) (.nil)) (.nil)
def ir_is_plan : ISs := .cons (.expr (.call 233 (lit [.var 0]))) (.cons (.ret (.call 167 (lit [.var 0, .var 1]))) (.nil))
def ir_rides_from : ISs := .cons (.set 3 (.newL (lit []))) (.cons (.for_ (.enum (.ix (.var 0) (.int 0))) (.tup [.name 4, .name 5]) (.cons (.for_ (.rng1 (.op .sub (.fn .len (lit [.var 5])) (.int 1))) (.name 6) (.cons (.for_ (.rng2 (.op .add (.var 6) (.int 1)) (.fn .len (lit [.var 5]))) (.name 7) (.cons (.ife (.and (.cons (.cmp .eq (.ix (.ix (.var 5) (.var 6)) (.int 0)) (.var 1)) (.one (.cmp .notin (.ix (.ix (.var 5) (.var 7)) (.int 0)) (.var 2))))) (.cons (.app (.var 3) (.tup (lit [.var 4, .var 6, .var 7]))) (.nil)) (.nil)) (.nil))) (.nil))) (.nil))) (.cons (.retF (.var 3)) (.nil)))
def ir_plans_to : ISs := .cons (.par2 5 6 (.lst (lit [])) (.lst (lit [.tup (lit [.tup (lit []), .tup (lit [.var 1])])]))) (.cons (.for_ (.rng1 (.var 4)) (.name 7) (.cons (.set 8 (.lst (lit []))) (.cons (.for_ (.of (.var 6)) (.tup [.name 9, .name 10]) (.cons (.for_ (.of (.call 256 (lit [.var 0, .ix (.var 10) (.neg 1), .var 10]))) (.name 11) (.cons (.set 8 (.op .add (.var 8) (.lst (lit [.tup (lit [.op .add (.var 9) (.tup (lit [.var 11])), .op .add (.var 10) (.tup (lit [.ix (.ix (.ix (.ix (.var 0) (.int 0)) (.ix (.var 11) (.int 0))) (.ix (.var 11) (.int 2))) (.int 0)]))])])))) (.nil))) (.nil))) (.cons (.set 5 (.op .add (.var 5) (.comp [("rides", 9), ("met", 10)] (.of (.var 8)) (.tup [.name 9, .name 10]) (.cmp .eq (.ix (.var 10) (.neg 1)) (.var 3)) (.tup (lit [.var 1, .var 2, .var 9]))))) (.cons (.setC 6 [("rides", 9), ("met", 10)] (.of (.var 8)) (.tup [.name 9, .name 10]) (.cmp .ne (.ix (.var 10) (.neg 1)) (.var 3)) (.tup (lit [.var 9, .var 10]))) (.nil)))))) (.cons (.ret (.fn .sorted (lit [.var 5]))) (.nil)))
def ir_need_all : ISs := .cons (.expr (.call 233 (lit [.var 0]))) (.cons (.expr (.call 228 (lit [.var 1, .int 0, .int 5]))) (.cons (.expr (.call 228 (lit [.var 2, .int 0, .int 240]))) (.cons (.expr (.call 228 (lit [.var 3, .int 0, .int 5]))) (.cons (.ife (.cmp .eq (.var 3) (.var 1)) (.cons (.raise_ 4) (.nil)) (.nil)) (.cons (.expr (.call 228 (lit [.var 4, .int 1, .int 3]))) (.nil))))))
def ir_all_plans : ISs := .cons (.expr (.call 223 (lit [.var 0, .var 1, .var 2, .var 3, .var 4]))) (.cons (.ret (.call 247 (lit [.var 0, .var 1, .var 2, .var 3, .var 4]))) (.nil))
def ir__law_cell : ISs := .cons (.ife (.cmp .lt (.var 1) (.fn .len (lit [.var 0]))) (.cons (.ret (.ix (.var 0) (.var 1))) (.nil)) (.nil)) (.cons (.ife (.cmp .eq (.fn .len (lit [.var 0])) (.int 0)) (.cons (.ret (.op .add (.op .mul (.int 7919) (.var 1)) (.int 101))) (.nil)) (.nil)) (.cons (.ret (.op .add (.op .mod (.ix (.var 0) (.op .mod (.var 1) (.fn .len (lit [.var 0])))) (.int 1000003)) (.op .mul (.int 7919) (.var 1)))) (.nil)))
def ir__law_draws : ISs := .cons (.set 4 (.tup (lit [.int 2147483647, .int 2147483629, .int 2147483587, .int 2147483579, .int 2147483563, .int 2147483549, .int 2147483543, .int 2147483497]))) (.cons (.set 5 (.call 22 (lit [.var 0, .var 1]))) (.cons (.set 6 (.int 0)) (.cons (.ife (.cmp .ge (.var 5) (.op .pow (.int 10) (.int 18))) (.cons (.set 6 (.var 5)) (.nil)) (.nil)) (.cons (.set 7 (.newL (lit []))) (.cons (.for_ (.rng1 (.var 2)) (.name 8) (.cons (.set 9 (.op .mul (.op .mod (.var 5) (.ix (.var 4) (.op .mod (.var 8) (.int 8)))) (.op .add (.int 48271) (.op .mul (.op .mul (.int 2) (.var 8)) (.var 8))))) (.cons (.set 9 (.op .add (.op .add (.var 9) (.op .mul (.op .mul (.int 7919) (.op .add (.var 8) (.int 1))) (.op .add (.var 8) (.int 1)))) (.op .mul (.int 104729) (.var 1)))) (.cons (.set 9 (.op .mod (.var 9) (.ix (.var 4) (.op .mod (.op .add (.op .mul (.int 3) (.var 8)) (.var 1)) (.int 8))))) (.cons (.set 9 (.op .mod (.op .mul (.op .mul (.var 9) (.var 9)) (.var 9)) (.ix (.var 4) (.op .mod (.op .add (.var 8) (.int 5)) (.int 8))))) (.cons (.ife (.cmp .gt (.var 6) (.int 0)) (.cons (.set 9 (.var 6)) (.nil)) (.nil)) (.cons (.app (.var 7) (.op .mod (.var 9) (.var 3))) (.cons (.set 6 (.op .fdiv (.var 6) (.var 3))) (.nil))))))))) (.cons (.ret (.var 7)) (.nil)))))))
def ir__law_bag : ISs := .cons (.ret (.call 29 (lit [.var 0, .var 1, .int 150, .int 27720]))) (.nil)
def ir__law_take : ISs := .cons (.set 2 (.ife (.cmp .ne (.var 0) (.lst (lit []))) (.pop0 (.var 0)) (.int 0))) (.cons (.ret (.op .mod (.fn .int (lit [.var 2])) (.var 1))) (.nil))
def ir__law_choice : ISs := .cons (.ret (.ix (.var 1) (.call 102 (lit [.var 0, .fn .len (lit [.var 1])])))) (.nil)
def ir__law_run : ISs := .cons (.par3 1 2 3 (.call 102 (lit [.var 0, .int 4])) (.call 24 (lit [.var 0, .lst (lit [.int 0, .int 0, .int 5, .int 10, .int 20, .int 30, .int 45])])) (.tup (lit []))) (.cons (.set 3 (.tup (lit [.tup (lit [.var 1, .var 2, .var 2, .int 0])]))) (.cons (.for_ (.rng1 (.op .add (.int 1) (.call 102 (lit [.var 0, .int 3])))) (.name 4) (.cons (.set 1 (.op .mod (.op .add (.op .add (.var 1) (.int 1)) (.call 102 (lit [.var 0, .int 3]))) (.int 4))) (.cons (.set 5 (.call 24 (lit [.var 0, .lst (lit [.int 4, .int 7, .int 10, .int 15, .int 20])]))) (.cons (.set 6 (.op .add (.var 2) (.var 5))) (.cons (.set 2 (.op .add (.var 6) (.call 24 (lit [.var 0, .lst (lit [.int 0, .int 0, .int 2, .int 5])])))) (.cons (.set 3 (.op .add (.var 3) (.tup (lit [.tup (lit [.var 1, .var 6, .var 2, .call 102 (lit [.var 0, .fn .min (lit [.var 5, .int 7])])])])))) (.nil))))))) (.cons (.set 7 (.ix (.var 3) (.neg 1))) (.cons (.ret (.op .add (.sl01 (.var 3) (.neg 1)) (.tup (lit [.op .add (.op .add (.sl01 (.var 7) (.int 2)) (.sl11 (.var 7) (.int 1) (.int 2))) (.sl10 (.var 7) (.int 3))])))) (.nil)))))
def ir__law_events : ISs := .cons (.set 1 (.lst (lit []))) (.cons (.for_ (.rng1 (.fn .len (lit [.ix (.var 0) (.int 0)]))) (.name 2) (.cons (.for_ (.rng1 (.fn .len (lit [.ix (.ix (.var 0) (.int 0)) (.var 2)]))) (.name 3) (.cons (.set 1 (.op .add (.var 1) (.op .mul (.lst (lit [.tup (lit [.str "arrive", .var 2, .var 3])])) (.fn .int (lit [.cmp .gt (.var 3) (.int 0)]))))) (.cons (.set 1 (.op .add (.var 1) (.op .mul (.lst (lit [.tup (lit [.str "depart", .var 2, .var 3])])) (.fn .int (lit [.cmp .lt (.op .add (.var 3) (.int 1)) (.fn .len (lit [.ix (.ix (.var 0) (.int 0)) (.var 2)]))]))))) (.nil)))) (.nil))) (.cons (.ret (.var 1)) (.nil)))
def ir__law_before : ISs := .cons (.tgt (.tup [.name 2, .name 3, .name 4]) (.var 1)) (.cons (.ife (.cmp .eq (.var 2) (.str "arrive")) (.cons (.ret (.lst (lit [.tup (lit [.str "depart", .var 3, .op .sub (.var 4) (.int 1)])]))) (.nil)) (.nil)) (.cons (.set 5 (.thaw .mul (.lst (lit [.tup (lit [.str "arrive", .var 3, .var 4])])) (.fn .int (lit [.cmp .gt (.var 4) (.int 0)])))) (.cons (.for_ (.of (.ix (.var 0) (.int 2))) (.tup [.name 6, .name 7, .name 8]) (.cons (.ife (.and (.cons (.cmp .eq (.var 7) (.var 3)) (.cons (.cmp .eq (.var 4) (.int 0)) (.one (.not (.tru (.var 8))))))) (.cons (.app (.var 5) (.tup (lit [.str "arrive", .var 6, .op .sub (.fn .len (lit [.ix (.ix (.var 0) (.int 0)) (.var 6)])) (.int 1)]))) (.nil)) (.nil)) (.nil))) (.cons (.for_ (.of (.ix (.var 0) (.int 1))) (.name 9) (.cons (.ife (.cmp .eq (.sl01 (.var 9) (.int 2)) (.tup (lit [.var 3, .var 4]))) (.cons (.app (.var 5) (.tup (lit [.str "arrive", .ix (.var 9) (.int 2), .ix (.var 9) (.int 3)]))) (.nil)) (.nil)) (.nil))) (.cons (.retF (.var 5)) (.nil))))))
def ir__law_sound : ISs := .cons (.tgt (.tup [.name 1, .name 2]) (.tup (lit [.newL (lit []), .neg 1]))) (.cons (.while_ (.cmp .lt (.var 2) (.fn .len (lit [.var 1]))) (.cons (.set 2 (.fn .len (lit [.var 1]))) (.cons (.for_ (.of (.call 37 (lit [.var 0]))) (.name 3) (.cons (.setC 4 [("one", 5)] (.of (.call 15 (lit [.var 0, .var 3]))) (.name 5) (.cmp .notin (.var 5) (.var 1)) (.var 5)) (.cons (.ife (.and (.cons (.cmp .notin (.var 3) (.var 1)) (.one (.cmp .eq (.var 4) (.lst (lit [])))))) (.cons (.app (.var 1) (.var 3)) (.nil)) (.nil)) (.nil)))) (.nil)))) (.cons (.ret (.cmp .eq (.fn .len (lit [.var 1])) (.fn .len (lit [.call 37 (lit [.var 0])])))) (.nil)))
def ir__law_meets : ISs := .cons (.set 1 (.newL (lit []))) (.cons (.for_ (.rng1 (.fn .len (lit [.var 0]))) (.name 2) (.cons (.for_ (.rng1 (.fn .len (lit [.var 0]))) (.name 3) (.cons (.for_ (.rng1 (.op .sub (.fn .len (lit [.ix (.var 0) (.var 2)])) (.int 1))) (.name 4) (.cons (.for_ (.rng2 (.int 1) (.fn .len (lit [.ix (.var 0) (.var 3)]))) (.name 5) (.cons (.par2 6 7 (.ix (.ix (.var 0) (.var 2)) (.var 4)) (.ix (.ix (.var 0) (.var 3)) (.var 5))) (.cons (.ife (.and (.cons (.cmp .ne (.var 2) (.var 3)) (.cons (.cmp .eq (.ix (.var 6) (.int 0)) (.ix (.var 7) (.int 0))) (.one (.cmp .le (.ix (.var 7) (.int 1)) (.ix (.var 6) (.int 2))))))) (.cons (.app (.var 1) (.tup (lit [.var 2, .var 4, .var 3, .var 5]))) (.nil)) (.nil)) (.nil)))) (.nil))) (.nil))) (.nil))) (.cons (.retF (.var 1)) (.nil)))
def ir__law_table : ISs := .cons (.set 1 (.fn .tuple (lit [.comp [("turn", 2)] (.rng1 (.op .add (.int 1) (.call 102 (lit [.var 0, .int 4])))) (.name 2) (.yes) (.call 91 (lit [.var 0]))]))) (.cons (.set 3 (.call 102 (lit [.var 0, .fn .len (lit [.var 1])]))) (.cons (.set 4 (.call 102 (lit [.var 0, .op .sub (.fn .len (lit [.ix (.var 1) (.var 3)])) (.int 1)]))) (.cons (.set 3 (.tup (lit [.var 3, .var 4, .call 24 (lit [.var 0, .lst (lit [.str "once", .str "once", .str "each"])])]))) (.cons (.set 5 (.tup (lit [.var 1, .tup (lit []), .tup (lit []), .var 3, .op .add (.call 24 (lit [.var 0, .lst (lit [.int 60, .int 90, .int 160])])) (.op .mul (.int 20) (.call 102 (lit [.var 0, .int 3])))]))) (.cons (.set 6 (.call 68 (lit [.var 1]))) (.cons (.for_ (.rng1 (.ife (.cmp .ne (.var 6) (.lst (lit []))) (.call 24 (lit [.var 0, .lst (lit [.int 1, .int 2, .int 3, .int 4, .int 4])])) (.int 0))) (.name 2) (.cons (.set 7 (.op .add (.call 24 (lit [.var 0, .var 6])) (.tup (lit [.call 24 (lit [.var 0, .lst (lit [.int 0, .int 2, .int 5, .int 9, .int 20, .int 45, .int 60])])])))) (.cons (.set 8 (.op .add (.tup (lit [.var 1, .fn .tuple (lit [.setSort (.op .add (.ix (.var 5) (.int 1)) (.tup (lit [.var 7])))])])) (.sl10 (.var 5) (.int 2)))) (.cons (.set 5 (.ife (.val (.call 96 (lit [.var 8]))) (.var 8) (.var 5))) (.nil))))) (.cons (.ret (.call 119 (lit [.var 0, .var 5]))) (.nil))))))))
def ir__law_with_turns : ISs := .cons (.par2 2 3 (.ix (.var 1) (.int 0)) (.tup (lit []))) (.cons (.for_ (.rng1 (.int 5)) (.name 4) (.cons (.par2 5 6 (.call 102 (lit [.var 0, .fn .len (lit [.var 2])])) (.call 102 (lit [.var 0, .fn .len (lit [.var 2])]))) (.cons (.set 7 (.or (lit [.cmp .eq (.var 5) (.var 6), .cmp .eq (.call 102 (lit [.var 0, .int 2])) (.int 0)]))) (.cons (.set 8 (.op .add (.ix (.ix (.ix (.var 2) (.var 6)) (.int 0)) (.int 2)) (.op .mul (.ix (.var 1) (.int 4)) (.fn .int (lit [.var 7]))))) (.cons (.set 9 (.and (lit [.cmp .eq (.ix (.ix (.ix (.var 2) (.var 5)) (.neg 1)) (.int 0)) (.ix (.ix (.ix (.var 2) (.var 6)) (.int 0)) (.int 0)), .cmp .lt (.fn .len (lit [.var 3])) (.int 4)]))) (.cons (.ife (.and (.cons (.tru (.var 9)) (.one (.cmp .le (.ix (.ix (.ix (.var 2) (.var 5)) (.neg 1)) (.int 1)) (.var 8))))) (.cons (.ife (.and (.cons (.cmp .notin (.var 5) (.comp [("row", 10)] (.of (.var 3)) (.name 10) (.yes) (.ix (.var 10) (.int 0)))) (.one (.cmp .notin (.var 6) (.comp [("row", 10)] (.of (.var 3)) (.name 10) (.yes) (.ix (.var 10) (.int 1))))))) (.cons (.set 11 (.fn .tuple (lit [.fn .sorted (lit [.op .add (.var 3) (.tup (lit [.tup (lit [.var 5, .var 6, .var 7])]))])]))) (.cons (.set 3 (.ife (.val (.call 96 (lit [.op .add (.op .add (.sl01 (.var 1) (.int 2)) (.tup (lit [.var 11]))) (.sl10 (.var 1) (.int 3))]))) (.var 11) (.var 3))) (.nil))) (.nil)) (.nil)) (.nil)) (.nil))))))) (.cons (.ret (.op .add (.op .add (.sl01 (.var 1) (.int 2)) (.tup (lit [.var 3]))) (.sl10 (.var 1) (.int 3)))) (.nil)))
def ir__law_due : ISs := .cons (.par2 5 6 (.newL (lit [])) (.newL (lit [.tup (lit [.tup (lit []), .lst (lit [.var 1])])]))) (.cons (.while_ (.cmp .ne (.var 6) (.lst (lit []))) (.cons (.tgt (.tup [.name 7, .name 8]) (.pop (.var 6))) (.cons (.ife (.and (.cons (.cmp .eq (.ix (.var 8) (.neg 1)) (.var 3)) (.one (.cmp .ne (.var 7) (.tup (lit [])))))) (.cons (.app (.var 5) (.tup (lit [.var 1, .var 2, .var 7]))) (.nil)) (.cons (.ife (.cmp .lt (.fn .len (lit [.var 7])) (.var 4)) (.cons (.for_ (.rng1 (.fn .len (lit [.ix (.var 0) (.int 0)]))) (.name 9) (.cons (.set 10 (.ix (.ix (.var 0) (.int 0)) (.var 9))) (.cons (.for_ (.rng1 (.fn .len (lit [.var 10]))) (.name 11) (.cons (.for_ (.rng2 (.op .add (.var 11) (.int 1)) (.fn .len (lit [.var 10]))) (.name 12) (.cons (.ife (.and (.cons (.cmp .eq (.ix (.ix (.var 10) (.var 11)) (.int 0)) (.ix (.var 8) (.neg 1))) (.one (.cmp .notin (.ix (.ix (.var 10) (.var 12)) (.int 0)) (.var 8))))) (.cons (.app (.var 6) (.tup (lit [.op .add (.var 7) (.tup (lit [.tup (lit [.var 9, .var 11, .var 12])])), .op .add (.var 8) (.lst (lit [.ix (.ix (.var 10) (.var 12)) (.int 0)]))]))) (.nil)) (.nil)) (.nil))) (.nil))) (.nil)))) (.nil)) (.nil)) (.nil))) (.nil)))) (.cons (.ret (.fn .sorted (lit [.var 5]))) (.nil)))
def ir_law : ISs := .cons (.for_ (.rng1 (.int 7)) (.name 1) (.cons (.set 2 (.call 14 (lit [.var 0, .var 1]))) (.cons (.set 3 (.call 100 (lit [.var 2]))) (.cons (.for_ (.rng1 (.int 5)) (.name 4) (.cons (.tgt (.tup [.name 5, .name 6, .name 7]) (.tup (lit [.call 102 (lit [.var 2, .int 5]), .call 24 (lit [.var 2, .lst (lit [.int 0, .int 5, .int 30, .int 240])]), .op .add (.int 1) (.call 102 (lit [.var 2, .int 3]))]))) (.cons (.set 8 (.op .mod (.op .add (.op .add (.var 5) (.int 1)) (.call 102 (lit [.var 2, .int 5]))) (.int 6))) (.cons (.set 9 (.call 128 (lit [.var 3, .var 5, .var 6, .var 8, .var 7]))) (.cons (.ife (.or (.cons (.cmp .ne (.var 9) (.call 31 (lit [.var 3, .var 5, .var 6, .var 8, .var 7]))) (.one (.not (.val (.isi .list (.var 9))))))) (.cons (.ret (.bl false)) (.nil)) (.nil)) (.cons (.ife (.cmp .ne (.comp [("plan", 10)] (.of (.var 9)) (.name 10) (.cmp .isnot (.call 186 (lit [.var 3, .var 10])) (.bl true)) (.var 10)) (.lst (lit []))) (.cons (.ret (.bl false)) (.nil)) (.nil)) (.nil))))))) (.cons (.for_ (.of (.lst (lit [.neg 1, .int 6, .bl true, .non]))) (.name 11) (.cons (.set 12 (.newL (lit [.lam (.call 128 (lit [.var 3, .var 11, .non, .non, .non]))]))) (.cons (.app (.var 12) (.lam (.call 128 (lit [.var 3, .int 1, .int 0, .var 11, .non])))) (.cons (.ife (.cmp .ne (.var 12) (.op .mul (.lst (lit [.str "number value"])) (.int 2))) (.cons (.ret (.bl false)) (.nil)) (.nil)) (.nil))))) (.cons (.set 13 (.lst (lit [.tup (lit [.int 1, .neg 1, .int 2, .int 1]), .tup (lit [.int 1, .int 241, .int 2, .int 1]), .tup (lit [.int 1, .int 0, .int 1, .int 1]), .tup (lit [.int 1, .int 0, .int 2, .int 0]), .tup (lit [.int 1, .int 0, .int 2, .int 4]), .tup (lit [.int 1, .int 0, .int 2, .bl true])]))) (.cons (.for_ (.of (.var 13)) (.tup [.name 5, .name 6, .name 8, .name 7]) (.cons (.ife (.cmp .ne (.lam (.call 128 (lit [.var 3, .var 5, .var 6, .var 8, .var 7]))) (.str "number value")) (.cons (.ret (.bl false)) (.nil)) (.nil)) (.nil))) (.cons (.ife (.cmp .ne (.lam (.call 128 (lit [.int 5, .non, .non, .non, .non]))) (.str "table value")) (.cons (.ret (.bl false)) (.nil)) (.nil)) (.nil))))))))) (.cons (.set 14 (.tup (lit [.tup (lit [.tup (lit [.int 0, .int 0, .int 0, .int 0]), .tup (lit [.int 1, .int 20, .int 22, .int 4]), .tup (lit [.int 0, .int 42, .int 42, .int 6])]), .tup (lit [.tup (lit [.int 1, .int 25, .int 25, .int 0]), .tup (lit [.int 3, .int 45, .int 45, .int 5])])]))) (.cons (.set 3 (.tup (lit [.var 14, .tup (lit []), .tup (lit []), .tup (lit [.int 0, .int 0, .str "once"]), .int 60]))) (.cons (.ret (.and (lit [.cmp .eq (.call 128 (lit [.var 3, .int 0, .int 0, .int 3, .int 2])) (.lst (lit [.tup (lit [.int 0, .int 0, .tup (lit [.tup (lit [.int 0, .int 0, .int 1]), .tup (lit [.int 1, .int 0, .int 1])])])])), .cmp .eq (.call 128 (lit [.var 3, .int 0, .int 0, .int 3, .int 1])) (.lst (lit []))]))) (.nil))))
def N_is_plain : List Str := ["value"]
def f_is_plain : FI := ⟨"is_plain", 185, N_is_plain, 1, defArgs (top 12), defBody (top 12), defScope (top 12), ir_is_plain, false⟩
def N_is_whole : List Str := ["value", "low", "high"]
def f_is_whole : FI := ⟨"is_whole", 196, N_is_whole, 3, defArgs (top 13), defBody (top 13), defScope (top 13), ir_is_whole, false⟩
def N_is_row : List Str := ["value", "low", "high"]
def f_is_row : FI := ⟨"is_row", 188, N_is_row, 3, defArgs (top 14), defBody (top 14), defScope (top 14), ir_is_row, false⟩
def N_is_call : List Str := ["value"]
def f_is_call : FI := ⟨"is_call", 179, N_is_call, 1, defArgs (top 15), defBody (top 15), defScope (top 15), ir_is_call, false⟩
def N_is_run : List Str := ["value", "call", "one", "other"]
def f_is_run : FI := ⟨"is_run", 189, N_is_run, 1, defArgs (top 16), defBody (top 16), defScope (top 16), ir_is_run, false⟩
def N_is_wait : List Str := ["runs", "value", "here", "there"]
def f_is_wait : FI := ⟨"is_wait", 195, N_is_wait, 2, defArgs (top 17), defBody (top 17), defScope (top 17), ir_is_wait, false⟩
def N_is_turn : List Str := ["runs", "period", "value", "part"]
def f_is_turn : FI := ⟨"is_turn", 194, N_is_turn, 3, defArgs (top 18), defBody (top 18), defScope (top 18), ir_is_turn, false⟩
def N_is_ascending : List Str := ["rows", "one", "other"]
def f_is_ascending : FI := ⟨"is_ascending", 178, N_is_ascending, 1, defArgs (top 19), defBody (top 19), defScope (top 19), ir_is_ascending, false⟩
def N_are_turns : List Str := ["runs", "period", "value", "turn", "firsts", "others"]
def f_are_turns : FI := ⟨"are_turns", 133, N_are_turns, 3, defArgs (top 20), defBody (top 20), defScope (top 20), ir_are_turns, false⟩
def N_is_source : List Str := ["runs", "value"]
def f_is_source : FI := ⟨"is_source", 191, N_is_source, 2, defArgs (top 21), defBody (top 21), defScope (top 21), ir_is_source, false⟩
def N_events_of : List Str := ["table", "found", "run", "calls", "call"]
def f_events_of : FI := ⟨"events_of", 162, N_events_of, 1, defArgs (top 22), defBody (top 22), defScope (top 22), ir_events_of, false⟩
def N_needs_of : List Str := ["table", "event", "word", "run", "call", "found", "first", "after", "again", "wait"]
def f_needs_of : FI := ⟨"needs_of", 234, N_needs_of, 2, defArgs (top 23), defBody (top 23), defScope (top 23), ir_needs_of, false⟩
def N_order_of : List Str := ["table", "found", "rest", "good", "event", "need"]
def f_order_of : FI := ⟨"order_of", 237, N_order_of, 1, defArgs (top 24), defBody (top 24), defScope (top 24), ir_order_of, false⟩
def N_is_table : List Str := ["value", "run", "runs", "waits", "turns", "source", "period", "wait"]
def f_is_table : FI := ⟨"is_table", 192, N_is_table, 1, defArgs (top 25), defBody (top 25), defScope (top 25), ir_is_table, false⟩
def N_is_ride : List Str := ["table", "place", "value", "calls"]
def f_is_ride : FI := ⟨"is_ride", 187, N_is_ride, 3, defArgs (top 26), defBody (top 26), defScope (top 26), ir_is_ride, false⟩
def N_fits_plan : List Str := ["table", "value", "place", "ride"]
def f_fits_plan : FI := ⟨"fits_plan", 167, N_fits_plan, 2, defArgs (top 27), defBody (top 27), defScope (top 27), ir_fits_plan, false⟩
def N_need_table : List Str := ["table"]
def f_need_table : FI := ⟨"need_table", 233, N_need_table, 1, defArgs (top 28), defBody (top 28), defScope (top 28), ir_need_table, false⟩
def N_need_number : List Str := ["value", "low", "high"]
def f_need_number : FI := ⟨"need_number", 228, N_need_number, 3, defArgs (top 29), defBody (top 29), defScope (top 29), ir_need_number, false⟩
def N_is_plan : List Str := ["table", "value"]
def f_is_plan : FI := ⟨"is_plan", 186, N_is_plan, 2, defArgs (top 30), defBody (top 30), defScope (top 30), ir_is_plan, false⟩
def N_rides_from : List Str := ["table", "place", "met", "found", "run", "calls", "begin", "end"]
def f_rides_from : FI := ⟨"rides_from", 256, N_rides_from, 3, defArgs (top 32), defBody (top 32), defScope (top 32), ir_rides_from, false⟩
def N_plans_to : List Str := ["table", "place", "time", "goal", "most", "found", "line", "turn", "longer", "rides", "met", "ride"]
def f_plans_to : FI := ⟨"plans_to", 247, N_plans_to, 5, defArgs (top 33), defBody (top 33), defScope (top 33), ir_plans_to, false⟩
def N_need_all : List Str := ["table", "place", "time", "goal", "most"]
def f_need_all : FI := ⟨"need_all", 223, N_need_all, 5, defArgs (top 34), defBody (top 34), defScope (top 34), ir_need_all, false⟩
def N_all_plans : List Str := ["table", "place", "time", "goal", "most"]
def f_all_plans : FI := ⟨"all_plans", 128, N_all_plans, 5, defArgs (top 35), defBody (top 35), defScope (top 35), ir_all_plans, false⟩
def N__law_cell : List Str := ["script", "k"]
def f__law_cell : FI := ⟨"_law_cell", 22, N__law_cell, 2, defArgs (top 37), defBody (top 37), defScope (top 37), ir__law_cell, false⟩
def N__law_draws : List Str := ["script", "k", "many", "base", "primes", "cell", "rest", "row", "j", "mash"]
def f__law_draws : FI := ⟨"_law_draws", 29, N__law_draws, 4, defArgs (top 38), defBody (top 38), defScope (top 38), ir__law_draws, false⟩
def N__law_bag : List Str := ["script", "k"]
def f__law_bag : FI := ⟨"_law_bag", 14, N__law_bag, 2, defArgs (top 39), defBody (top 39), defScope (top 39), ir__law_bag, false⟩
def N__law_take : List Str := ["bag", "many", "draw"]
def f__law_take : FI := ⟨"_law_take", 102, N__law_take, 2, defArgs (top 40), defBody (top 40), defScope (top 40), ir__law_take, false⟩
def N__law_choice : List Str := ["bag", "some"]
def f__law_choice : FI := ⟨"_law_choice", 24, N__law_choice, 2, defArgs (top 41), defBody (top 41), defScope (top 41), ir__law_choice, false⟩
def N__law_run : List Str := ["bag", "place", "time", "calls", "turn", "ride", "arrive", "last"]
def f__law_run : FI := ⟨"_law_run", 91, N__law_run, 1, defArgs (top 42), defBody (top 42), defScope (top 42), ir__law_run, false⟩
def N__law_events : List Str := ["table", "found", "run", "call"]
def f__law_events : FI := ⟨"_law_events", 37, N__law_events, 1, defArgs (top 43), defBody (top 43), defScope (top 43), ir__law_events, false⟩
def N__law_before : List Str := ["table", "event", "word", "run", "call", "found", "one", "other", "again", "wait"]
def f__law_before : FI := ⟨"_law_before", 15, N__law_before, 2, defArgs (top 44), defBody (top 44), defScope (top 44), ir__law_before, false⟩
def N__law_sound : List Str := ["table", "good", "many", "event", "lacking", "one"]
def f__law_sound : FI := ⟨"_law_sound", 96, N__law_sound, 1, defArgs (top 45), defBody (top 45), defScope (top 45), ir__law_sound, false⟩
def N__law_meets : List Str := ["runs", "found", "run", "other", "call", "there", "one", "two"]
def f__law_meets : FI := ⟨"_law_meets", 68, N__law_meets, 1, defArgs (top 46), defBody (top 46), defScope (top 46), ir__law_meets, false⟩
def N__law_table : List Str := ["bag", "runs", "turn", "first", "call", "table", "meets", "wait", "other"]
def f__law_table : FI := ⟨"_law_table", 100, N__law_table, 1, defArgs (top 47), defBody (top 47), defScope (top 47), ir__law_table, false⟩
def N__law_with_turns : List Str := ["bag", "table", "runs", "handed", "turn", "one", "other", "again", "late", "fits", "row", "more"]
def f__law_with_turns : FI := ⟨"_law_with_turns", 119, N__law_with_turns, 2, defArgs (top 48), defBody (top 48), defScope (top 48), ir__law_with_turns, false⟩
def N__law_due : List Str := ["table", "place", "time", "goal", "most", "found", "line", "rides", "met", "run", "calls", "begin", "end"]
def f__law_due : FI := ⟨"_law_due", 31, N__law_due, 5, defArgs (top 51), defBody (top 51), defScope (top 51), ir__law_due, false⟩
def N_law : List Str := ["script", "k", "bag", "table", "turn", "place", "time", "most", "goal", "found", "plan", "odd", "words", "rows", "runs"]
def f_law : FI := ⟨"law", 5006, N_law, 1, defArgs (top 52), defBody (top 52), defScope (top 52), ir_law, true⟩
def fns0 : List (Str × Nat) := [(("is_plain" : Str), 185), (("is_whole" : Str), 196), (("is_row" : Str), 188), (("is_call" : Str), 179), (("is_run" : Str), 189), (("is_wait" : Str), 195), (("is_turn" : Str), 194), (("is_ascending" : Str), 178), (("are_turns" : Str), 133), (("is_source" : Str), 191), (("events_of" : Str), 162), (("needs_of" : Str), 234)]
def fns1 : List (Str × Nat) := [(("order_of" : Str), 237), (("is_table" : Str), 192), (("is_ride" : Str), 187), (("fits_plan" : Str), 167), (("need_table" : Str), 233), (("need_number" : Str), 228), (("is_plan" : Str), 186), (("rides_from" : Str), 256), (("plans_to" : Str), 247), (("need_all" : Str), 223), (("all_plans" : Str), 128), (("_law_cell" : Str), 22)]
def fns2 : List (Str × Nat) := [(("_law_draws" : Str), 29), (("_law_bag" : Str), 14), (("_law_take" : Str), 102), (("_law_choice" : Str), 24), (("_law_run" : Str), 91), (("_law_events" : Str), 37), (("_law_before" : Str), 15), (("_law_sound" : Str), 96), (("_law_meets" : Str), 68), (("_law_table" : Str), 100), (("_law_with_turns" : Str), 119), (("_law_due" : Str), 31)]
def fns3 : List (Str × Nat) := [(("law" : Str), 5006)]
def fns : List (Str × Nat) := fns0 ++ fns1 ++ fns2 ++ fns3
def exs : List (Str × Nat) := exs10
def Mi : ModI := ⟨fns, exs⟩
def T : Nat → Option FD := fun n => match n with
  | 185 => some ⟨1, 1, denSs ir_is_plain⟩
  | 196 => some ⟨3, 3, denSs ir_is_whole⟩
  | 188 => some ⟨3, 3, denSs ir_is_row⟩
  | 179 => some ⟨1, 1, denSs ir_is_call⟩
  | 189 => some ⟨1, 4, denSs ir_is_run⟩
  | 195 => some ⟨2, 4, denSs ir_is_wait⟩
  | 194 => some ⟨3, 4, denSs ir_is_turn⟩
  | 178 => some ⟨1, 3, denSs ir_is_ascending⟩
  | 133 => some ⟨3, 6, denSs ir_are_turns⟩
  | 191 => some ⟨2, 2, denSs ir_is_source⟩
  | 162 => some ⟨1, 5, denSs ir_events_of⟩
  | 234 => some ⟨2, 10, denSs ir_needs_of⟩
  | 237 => some ⟨1, 6, denSs ir_order_of⟩
  | 192 => some ⟨1, 8, denSs ir_is_table⟩
  | 187 => some ⟨3, 4, denSs ir_is_ride⟩
  | 167 => some ⟨2, 4, denSs ir_fits_plan⟩
  | 233 => some ⟨1, 1, denSs ir_need_table⟩
  | 228 => some ⟨3, 3, denSs ir_need_number⟩
  | 186 => some ⟨2, 2, denSs ir_is_plan⟩
  | 256 => some ⟨3, 8, denSs ir_rides_from⟩
  | 247 => some ⟨5, 12, denSs ir_plans_to⟩
  | 223 => some ⟨5, 5, denSs ir_need_all⟩
  | 128 => some ⟨5, 5, denSs ir_all_plans⟩
  | 22 => some ⟨2, 2, denSs ir__law_cell⟩
  | 29 => some ⟨4, 10, denSs ir__law_draws⟩
  | 14 => some ⟨2, 2, denSs ir__law_bag⟩
  | 102 => some ⟨2, 3, denSs ir__law_take⟩
  | 24 => some ⟨2, 2, denSs ir__law_choice⟩
  | 91 => some ⟨1, 8, denSs ir__law_run⟩
  | 37 => some ⟨1, 4, denSs ir__law_events⟩
  | 15 => some ⟨2, 10, denSs ir__law_before⟩
  | 96 => some ⟨1, 6, denSs ir__law_sound⟩
  | 68 => some ⟨1, 8, denSs ir__law_meets⟩
  | 100 => some ⟨1, 9, denSs ir__law_table⟩
  | 119 => some ⟨2, 12, denSs ir__law_with_turns⟩
  | 31 => some ⟨5, 13, denSs ir__law_due⟩
  | 5006 => some ⟨1, 15, denSs ir_law⟩
  | _ => none
theorem ok_is_plain : f_is_plain.Ok Mi T where
  chk := by kernel_rfl
  sc := ⟨by kernel_rfl, by kernel_rfl, by kernel_rfl, by decide +kernel, rfl, by decide +kernel, by decide +kernel⟩
  np := by decide
  fd := rfl
  bnd := fun _ _ _ _ _ _ us hl => match us, hl with | [_], _ => rfl
theorem ok_is_whole : f_is_whole.Ok Mi T where
  chk := by kernel_rfl
  sc := ⟨by kernel_rfl, by kernel_rfl, by kernel_rfl, by decide +kernel, rfl, by decide +kernel, by decide +kernel⟩
  np := by decide
  fd := rfl
  bnd := fun _ _ _ _ _ _ us hl => match us, hl with | [_, _, _], _ => rfl
theorem ok_is_row : f_is_row.Ok Mi T where
  chk := by kernel_rfl
  sc := ⟨by kernel_rfl, by kernel_rfl, by kernel_rfl, by decide +kernel, rfl, by decide +kernel, by decide +kernel⟩
  np := by decide
  fd := rfl
  bnd := fun _ _ _ _ _ _ us hl => match us, hl with | [_, _, _], _ => rfl
theorem ok_is_call : f_is_call.Ok Mi T where
  chk := by kernel_rfl
  sc := ⟨by kernel_rfl, by kernel_rfl, by kernel_rfl, by decide +kernel, rfl, by decide +kernel, by decide +kernel⟩
  np := by decide
  fd := rfl
  bnd := fun _ _ _ _ _ _ us hl => match us, hl with | [_], _ => rfl
theorem ok_is_run : f_is_run.Ok Mi T where
  chk := by kernel_rfl
  sc := ⟨by kernel_rfl, by kernel_rfl, by kernel_rfl, by decide +kernel, rfl, by decide +kernel, by decide +kernel⟩
  np := by decide
  fd := rfl
  bnd := fun _ _ _ _ _ _ us hl => match us, hl with | [_], _ => rfl
theorem ok_is_wait : f_is_wait.Ok Mi T where
  chk := by kernel_rfl
  sc := ⟨by kernel_rfl, by kernel_rfl, by kernel_rfl, by decide +kernel, rfl, by decide +kernel, by decide +kernel⟩
  np := by decide
  fd := rfl
  bnd := fun _ _ _ _ _ _ us hl => match us, hl with | [_, _], _ => rfl
theorem ok_is_turn : f_is_turn.Ok Mi T where
  chk := by kernel_rfl
  sc := ⟨by kernel_rfl, by kernel_rfl, by kernel_rfl, by decide +kernel, rfl, by decide +kernel, by decide +kernel⟩
  np := by decide
  fd := rfl
  bnd := fun _ _ _ _ _ _ us hl => match us, hl with | [_, _, _], _ => rfl
theorem ok_is_ascending : f_is_ascending.Ok Mi T where
  chk := by kernel_rfl
  sc := ⟨by kernel_rfl, by kernel_rfl, by kernel_rfl, by decide +kernel, rfl, by decide +kernel, by decide +kernel⟩
  np := by decide
  fd := rfl
  bnd := fun _ _ _ _ _ _ us hl => match us, hl with | [_], _ => rfl
theorem ok_are_turns : f_are_turns.Ok Mi T where
  chk := by kernel_rfl
  sc := ⟨by kernel_rfl, by kernel_rfl, by kernel_rfl, by decide +kernel, rfl, by decide +kernel, by decide +kernel⟩
  np := by decide
  fd := rfl
  bnd := fun _ _ _ _ _ _ us hl => match us, hl with | [_, _, _], _ => rfl
theorem ok_is_source : f_is_source.Ok Mi T where
  chk := by kernel_rfl
  sc := ⟨by kernel_rfl, by kernel_rfl, by kernel_rfl, by decide +kernel, rfl, by decide +kernel, by decide +kernel⟩
  np := by decide
  fd := rfl
  bnd := fun _ _ _ _ _ _ us hl => match us, hl with | [_, _], _ => rfl
theorem ok_events_of : f_events_of.Ok Mi T where
  chk := by kernel_rfl
  sc := ⟨by kernel_rfl, by kernel_rfl, by kernel_rfl, by decide +kernel, rfl, by decide +kernel, by decide +kernel⟩
  np := by decide
  fd := rfl
  bnd := fun _ _ _ _ _ _ us hl => match us, hl with | [_], _ => rfl
theorem ok_needs_of : f_needs_of.Ok Mi T where
  chk := by kernel_rfl
  sc := ⟨by kernel_rfl, by kernel_rfl, by kernel_rfl, by decide +kernel, rfl, by decide +kernel, by decide +kernel⟩
  np := by decide
  fd := rfl
  bnd := fun _ _ _ _ _ _ us hl => match us, hl with | [_, _], _ => rfl
theorem ok_order_of : f_order_of.Ok Mi T where
  chk := by kernel_rfl
  sc := ⟨by kernel_rfl, by kernel_rfl, by kernel_rfl, by decide +kernel, rfl, by decide +kernel, by decide +kernel⟩
  np := by decide
  fd := rfl
  bnd := fun _ _ _ _ _ _ us hl => match us, hl with | [_], _ => rfl
theorem ok_is_table : f_is_table.Ok Mi T where
  chk := by kernel_rfl
  sc := ⟨by kernel_rfl, by kernel_rfl, by kernel_rfl, by decide +kernel, rfl, by decide +kernel, by decide +kernel⟩
  np := by decide
  fd := rfl
  bnd := fun _ _ _ _ _ _ us hl => match us, hl with | [_], _ => rfl
theorem ok_is_ride : f_is_ride.Ok Mi T where
  chk := by kernel_rfl
  sc := ⟨by kernel_rfl, by kernel_rfl, by kernel_rfl, by decide +kernel, rfl, by decide +kernel, by decide +kernel⟩
  np := by decide
  fd := rfl
  bnd := fun _ _ _ _ _ _ us hl => match us, hl with | [_, _, _], _ => rfl
theorem ok_fits_plan : f_fits_plan.Ok Mi T where
  chk := by kernel_rfl
  sc := ⟨by kernel_rfl, by kernel_rfl, by kernel_rfl, by decide +kernel, rfl, by decide +kernel, by decide +kernel⟩
  np := by decide
  fd := rfl
  bnd := fun _ _ _ _ _ _ us hl => match us, hl with | [_, _], _ => rfl
theorem ok_need_table : f_need_table.Ok Mi T where
  chk := by kernel_rfl
  sc := ⟨by kernel_rfl, by kernel_rfl, by kernel_rfl, by decide +kernel, rfl, by decide +kernel, by decide +kernel⟩
  np := by decide
  fd := rfl
  bnd := fun _ _ _ _ _ _ us hl => match us, hl with | [_], _ => rfl
theorem ok_need_number : f_need_number.Ok Mi T where
  chk := by kernel_rfl
  sc := ⟨by kernel_rfl, by kernel_rfl, by kernel_rfl, by decide +kernel, rfl, by decide +kernel, by decide +kernel⟩
  np := by decide
  fd := rfl
  bnd := fun _ _ _ _ _ _ us hl => match us, hl with | [_, _, _], _ => rfl
theorem ok_is_plan : f_is_plan.Ok Mi T where
  chk := by kernel_rfl
  sc := ⟨by kernel_rfl, by kernel_rfl, by kernel_rfl, by decide +kernel, rfl, by decide +kernel, by decide +kernel⟩
  np := by decide
  fd := rfl
  bnd := fun _ _ _ _ _ _ us hl => match us, hl with | [_, _], _ => rfl
theorem ok_rides_from : f_rides_from.Ok Mi T where
  chk := by kernel_rfl
  sc := ⟨by kernel_rfl, by kernel_rfl, by kernel_rfl, by decide +kernel, rfl, by decide +kernel, by decide +kernel⟩
  np := by decide
  fd := rfl
  bnd := fun _ _ _ _ _ _ us hl => match us, hl with | [_, _, _], _ => rfl
theorem ok_plans_to : f_plans_to.Ok Mi T where
  chk := by kernel_rfl
  sc := ⟨by kernel_rfl, by kernel_rfl, by kernel_rfl, by decide +kernel, rfl, by decide +kernel, by decide +kernel⟩
  np := by decide
  fd := rfl
  bnd := fun _ _ _ _ _ _ us hl => match us, hl with | [_, _, _, _, _], _ => rfl
theorem ok_need_all : f_need_all.Ok Mi T where
  chk := by kernel_rfl
  sc := ⟨by kernel_rfl, by kernel_rfl, by kernel_rfl, by decide +kernel, rfl, by decide +kernel, by decide +kernel⟩
  np := by decide
  fd := rfl
  bnd := fun _ _ _ _ _ _ us hl => match us, hl with | [_, _, _, _, _], _ => rfl
theorem ok_all_plans : f_all_plans.Ok Mi T where
  chk := by kernel_rfl
  sc := ⟨by kernel_rfl, by kernel_rfl, by kernel_rfl, by decide +kernel, rfl, by decide +kernel, by decide +kernel⟩
  np := by decide
  fd := rfl
  bnd := fun _ _ _ _ _ _ us hl => match us, hl with | [_, _, _, _, _], _ => rfl
theorem ok__law_cell : f__law_cell.Ok Mi T where
  chk := by kernel_rfl
  sc := ⟨by kernel_rfl, by kernel_rfl, by kernel_rfl, by decide +kernel, rfl, by decide +kernel, by decide +kernel⟩
  np := by decide
  fd := rfl
  bnd := fun _ _ _ _ _ _ us hl => match us, hl with | [_, _], _ => rfl
theorem ok__law_draws : f__law_draws.Ok Mi T where
  chk := by kernel_rfl
  sc := ⟨by kernel_rfl, by kernel_rfl, by kernel_rfl, by decide +kernel, rfl, by decide +kernel, by decide +kernel⟩
  np := by decide
  fd := rfl
  bnd := fun _ _ _ _ _ _ us hl => match us, hl with | [_, _, _, _], _ => rfl
theorem ok__law_bag : f__law_bag.Ok Mi T where
  chk := by kernel_rfl
  sc := ⟨by kernel_rfl, by kernel_rfl, by kernel_rfl, by decide +kernel, rfl, by decide +kernel, by decide +kernel⟩
  np := by decide
  fd := rfl
  bnd := fun _ _ _ _ _ _ us hl => match us, hl with | [_, _], _ => rfl
theorem ok__law_take : f__law_take.Ok Mi T where
  chk := by kernel_rfl
  sc := ⟨by kernel_rfl, by kernel_rfl, by kernel_rfl, by decide +kernel, rfl, by decide +kernel, by decide +kernel⟩
  np := by decide
  fd := rfl
  bnd := fun _ _ _ _ _ _ us hl => match us, hl with | [_, _], _ => rfl
theorem ok__law_choice : f__law_choice.Ok Mi T where
  chk := by kernel_rfl
  sc := ⟨by kernel_rfl, by kernel_rfl, by kernel_rfl, by decide +kernel, rfl, by decide +kernel, by decide +kernel⟩
  np := by decide
  fd := rfl
  bnd := fun _ _ _ _ _ _ us hl => match us, hl with | [_, _], _ => rfl
theorem ok__law_run : f__law_run.Ok Mi T where
  chk := by kernel_rfl
  sc := ⟨by kernel_rfl, by kernel_rfl, by kernel_rfl, by decide +kernel, rfl, by decide +kernel, by decide +kernel⟩
  np := by decide
  fd := rfl
  bnd := fun _ _ _ _ _ _ us hl => match us, hl with | [_], _ => rfl
theorem ok__law_events : f__law_events.Ok Mi T where
  chk := by kernel_rfl
  sc := ⟨by kernel_rfl, by kernel_rfl, by kernel_rfl, by decide +kernel, rfl, by decide +kernel, by decide +kernel⟩
  np := by decide
  fd := rfl
  bnd := fun _ _ _ _ _ _ us hl => match us, hl with | [_], _ => rfl
theorem ok__law_before : f__law_before.Ok Mi T where
  chk := by kernel_rfl
  sc := ⟨by kernel_rfl, by kernel_rfl, by kernel_rfl, by decide +kernel, rfl, by decide +kernel, by decide +kernel⟩
  np := by decide
  fd := rfl
  bnd := fun _ _ _ _ _ _ us hl => match us, hl with | [_, _], _ => rfl
theorem ok__law_sound : f__law_sound.Ok Mi T where
  chk := by kernel_rfl
  sc := ⟨by kernel_rfl, by kernel_rfl, by kernel_rfl, by decide +kernel, rfl, by decide +kernel, by decide +kernel⟩
  np := by decide
  fd := rfl
  bnd := fun _ _ _ _ _ _ us hl => match us, hl with | [_], _ => rfl
theorem ok__law_meets : f__law_meets.Ok Mi T where
  chk := by kernel_rfl
  sc := ⟨by kernel_rfl, by kernel_rfl, by kernel_rfl, by decide +kernel, rfl, by decide +kernel, by decide +kernel⟩
  np := by decide
  fd := rfl
  bnd := fun _ _ _ _ _ _ us hl => match us, hl with | [_], _ => rfl
theorem ok__law_table : f__law_table.Ok Mi T where
  chk := by kernel_rfl
  sc := ⟨by kernel_rfl, by kernel_rfl, by kernel_rfl, by decide +kernel, rfl, by decide +kernel, by decide +kernel⟩
  np := by decide
  fd := rfl
  bnd := fun _ _ _ _ _ _ us hl => match us, hl with | [_], _ => rfl
theorem ok__law_with_turns : f__law_with_turns.Ok Mi T where
  chk := by kernel_rfl
  sc := ⟨by kernel_rfl, by kernel_rfl, by kernel_rfl, by decide +kernel, rfl, by decide +kernel, by decide +kernel⟩
  np := by decide
  fd := rfl
  bnd := fun _ _ _ _ _ _ us hl => match us, hl with | [_, _], _ => rfl
theorem ok__law_due : f__law_due.Ok Mi T where
  chk := by kernel_rfl
  sc := ⟨by kernel_rfl, by kernel_rfl, by kernel_rfl, by decide +kernel, rfl, by decide +kernel, by decide +kernel⟩
  np := by decide
  fd := rfl
  bnd := fun _ _ _ _ _ _ us hl => match us, hl with | [_, _, _, _, _], _ => rfl
theorem ok_law : f_law.Ok Mi T where
  chk := by kernel_rfl
  sc := ⟨by kernel_rfl, by kernel_rfl, by kernel_rfl, by decide +kernel, rfl, by decide +kernel, by decide +kernel⟩
  np := by decide
  fd := rfl
  bnd := fun _ _ _ _ _ _ us hl => match us, hl with | [_], _ => rfl
def Ls0 : List FI := [f_is_plain, f_is_whole, f_is_row, f_is_call, f_is_run, f_is_wait, f_is_turn, f_is_ascending, f_are_turns, f_is_source, f_events_of, f_needs_of]
def Ls1 : List FI := [f_order_of, f_is_table, f_is_ride, f_fits_plan, f_need_table, f_need_number, f_is_plan, f_rides_from, f_plans_to, f_need_all, f_all_plans, f__law_cell]
def Ls2 : List FI := [f__law_draws, f__law_bag, f__law_take, f__law_choice, f__law_run, f__law_events, f__law_before, f__law_sound, f__law_meets, f__law_table, f__law_with_turns, f__law_due]
def Ls3 : List FI := [f_law]
def Ls : List FI := Ls0 ++ Ls1 ++ Ls2 ++ Ls3
end K07
end
section
set_option Elab.async false
set_option linter.all false
set_option maxRecDepth 100000
set_option maxHeartbeats 0
namespace K07
open PySem PySem.Spec PyProof.Rows L2 G
def f_named : FI := ⟨"_law_named_error", 9998, namedN, 1, defArgs (top 49), defBody (top 49), defScope (top 49), .nil, false⟩
def f_err : FI := ⟨"_law_error", 9999, ["call", "e"], 1, defArgs (top 50), defBody (top 50), defScope (top 50), .nil, false⟩
def LD : LawD := ⟨Ls, f_named, f_err⟩
theorem M_eq : LD.M = Mi := by kernel_rfl
theorem okA0 : ∀ f ∈ Ls0, f.Ok Mi T := List.forall_mem_cons.mpr ⟨ok_is_plain, List.forall_mem_cons.mpr ⟨ok_is_whole, List.forall_mem_cons.mpr ⟨ok_is_row, List.forall_mem_cons.mpr ⟨ok_is_call, List.forall_mem_cons.mpr ⟨ok_is_run, List.forall_mem_cons.mpr ⟨ok_is_wait, List.forall_mem_cons.mpr ⟨ok_is_turn, List.forall_mem_cons.mpr ⟨ok_is_ascending, List.forall_mem_cons.mpr ⟨ok_are_turns, List.forall_mem_cons.mpr ⟨ok_is_source, List.forall_mem_cons.mpr ⟨ok_events_of, List.forall_mem_cons.mpr ⟨ok_needs_of, fun _ h => nomatch h⟩⟩⟩⟩⟩⟩⟩⟩⟩⟩⟩⟩
theorem okA1 : ∀ f ∈ Ls1, f.Ok Mi T := List.forall_mem_cons.mpr ⟨ok_order_of, List.forall_mem_cons.mpr ⟨ok_is_table, List.forall_mem_cons.mpr ⟨ok_is_ride, List.forall_mem_cons.mpr ⟨ok_fits_plan, List.forall_mem_cons.mpr ⟨ok_need_table, List.forall_mem_cons.mpr ⟨ok_need_number, List.forall_mem_cons.mpr ⟨ok_is_plan, List.forall_mem_cons.mpr ⟨ok_rides_from, List.forall_mem_cons.mpr ⟨ok_plans_to, List.forall_mem_cons.mpr ⟨ok_need_all, List.forall_mem_cons.mpr ⟨ok_all_plans, List.forall_mem_cons.mpr ⟨ok__law_cell, fun _ h => nomatch h⟩⟩⟩⟩⟩⟩⟩⟩⟩⟩⟩⟩
theorem okA2 : ∀ f ∈ Ls2, f.Ok Mi T := List.forall_mem_cons.mpr ⟨ok__law_draws, List.forall_mem_cons.mpr ⟨ok__law_bag, List.forall_mem_cons.mpr ⟨ok__law_take, List.forall_mem_cons.mpr ⟨ok__law_choice, List.forall_mem_cons.mpr ⟨ok__law_run, List.forall_mem_cons.mpr ⟨ok__law_events, List.forall_mem_cons.mpr ⟨ok__law_before, List.forall_mem_cons.mpr ⟨ok__law_sound, List.forall_mem_cons.mpr ⟨ok__law_meets, List.forall_mem_cons.mpr ⟨ok__law_table, List.forall_mem_cons.mpr ⟨ok__law_with_turns, List.forall_mem_cons.mpr ⟨ok__law_due, fun _ h => nomatch h⟩⟩⟩⟩⟩⟩⟩⟩⟩⟩⟩⟩
theorem okA3 : ∀ f ∈ Ls3, f.Ok Mi T := List.forall_mem_cons.mpr ⟨ok_law, fun _ h => nomatch h⟩
theorem okAll : ∀ f ∈ Ls, f.Ok Mi T := List.forall_mem_append.mpr ⟨List.forall_mem_append.mpr ⟨List.forall_mem_append.mpr ⟨okA0, okA1⟩, okA2⟩, okA3⟩
theorem stat : LD.Stat where
  lm := by
    intro f hf
    have : (LD.Ls.all fun f => !f.lm || decide (f.name = "law")) = true := by kernel_rfl
    have := List.all_eq_true.mp this f hf
    intro hl
    rw [hl] at this
    simpa using this
  nN := rfl
  nname := rfl
  nsc := ⟨by kernel_rfl, by kernel_rfl, by kernel_rfl, by decide +kernel, rfl, by decide +kernel, by decide +kernel⟩
  nchk := by kernel_rfl
  ngl := by decide +kernel
  nbnd := fun _ _ _ _ _ _ us hl => match us, hl with | [_], _ => rfl
  ename := rfl
  esc := ⟨by kernel_rfl, by kernel_rfl, by kernel_rfl, by decide +kernel, rfl, by decide +kernel, by decide +kernel⟩
  eva := .inl (by decide +kernel)
  ele := by decide +kernel
  egl := by decide +kernel
  egn := by decide +kernel
  ebnd := fun _ _ _ _ _ _ us hl => match us, hl with | [_], _ => rfl
  ebody := ⟨_, _, _, _, _, _, _, _, _, _, _, _, _, rfl⟩
def names0 : List PySem.Str := ["LateError", "InvalidTable", "InvalidDelay", "InvalidNumber", "InvalidPlan", "InvalidFacts", "InvalidText", "Unlike", "TooLate", "NothingToUndo", "is_plain", "is_whole"]
def names1 : List PySem.Str := ["is_row", "is_call", "is_run", "is_wait", "is_turn", "is_ascending", "are_turns", "is_source", "events_of", "needs_of", "order_of", "is_table"]
def names2 : List PySem.Str := ["is_ride", "fits_plan", "need_table", "need_number", "is_plan", "rides_from", "plans_to", "need_all", "all_plans", "_law_cell", "_law_draws", "_law_bag"]
def names3 : List PySem.Str := ["_law_take", "_law_choice", "_law_run", "_law_events", "_law_before", "_law_sound", "_law_meets", "_law_table", "_law_with_turns", "_law_named_error", "_law_error", "_law_due"]
def names : List PySem.Str := names0 ++ names1 ++ names2 ++ names3
abbrev R : PySem.W.OpenRow := PySem.W.OpenLaw.row PySem.Challenge.rw_latelines_k07_whole_all_plans_between_tw
abbrev qv : Program := PySem.W.view R.prog [52]
abbrev hk : PySem.W.Hook := He.hookX 3 LD.fa LD.fnD [] [("law", none)] (exCB exs10)
def ob (s : PySem.W.SharedT) : He.AlX := He.obsX 3 LD.fa LD.fnD [] [("law", none)] (exCB exs10) (HandSHeadRun.getT s)
theorem ob_eq (s : PySem.W.SharedT) : ob s = hk.obs s.abs := He.obsX_eq (HandSHeadRun.getT_eq s)
theorem run (w : World) : HandSHeadRun.RunEq R qv hk ob 4000 names w := by
  intro os
  kernel_rfl
end K07
open PySem PySem.W PySem.Calls PyProof.Rows
/-- the law, from its def's evaluation -/
theorem k07_holds (d : Nat) (hr : L2.Room (3 * d) callerA) (hev : ∀ ns : List Int, ns.length ≤ 63 → (∀ z ∈ ns, Builtin.Int.intBits z ≤ 1048576) → ∃ h', G.fenv K07.T d 5006 [.scr (ns.map .int)] [] = .ok (.bl true) h') : PySem.Challenge.rw_latelines_k07_whole_all_plans_between_tw.Holds := by
  w_on; o_law
  refine HandSHeadRun.head_any (r := OpenLaw.row PySem.Challenge.rw_latelines_k07_whole_all_plans_between_tw) (q := view (OpenLaw.row PySem.Challenge.rw_latelines_k07_whole_all_plans_between_tw).prog [52]) (H := K07.hk) (ob := K07.ob) (M := 4000) (loose := K07.names) (d := HandSHeadRun.topDef (OpenLaw.row PySem.Challenge.rw_latelines_k07_whole_all_plans_between_tw).prog 52) (kwd := []) K07.ob_eq
    (by kernel_rfl) (fun s => by kernel_rfl) K07.run (by kernel_rfl) (by kernel_rfl) (by kernel_rfl) (by rfl) (by first | assumption | decide +kernel) (by decide +kernel) ⟨rfl, rfl, rfl, rfl, rfl, by decide +kernel⟩ ?hw ?hc
  case hw => w_witness2
  case hc =>
    exact G.walk_law (l := PySem.Challenge.rw_latelines_k07_whole_all_plans_between_tw) (L := K07.LD) (T := K07.T) (f0 := K07.f_law) (x := "script") rfl (by kernel_rfl) (by kernel_rfl) K07.stat (by rw [K07.M_eq]; exact K07.okAll) (by simp [K07.LD, K07.Ls, K07.Ls0, K07.Ls1, K07.Ls2, K07.Ls3]) rfl rfl hr hev
end
section
/-! M1: plain math of orders: which events can be reckoned, by rounds and by passes. -/
set_option linter.all false
namespace M
section
variable {α : Type} [DecidableEq α]
theorem nodup_sub_len : ∀ {l m : List α}, l.Nodup → (∀ x ∈ l, x ∈ m) → l.length ≤ m.length
  | [], _, _, _ => Nat.zero_le _
  | x :: l, m, h, s => by
    have h := List.nodup_cons.mp h
    have hx : x ∈ m := s x (List.mem_cons_self ..)
    have : l.length ≤ (m.erase x).length := nodup_sub_len h.2 fun y hy => by
      have ne : y ≠ x := fun e => h.1 (e ▸ hy)
      exact (List.mem_erase_of_ne ne).mpr (s y (List.mem_cons_of_mem _ hy))
    rw [List.length_erase_of_mem hx] at this
    have : 0 < m.length := List.length_pos_of_mem hx
    simp only [List.length_cons]
    omega
theorem nodup_len_sub {l m : List α} (h : l.Nodup) (s : ∀ x ∈ l, x ∈ m) (e : m.length ≤ l.length) : ∀ x ∈ m, x ∈ l := fun x hx => by
  by_cases hl : x ∈ l
  · exact hl
  · have : (x :: l).length ≤ m.length := nodup_sub_len (List.nodup_cons.mpr ⟨hl, h⟩) fun y hy => by
      rcases List.mem_cons.mp hy with e | hy
      · exact e ▸ hx
      · exact s y hy
    simp only [List.length_cons] at this
    omega

theorem filter_out (p : α → Bool) (l : List α) : (l.filter fun e => decide (e ∉ l.filter p)) = l.filter fun e => !p e := by
  apply List.filter_congr
  intro x hx
  simp [hx]
theorem filter_two (p : α → Bool) : ∀ l : List α, (l.filter p).length + (l.filter fun e => !p e).length = l.length
  | [] => rfl
  | x :: l => by
    have := filter_two p l
    cases c : p x <;> simp [c] <;> omega
theorem split_len (p : α → Bool) (l : List α) : (l.filter p).length + (l.filter fun e => decide (e ∉ l.filter p)).length = l.length := by
  rw [filter_out, filter_two]
/-- all that hang on nothing but what can be reckoned -/
inductive Ok (E : List α) (N : α → List α) : α → Prop
  | mk (e : α) : e ∈ E → (∀ n ∈ N e, Ok E N n) → Ok E N e
variable (E : List α) (N : α → List α)
def goodIn (found : List α) (e : α) : Bool := (N e).all fun x => decide (x ∈ found)
/-- by rounds -/
def rounds : Nat → List α → List α → Option (List α)
  | 0, _, _ => none
  | n + 1, found, rest => if rest = [] then some found else if rest.filter (goodIn N found) = [] then none else rounds n (found ++ rest.filter (goodIn N found)) (rest.filter fun e => decide (e ∉ rest.filter (goodIn N found)))
/-- by passes -/
def pass1 (good : List α) (e : α) : List α := if e ∉ good ∧ goodIn N good e = true then good ++ [e] else good
def passE (good : List α) : List α := E.foldl (pass1 N) good
def closure : Nat → List α → Option (List α)
  | 0, _ => none
  | n + 1, good => if good.length < (passE E N good).length then closure n (passE E N good) else some (passE E N good)
variable {E N}
theorem goodIn_iff {found : List α} {e : α} : goodIn N found e = true ↔ ∀ n ∈ N e, n ∈ found := by simp [goodIn]

structure Inv (E : List α) (N : α → List α) (g : List α) : Prop where
  nd : g.Nodup
  ok : ∀ x ∈ g, Ok E N x
theorem Ok.mem {e : α} (h : Ok E N e) : e ∈ E := by cases h; assumption
theorem pass1_inv {g : List α} {e : α} (he : e ∈ E) (h : Inv E N g) : Inv E N (pass1 N g e) := by
  unfold pass1
  split
  · rename_i c
    refine ⟨?_, fun x hx => ?_⟩
    · rw [List.nodup_append]
      refine ⟨h.nd, by simp, fun a ha b hb e => ?_⟩
      simp at hb
      subst hb; subst e
      exact c.1 ha
    · rcases List.mem_append.mp hx with hx | hx
      · exact h.ok x hx
      · simp at hx
        subst hx
        exact .mk _ he fun n hn => h.ok n (goodIn_iff.mp c.2 n hn)
  · exact h
theorem foldl_inv {P : List α → Prop} {f : List α → α → List α} : ∀ {l : List α} {g : List α}, (∀ e ∈ l, ∀ g, P g → P (f g e)) → P g → P (l.foldl f g)
  | [], _, _, h => h
  | e :: l, g, hf, h => foldl_inv (l := l) (fun x hx => hf x (List.mem_cons_of_mem _ hx)) (hf e (List.mem_cons_self ..) g h)
theorem passE_inv {g : List α} (h : Inv E N g) : Inv E N (passE E N g) := foldl_inv (fun _ he _ h => pass1_inv he h) h
theorem closure_inv : ∀ {n : Nat} {g r : List α}, Inv E N g → closure E N n g = some r → Inv E N r
  | 0, _, _, _, e => by cases e
  | n + 1, g, r, h, e => by
    unfold closure at e
    split at e
    · exact closure_inv (passE_inv h) e
    · cases e; exact passE_inv h
theorem pass1_len (g : List α) (e : α) : g.length ≤ (pass1 N g e).length := by
  unfold pass1; split <;> simp
theorem pass1_pre (g : List α) (e : α) : g <+: pass1 N g e := by
  unfold pass1; split
  · exact List.prefix_append _ _
  · exact List.prefix_refl _
theorem fold_pre : ∀ (l : List α) (g : List α), g <+: l.foldl (pass1 N) g
  | [], g => List.prefix_refl _
  | e :: l, g => (pass1_pre g e).trans (fold_pre l _)
theorem fold_same : ∀ {l : List α} {g : List α}, (l.foldl (pass1 N) g).length ≤ g.length → l.foldl (pass1 N) g = g ∧ ∀ e ∈ l, goodIn N g e = true → e ∈ g
  | [], g, _ => ⟨rfl, fun e h => by cases h⟩
  | e :: l, g, h => by
    have h1 := pass1_pre (N := N) g e
    have h2 := fold_pre (N := N) l (pass1 N g e)
    have hl1 := h1.length_le
    have hl2 := h2.length_le
    simp only [List.foldl_cons] at h ⊢
    have e1 : pass1 N g e = g := (h1.eq_of_length (by omega)).symm
    rw [e1] at h ⊢
    obtain ⟨a, b⟩ := fold_same (l := l) h
    refine ⟨a, fun x hx hg => ?_⟩
    rcases List.mem_cons.mp hx with rfl | hx
    · unfold pass1 at e1
      by_cases hm : x ∈ g
      · exact hm
      · rw [if_pos ⟨hm, hg⟩] at e1
        have := congrArg List.length e1
        simp at this
    · exact b x hx hg
theorem closure_closed : ∀ {n : Nat} {g r : List α}, closure E N n g = some r → ∀ e ∈ E, goodIn N r e = true → e ∈ r
  | 0, _, _, e => by cases e
  | n + 1, g, r, e => by
    unfold closure at e
    split at e
    · exact closure_closed e
    · rename_i c
      cases e
      obtain ⟨a, b⟩ := fold_same (N := N) (l := E) (g := g) (by unfold passE at c; omega)
      unfold passE
      rw [a]
      exact b
theorem closure_all {n : Nat} {g r : List α} (e : closure E N n g = some r) {x : α} (h : Ok E N x) : x ∈ r := by
  induction h with
  | mk x hx _ ih => exact closure_closed e x hx (goodIn_iff.mpr ih)
theorem closure_some : ∀ {n : Nat} {g : List α}, Inv E N g → E.length < n + g.length → ∃ r, closure E N n g = some r
  | 0, g, h, hn => by
    have : g.length ≤ E.length := nodup_sub_len h.nd fun x hx => (h.ok x hx).mem
    omega
  | n + 1, g, h, hn => by
    unfold closure
    split
    · rename_i c
      exact closure_some (passE_inv h) (by omega)
    · exact ⟨_, rfl⟩
theorem inv_nil : Inv E N [] := ⟨List.nodup_nil, fun x h => by cases h⟩
/-- the passes find all just where all is Ok -/
theorem closure_iff (hE : E.Nodup) {n : Nat} {r : List α} (e : closure E N n [] = some r) : r.length = E.length ↔ ∀ x ∈ E, Ok E N x := by
  have i := closure_inv inv_nil e
  constructor
  · intro h x hx
    exact i.ok x (nodup_len_sub i.nd (fun y hy => (i.ok y hy).mem) (by omega) x hx)
  · intro h
    exact Nat.le_antisymm (nodup_sub_len i.nd fun y hy => (i.ok y hy).mem) (nodup_sub_len hE fun y hy => closure_all e (h y hy))

/-! ### by rounds -/
theorem least {found rest : List α} (cov : ∀ e ∈ E, e ∈ found ∨ e ∈ rest) {x : α} (h : Ok E N x) : x ∈ rest → ∃ y ∈ rest, goodIn N found y = true := by
  induction h with
  | mk x hx hn ih =>
    intro hr
    by_cases c : goodIn N found x = true
    · exact ⟨x, hr, c⟩
    · have : ∃ n ∈ N x, n ∉ found := by
        apply Classical.byContradiction
        intro z
        apply c
        rw [goodIn_iff]
        intro n hn
        apply Classical.byContradiction
        intro q
        exact z ⟨n, hn, q⟩
      obtain ⟨n, hn1, hn2⟩ := this
      have hr2 := (cov n (hn n hn1).mem).resolve_left hn2
      exact ih n hn1 hr2
theorem rounds_some (all : ∀ x ∈ E, Ok E N x) : ∀ {n : Nat} {found rest : List α}, (∀ e ∈ E, e ∈ found ∨ e ∈ rest) → (∀ e ∈ rest, e ∈ E) → rest.length < n → ∃ r, rounds N n found rest = some r
  | 0, _, _, _, _, h => by omega
  | n + 1, found, rest, cov, sub, h => by
    unfold rounds
    split
    · exact ⟨_, rfl⟩
    · rename_i ne
      obtain ⟨x, l, e⟩ : ∃ x l, rest = x :: l := by
        cases rest with
        | nil => exact absurd rfl ne
        | cons x l => exact ⟨x, l, rfl⟩
      obtain ⟨y, hy, hg⟩ := least cov (all x (sub x (e ▸ List.mem_cons_self ..))) (e ▸ List.mem_cons_self ..)
      have hy2 : y ∈ rest.filter (goodIn N found) := List.mem_filter.mpr ⟨hy, hg⟩
      rw [if_neg (List.ne_nil_of_mem hy2)]
      refine rounds_some all ?_ ?_ ?_
      · intro z hz
        by_cases c : z ∈ rest.filter (goodIn N found)
        · exact .inl (List.mem_append_right _ c)
        · rcases cov z hz with q | q
          · exact .inl (List.mem_append_left _ q)
          · exact .inr (List.mem_filter.mpr ⟨q, decide_eq_true c⟩)
      · exact fun z hz => sub z (List.mem_filter.mp hz).1
      · have : (rest.filter fun e => decide (e ∉ rest.filter (goodIn N found))).length < rest.length := by
          apply List.length_filter_lt_length_iff_exists.mpr
          exact ⟨y, hy, by simpa using hy2⟩
        omega
theorem rounds_ok : ∀ {n : Nat} {found rest r : List α}, (∀ e ∈ rest, e ∈ E) → (∀ e ∈ found, Ok E N e) → rounds N n found rest = some r → (∀ e ∈ r, Ok E N e) ∧ ∀ e ∈ found ++ rest, e ∈ r
  | 0, _, _, _, _, _, h => by cases h
  | n + 1, found, rest, r, sub, hf, h => by
    unfold rounds at h
    split at h
    · rename_i e
      cases h
      subst e
      exact ⟨hf, by simp⟩
    · split at h
      · cases h
      · obtain ⟨a, b⟩ := rounds_ok (fun z hz => sub z (List.mem_filter.mp hz).1) (fun z hz => by
          rcases List.mem_append.mp hz with hz | hz
          · exact hf z hz
          · have := List.mem_filter.mp hz
            exact .mk _ (sub z this.1) fun n hn => hf n (goodIn_iff.mp this.2 n hn)) h
        refine ⟨a, fun z hz => ?_⟩
        by_cases c : z ∈ rest.filter (goodIn N found)
        · exact b z (List.mem_append_left _ (List.mem_append_right _ c))
        · rcases List.mem_append.mp hz with hz | hz
          · exact b z (List.mem_append_left _ (List.mem_append_left _ hz))
          · exact b z (List.mem_append_right _ (List.mem_filter.mpr ⟨hz, decide_eq_true c⟩))
/-- the rounds come to an end just where all is Ok -/
theorem rounds_iff {n : Nat} (hn : E.length < n) : (∃ r, rounds N n [] E = some r) ↔ ∀ x ∈ E, Ok E N x := by
  constructor
  · rintro ⟨r, h⟩ x hx
    obtain ⟨a, b⟩ := rounds_ok (fun _ h => h) (fun _ h => by cases h) h
    exact a x (b x (by simpa using hx))
  · intro h
    exact rounds_some h (fun e he => .inr he) (fun _ h => h) hn
end
end M
end
section
/-! M2: tables, events, needs, plans: plain math. -/
set_option linter.all false
namespace M

structure Call where
  p : Int
  a : Int
  d : Int
  s : Int
  deriving DecidableEq
abbrev Rn := List Call
structure Wt where
  r : Nat
  c : Nat
  r' : Nat
  c' : Nat
  m : Int
  deriving DecidableEq
structure Tn where
  r : Nat
  r' : Nat
  g : Bool
  deriving DecidableEq
structure Tb where
  runs : List Rn
  waits : List Wt
  turns : List Tn
  sr : Nat
  sc : Nat
  each : Bool
  per : Int
  deriving DecidableEq
inductive Ev where
  | ar (r c : Nat)
  | dp (r c : Nat)
  deriving DecidableEq

/-! ### what is a table -/
def callOk (c : Call) : Prop := 0 ≤ c.p ∧ c.p ≤ 5 ∧ 0 ≤ c.s ∧ c.s ≤ 240 ∧ 0 ≤ c.a ∧ c.a ≤ 240 ∧ c.a ≤ c.d ∧ c.d ≤ 240
instance (c : Call) : Decidable (callOk c) := by unfold callOk; exact inferInstance
def linkOk (x y : Call) : Prop := x.d < y.a ∧ y.p ≠ x.p ∧ y.s < y.a - x.d
instance (x y : Call) : Decidable (linkOk x y) := by unfold linkOk; exact inferInstance
def linksOk : Rn → Prop
  | x :: y :: r => linkOk x y ∧ linksOk (y :: r)
  | _ => True
instance linksDec : ∀ r : Rn, Decidable (linksOk r)
  | [] => .isTrue trivial
  | [_] => .isTrue trivial
  | x :: y :: r => by
    have := linksDec (y :: r)
    unfold linksOk
    exact inferInstance
def flat (c : Call) : Prop := c.a = c.d
structure RunOk (r : Rn) : Prop where
  lo : 2 ≤ r.length
  hi : r.length ≤ 4
  calls : ∀ c ∈ r, callOk c
  first : ∀ c, r[0]? = some c → c.a = c.d ∧ c.s = 0
  last : ∀ c, r[r.length - 1]? = some c → c.a = c.d
  links : linksOk r
/-- the call of a run, by numbers -/
def callAt (rs : List Rn) (r c : Nat) : Option Call := (rs[r]?).bind fun run => run[c]?
def lenOf (rs : List Rn) (r : Nat) : Nat := (rs[r]?.getD []).length
structure WtOk (rs : List Rn) (w : Wt) : Prop where
  r : w.r < rs.length
  r' : w.r' < rs.length
  ne : w.r ≠ w.r'
  c : w.c + 1 < lenOf rs w.r
  c'1 : 1 ≤ w.c'
  c' : w.c' < lenOf rs w.r'
  m0 : 0 ≤ w.m
  m : w.m ≤ 60
  meet : ∃ x y, callAt rs w.r w.c = some x ∧ callAt rs w.r' w.c' = some y ∧ x.p = y.p ∧ y.a ≤ x.d
structure TnOk (rs : List Rn) (per : Int) (u : Tn) : Prop where
  r : u.r < rs.length
  r' : u.r' < rs.length
  g : u.r = u.r' → u.g = true
  meet : ∃ x y, callAt rs u.r (lenOf rs u.r - 1) = some x ∧ callAt rs u.r' 0 = some y ∧ x.p = y.p ∧ x.a ≤ y.d + (if u.g then per else 0)
def wkey (w : Wt) : List Int := [w.r, w.c, w.r', w.c', w.m]
def bn (b : Bool) : Int := if b then 1 else 0
def tkey (u : Tn) : List Int := [u.r, u.r', bn u.g]
def lexI : List Int → List Int → Bool
  | [], [] => false
  | [], _ :: _ => true
  | _ :: _, [] => false
  | x :: xs, y :: ys => if x = y then lexI xs ys else decide (x < y)
def asc {α : Type} (k : α → List Int) : List α → Prop
  | x :: y :: r => lexI (k x) (k y) = true ∧ asc k (y :: r)
  | _ => True

/-! ### events -/
def evRun (r n : Nat) : List Ev := (List.range n).flatMap fun c => (if 0 < c then [Ev.ar r c] else []) ++ (if c + 1 < n then [Ev.dp r c] else [])
def eventsFrom : Nat → List Rn → List Ev
  | _, [] => []
  | k, r :: rs => evRun k r.length ++ eventsFrom (k + 1) rs
def events (t : Tb) : List Ev := eventsFrom 0 t.runs
def turnsTo (t : Tb) (r c : Nat) : List Ev := (t.turns.filter fun u => decide (u.r' = r) && (decide (c = 0) && !u.g)).map fun u => Ev.ar u.r (lenOf t.runs u.r - 1)
def waitsTo (t : Tb) (r c : Nat) : List Ev := (t.waits.filter fun w => decide (w.r = r) && decide (w.c = c)).map fun w => Ev.ar w.r' w.c'
def needs (t : Tb) : Ev → List Ev
  | .ar r c => [.dp r (c - 1)]
  | .dp r c => (if 0 < c then [Ev.ar r c] else []) ++ turnsTo t r c ++ waitsTo t r c
def Sound (t : Tb) : Prop := ∀ e ∈ events t, Ok (events t) (needs t) e
structure TbPre (t : Tb) : Prop where
  n1 : 1 ≤ t.runs.length
  n4 : t.runs.length ≤ 4
  runs : ∀ r ∈ t.runs, RunOk r
  per0 : 60 ≤ t.per
  per1 : t.per ≤ 480
  w4 : t.waits.length ≤ 4
  waits : ∀ w ∈ t.waits, WtOk t.runs w
  wasc : asc wkey t.waits
  u4 : t.turns.length ≤ 4
  turns : ∀ u ∈ t.turns, TnOk t.runs t.per u
  uasc : asc tkey t.turns
  u1 : (t.turns.map (·.r)).Nodup
  u2 : (t.turns.map (·.r')).Nodup
  sr : t.sr < t.runs.length
  sc : t.sc + 1 < lenOf t.runs t.sr
structure TbOk (t : Tb) : Prop extends TbPre t where
  sound : Sound t

def order (t : Tb) : Option (List Ev) := rounds (needs t) ((events t).length + 1) [] (events t)
theorem evRun_mem {r n : Nat} {e : Ev} : e ∈ evRun r n ↔ (∃ c, e = .ar r c ∧ 0 < c ∧ c < n) ∨ (∃ c, e = .dp r c ∧ c + 1 < n) := by
  unfold evRun
  simp only [List.mem_flatMap, List.mem_range, List.mem_append]
  constructor
  · rintro ⟨c, hc, h | h⟩
    · split at h
      · simp at h; exact .inl ⟨c, h, by assumption, hc⟩
      · cases h
    · split at h
      · simp at h; exact .inr ⟨c, h, by assumption⟩
      · cases h
  · rintro (⟨c, rfl, h0, hc⟩ | ⟨c, rfl, hc⟩)
    · exact ⟨c, hc, .inl (by simp [h0])⟩
    · exact ⟨c, by omega, .inr (by simp [hc])⟩
def Ev.run : Ev → Nat
  | .ar r _ => r
  | .dp r _ => r
theorem evRun_run {r n : Nat} {e : Ev} (h : e ∈ evRun r n) : e.run = r := by
  rcases evRun_mem.mp h with ⟨c, rfl, _⟩ | ⟨c, rfl, _⟩ <;> rfl
theorem lenOf_zero (r : Rn) (rs : List Rn) : lenOf (r :: rs) 0 = r.length := rfl
theorem lenOf_succ (r : Rn) (rs : List Rn) (i : Nat) : lenOf (r :: rs) (i + 1) = lenOf rs i := by simp [lenOf]
theorem eventsFrom_mem : ∀ {rs : List Rn} {k : Nat} {e : Ev}, e ∈ eventsFrom k rs ↔ (∃ r c, e = .ar (k + r) c ∧ 0 < c ∧ c < lenOf rs r) ∨ (∃ r c, e = .dp (k + r) c ∧ c + 1 < lenOf rs r)
  | [], k, e => by
    simp [eventsFrom, lenOf]
  | run :: rs, k, e => by
    rw [eventsFrom, List.mem_append, evRun_mem, eventsFrom_mem]
    constructor
    · rintro ((⟨c, h⟩ | ⟨c, h⟩) | (⟨r, c, h1, h⟩ | ⟨r, c, h1, h⟩))
      · exact .inl ⟨0, c, h⟩
      · exact .inr ⟨0, c, h⟩
      · exact .inl ⟨r + 1, c, by rw [h1]; congr 1; omega, by rw [lenOf_succ]; exact h⟩
      · exact .inr ⟨r + 1, c, by rw [h1]; congr 1; omega, by rw [lenOf_succ]; exact h⟩
    · rintro (⟨r, c, h1, h⟩ | ⟨r, c, h1, h⟩)
      · cases r with
        | zero => exact .inl (.inl ⟨c, h1, h⟩)
        | succ r =>
          rw [lenOf_succ] at h
          exact .inr (.inl ⟨r, c, by rw [h1]; congr 1; omega, h⟩)
      · cases r with
        | zero => exact .inl (.inr ⟨c, h1, h⟩)
        | succ r =>
          rw [lenOf_succ] at h
          exact .inr (.inr ⟨r, c, by rw [h1]; congr 1; omega, h⟩)
theorem events_mem {t : Tb} {e : Ev} : e ∈ events t ↔ (∃ r c, e = .ar r c ∧ 0 < c ∧ c < lenOf t.runs r) ∨ (∃ r c, e = .dp r c ∧ c + 1 < lenOf t.runs r) := by
  unfold events
  rw [eventsFrom_mem]
  simp
theorem nodup_flatMap {α β : Type} {f : α → List β} : ∀ {l : List α}, l.Nodup → (∀ x ∈ l, (f x).Nodup) → (∀ x ∈ l, ∀ y ∈ l, x ≠ y → ∀ b ∈ f x, b ∉ f y) → (l.flatMap f).Nodup
  | [], _, _, _ => List.nodup_nil
  | x :: l, h, h1, h2 => by
    rw [List.flatMap_cons, List.nodup_append]
    have hn := List.nodup_cons.mp h
    refine ⟨h1 x (List.mem_cons_self ..), nodup_flatMap hn.2 (fun y hy => h1 y (List.mem_cons_of_mem _ hy)) (fun y hy z hz => h2 y (List.mem_cons_of_mem _ hy) z (List.mem_cons_of_mem _ hz)), fun a ha b hb e => ?_⟩
    subst e
    obtain ⟨y, hy, hb⟩ := List.mem_flatMap.mp hb
    exact h2 x (List.mem_cons_self ..) y (List.mem_cons_of_mem _ hy) (fun e => hn.1 (e ▸ hy)) a ha hb
theorem evRun_nodup (r n : Nat) : (evRun r n).Nodup := by
  refine nodup_flatMap List.nodup_range (fun c _ => ?_) (fun x _ y _ ne b hb hb' => ?_)
  · split <;> split <;> simp
  · simp only [List.mem_append] at hb hb'
    rcases hb with hb | hb <;> rcases hb' with hb' | hb' <;> split at hb <;> split at hb' <;> simp_all
theorem eventsFrom_nodup : ∀ (rs : List Rn) (k : Nat), (eventsFrom k rs).Nodup
  | [], _ => List.nodup_nil
  | r :: rs, k => by
    rw [eventsFrom, List.nodup_append]
    refine ⟨evRun_nodup _ _, eventsFrom_nodup rs _, fun a ha b hb e => ?_⟩
    subst e
    have h1 := evRun_run ha
    rcases eventsFrom_mem.mp hb with ⟨r', c, h, _⟩ | ⟨r', c, h, _⟩ <;> (subst h; simp only [Ev.run] at h1; omega)
theorem events_nodup (t : Tb) : (events t).Nodup := eventsFrom_nodup _ _
theorem evRun_len (r n : Nat) : (evRun r n).length ≤ 2 * n := by
  unfold evRun
  rw [List.length_flatMap]
  have : ∀ l : List Nat, (l.map fun c => ((if 0 < c then [Ev.ar r c] else []) ++ (if c + 1 < n then [Ev.dp r c] else [])).length).sum ≤ 2 * l.length := fun l => by
    induction l with
    | nil => simp
    | cons x l ih =>
      simp only [List.map_cons, List.sum_cons, List.length_cons, List.length_append] at ih ⊢
      have : (if 0 < x then [Ev.ar r x] else []).length ≤ 1 := by split <;> simp
      have : (if x + 1 < n then [Ev.dp r x] else []).length ≤ 1 := by split <;> simp
      omega
  have := this (List.range n)
  simpa using this
theorem eventsFrom_len : ∀ (rs : List Rn) (k : Nat), (∀ r ∈ rs, r.length ≤ 4) → (eventsFrom k rs).length ≤ 8 * rs.length
  | [], _, _ => Nat.le_refl _
  | r :: rs, k, h => by
    rw [eventsFrom, List.length_append]
    have := evRun_len k r.length
    have := h r (List.mem_cons_self ..)
    have := eventsFrom_len rs (k + 1) fun x hx => h x (List.mem_cons_of_mem _ hx)
    simp only [List.length_cons]
    omega
theorem TbPre.events_len {t : Tb} (h : TbPre t) : (events t).length ≤ 32 := by
  have := eventsFrom_len t.runs 0 fun r hr => (h.runs r hr).hi
  have := h.n4
  unfold events
  omega
end M
end
section
/-! M3: sorting by keys; bare tables are sound; where runs meet. -/
set_option linter.all false
namespace M
/-! ### sorting -/
theorem lexI_irr : ∀ x : List Int, lexI x x = false
  | [] => rfl
  | x :: xs => by simp [lexI, lexI_irr xs]
theorem lexI_tri : ∀ {x y : List Int}, lexI x y = false → lexI y x = false → x = y
  | [], [], _, _ => rfl
  | [], _ :: _, h, _ => by simp [lexI] at h
  | _ :: _, [], _, h => by simp [lexI] at h
  | x :: xs, y :: ys, h, h' => by
    simp only [lexI] at h h'
    by_cases c : x = y
    · rw [if_pos c] at h
      rw [if_pos c.symm] at h'
      rw [c, lexI_tri h h']
    · rw [if_neg c] at h
      rw [if_neg (fun e => c e.symm)] at h'
      simp at h h'
      omega
theorem lexI_asymm : ∀ {x y : List Int}, lexI x y = true → lexI y x = false
  | [], [], h => by simp [lexI] at h
  | [], _ :: _, _ => rfl
  | _ :: _, [], h => by simp [lexI] at h
  | x :: xs, y :: ys, h => by
    simp only [lexI] at h ⊢
    by_cases c : x = y
    · rw [if_pos c] at h
      rw [if_pos c.symm]
      exact lexI_asymm h
    · rw [if_neg c] at h
      rw [if_neg (fun e => c e.symm)]
      simp at h ⊢
      omega
theorem lexI_trans : ∀ {x y z : List Int}, lexI x y = true → lexI y z = true → lexI x z = true
  | [], [], [], _, h' => by simp [lexI] at h'
  | [], _ :: _, [], _, h' => by simp [lexI] at h'
  | [], _, _ :: _, _, _ => rfl
  | _ :: _, [], _, h, _ => by simp [lexI] at h
  | _ :: _, _ :: _, [], _, h => by simp [lexI] at h
  | x :: xs, y :: ys, z :: zs, h, h' => by
    simp only [lexI] at h h' ⊢
    by_cases c : x = y
    · rw [if_pos c] at h
      subst c
      by_cases d : x = z
      · rw [if_pos d] at h' ⊢
        exact lexI_trans h h'
      · rw [if_neg d] at h' ⊢
        exact h'
    · rw [if_neg c] at h
      by_cases d : y = z
      · subst d
        rw [if_neg c]
        exact h
      · rw [if_neg d] at h'
        simp at h h'
        rw [if_neg (by omega)]
        simp
        omega
section
variable {α : Type} (k : α → List Int)
def insY (x : α) : List α → List α
  | [] => [x]
  | y :: ys => if lexI (k y) (k x) then y :: insY x ys else x :: y :: ys
def sortK : List α → List α
  | [] => []
  | x :: xs => insY k x (sortK xs)
variable {k}
theorem insY_mem {x z : α} : ∀ {l : List α}, z ∈ insY k x l ↔ z = x ∨ z ∈ l
  | [] => by simp [insY]
  | y :: ys => by
    unfold insY
    split
    · rw [List.mem_cons, insY_mem, List.mem_cons]
      constructor
      · rintro (h | h | h)
        · exact .inr (.inl h)
        · exact .inl h
        · exact .inr (.inr h)
      · rintro (h | h | h)
        · exact .inr (.inl h)
        · exact .inl h
        · exact .inr (.inr h)
    · rw [List.mem_cons]
theorem sortK_mem {z : α} : ∀ {l : List α}, z ∈ sortK k l ↔ z ∈ l
  | [] => by simp [sortK]
  | x :: xs => by rw [sortK, insY_mem, sortK_mem, List.mem_cons]
theorem insY_len (x : α) : ∀ l : List α, (insY k x l).length = l.length + 1
  | [] => rfl
  | y :: ys => by
    unfold insY
    split
    · simp [insY_len x ys]
    · simp
theorem sortK_len : ∀ l : List α, (sortK k l).length = l.length
  | [] => rfl
  | x :: xs => by rw [sortK, insY_len, sortK_len xs]; rfl
theorem insY_asc (hk : ∀ a b, k a = k b → a = b) {x : α} : ∀ {l : List α}, asc k l → x ∉ l → asc k (insY k x l)
  | [], _, _ => trivial
  | [y], _, hx => by
    unfold insY
    split
    · rename_i c
      exact ⟨c, trivial⟩
    · rename_i c
      simp at c hx
      refine ⟨?_, trivial⟩
      cases d : lexI (k x) (k y)
      · exact absurd (hk _ _ (lexI_tri d c)) hx
      · rfl
  | y :: z :: r, h, hx => by
    unfold insY
    split
    · rename_i c
      have ih := insY_asc hk (l := z :: r) h.2 (fun q => hx (List.mem_cons_of_mem _ q))
      unfold insY at ih ⊢
      split
      · rename_i c2
        rw [if_pos c2] at ih
        exact ⟨h.1, ih⟩
      · rename_i c2
        rw [if_neg c2] at ih
        exact ⟨c, ih⟩
    · rename_i c
      refine ⟨?_, h⟩
      cases d : lexI (k x) (k y)
      · exact absurd (hk _ _ (lexI_tri d (by simpa using c))) (fun e => hx (e ▸ List.mem_cons_self ..))
      · rfl
theorem sortK_asc (hk : ∀ a b, k a = k b → a = b) : ∀ {l : List α}, l.Nodup → asc k (sortK k l)
  | [], _ => trivial
  | x :: xs, h => by
    have h := List.nodup_cons.mp h
    exact insY_asc hk (sortK_asc hk h.2) fun q => h.1 (sortK_mem.mp q)
theorem asc_lt : ∀ {x : α} {l : List α}, asc k (x :: l) → ∀ y ∈ l, lexI (k x) (k y) = true
  | x, [], _, _, h => by cases h
  | x, y :: l, h, z, hz => by
    rcases List.mem_cons.mp hz with rfl | hz
    · exact h.1
    · exact lexI_trans h.1 (asc_lt h.2 z hz)
theorem asc_tail {x : α} : ∀ {l : List α}, asc k (x :: l) → asc k l
  | [], _ => trivial
  | _ :: _, h => h.2
theorem asc_nodup : ∀ {l : List α}, asc k l → l.Nodup
  | [], _ => List.nodup_nil
  | x :: l, h => List.nodup_cons.mpr ⟨fun q => by
      have := asc_lt h x q
      rw [lexI_irr] at this
      exact Bool.noConfusion this, asc_nodup (asc_tail h)⟩
theorem insY_comm (hk : ∀ a b, k a = k b → a = b) (x y : α) : ∀ l : List α, insY k x (insY k y l) = insY k y (insY k x l)
  | [] => by
    cases c : lexI (k x) (k y) <;> cases d : lexI (k y) (k x) <;> simp [insY, c, d]
    · have := hk _ _ (lexI_tri c d)
      simp [this]
    · rw [lexI_asymm c] at d
      cases d
  | z :: l => by
    have ih := insY_comm hk x y l
    cases c : lexI (k z) (k x) <;> cases d : lexI (k z) (k y)
    · simp only [insY, c, d]
      cases e : lexI (k x) (k y) <;> cases f : lexI (k y) (k x) <;> simp [insY, c, d, e, f]
      · have := hk _ _ (lexI_tri e f)
        simp [this]
      · rw [lexI_asymm e] at f
        cases f
    · have e : lexI (k x) (k y) = true := by
        cases e : lexI (k x) (k y)
        · cases f : lexI (k y) (k x)
          · have := hk _ _ (lexI_tri e f)
            rw [this] at c
            rw [c] at d; cases d
          · rw [lexI_trans d f] at c; cases c
        · rfl
      simp [insY, c, d, e]
    · have e : lexI (k y) (k x) = true := by
        cases e : lexI (k y) (k x)
        · cases f : lexI (k x) (k y)
          · have := hk _ _ (lexI_tri e f)
            rw [this] at d
            rw [c] at d; cases d
          · rw [lexI_trans c f] at d; cases d
        · rfl
      simp [insY, c, d, e]
    · simp [insY, c, d, ih]
theorem sortK_perm (hk : ∀ a b, k a = k b → a = b) {l m : List α} (p : l.Perm m) : sortK k l = sortK k m := by
  induction p with
  | nil => rfl
  | cons x _ ih => rw [sortK, sortK, ih]
  | swap x y l => rw [sortK, sortK, sortK, sortK, insY_comm hk]
  | trans _ _ h1 h2 => rw [h1, h2]
end
theorem insY_perm {α : Type} {k : α → List Int} (x : α) : ∀ l : List α, (insY k x l).Perm (x :: l)
  | [] => .refl _
  | y :: l => by
    unfold insY
    split
    · exact ((insY_perm x l).cons y).trans (.swap ..)
    · exact .refl _
theorem sortK_perm' {α : Type} {k : α → List Int} : ∀ l : List α, (sortK k l).Perm l
  | [] => .refl _
  | x :: l => (insY_perm x _).trans ((sortK_perm' l).cons x)
theorem wkey_inj (a b : Wt) (e : wkey a = wkey b) : a = b := by
  cases a; cases b
  simp [wkey] at e
  simp
  omega
theorem bn_inj {a b : Bool} (e : bn a = bn b) : a = b := by cases a <;> cases b <;> simp [bn] at e <;> rfl
theorem tkey_inj (a b : Tn) (e : tkey a = tkey b) : a = b := by
  cases a; cases b
  simp [tkey] at e
  obtain ⟨h1, h2, h3⟩ := e
  have := bn_inj h3
  simp [this]
  omega
/-! ### a table without waits and turns -/
theorem sound_bare {t : Tb} (hw : t.waits = []) (hu : t.turns = []) : Sound t := by
  have key : ∀ c r, (c + 1 < lenOf t.runs r → Ok (events t) (needs t) (.dp r c)) ∧ (0 < c → c < lenOf t.runs r → Ok (events t) (needs t) (.ar r c)) := by
    intro c
    induction c with
    | zero =>
      intro r
      refine ⟨fun h => .mk _ (events_mem.mpr (.inr ⟨r, 0, rfl, h⟩)) fun n hn => ?_, fun h => by omega⟩
      simp [needs, turnsTo, waitsTo, hw, hu] at hn
    | succ c ih =>
      intro r
      have ar : c + 1 < lenOf t.runs r → Ok (events t) (needs t) (.ar r (c + 1)) := fun h => .mk _ (events_mem.mpr (.inl ⟨r, c + 1, rfl, by omega, h⟩)) fun n hn => by
        simp [needs] at hn
        subst hn
        exact (ih r).1 h
      refine ⟨fun h => .mk _ (events_mem.mpr (.inr ⟨r, c + 1, rfl, h⟩)) fun n hn => ?_, fun _ h => ar h⟩
      simp [needs, turnsTo, waitsTo, hw, hu] at hn
      subst hn
      exact ar (by omega)
  intro e he
  rcases events_mem.mp he with ⟨r, c, rfl, h0, h⟩ | ⟨r, c, rfl, h⟩
  · exact (key c r).2 h0 h
  · exact (key c r).1 h
/-! ### where runs meet -/
abbrev M4 := Nat × Nat × Nat × Nat
def meetC (rs : List Rn) (r o c th : Nat) : Bool := match callAt rs r c, callAt rs o th with
  | some x, some y => decide (r ≠ o) && (decide (x.p = y.p) && decide (y.a ≤ x.d))
  | _, _ => false
def meet3 (rs : List Rn) (r o c : Nat) : List M4 := (List.range' 1 (lenOf rs o - 1)).flatMap fun th => if meetC rs r o c th then [(r, c, o, th)] else []
def meet2 (rs : List Rn) (r o : Nat) : List M4 := (List.range (lenOf rs r - 1)).flatMap (meet3 rs r o)
def meet1 (rs : List Rn) (r : Nat) : List M4 := (List.range rs.length).flatMap (meet2 rs r)
def meets (rs : List Rn) : List M4 := (List.range rs.length).flatMap (meet1 rs)
theorem flatMap_len_le {α β : Type} {f : α → List β} {n : Nat} : ∀ {l : List α}, (∀ x ∈ l, (f x).length ≤ n) → (l.flatMap f).length ≤ l.length * n
  | [], _ => by simp
  | x :: l, h => by
    rw [List.flatMap_cons, List.length_append, List.length_cons, Nat.add_mul]
    have := h x (List.mem_cons_self ..)
    have := flatMap_len_le fun y hy => h y (List.mem_cons_of_mem _ hy)
    omega
theorem lenOf_le {rs : List Rn} (h : ∀ r ∈ rs, r.length ≤ 4) (k : Nat) : lenOf rs k ≤ 4 := by
  unfold lenOf
  cases e : rs[k]? with
  | none => simp
  | some r => exact h r (List.mem_of_getElem? e)
theorem meets_len {rs : List Rn} (h4 : rs.length ≤ 4) (h : ∀ r ∈ rs, r.length ≤ 4) : (meets rs).length ≤ 256 := by
  have h3 : ∀ r o c, (meet3 rs r o c).length ≤ 4 := fun r o c => by
    have := flatMap_len_le (f := fun th => if meetC rs r o c th then [(r, c, o, th)] else []) (n := 1) (l := List.range' 1 (lenOf rs o - 1)) (fun x _ => by split <;> simp)
    have := lenOf_le h o
    simp only [List.length_range'] at *
    unfold meet3
    omega
  have h2 : ∀ r o, (meet2 rs r o).length ≤ 16 := fun r o => by
    have := flatMap_len_le (n := 4) (l := List.range (lenOf rs r - 1)) (fun x _ => h3 r o x)
    have := lenOf_le h r
    simp only [List.length_range] at *
    unfold meet2
    omega
  have h1 : ∀ r, (meet1 rs r).length ≤ 64 := fun r => by
    have := flatMap_len_le (n := 16) (l := List.range rs.length) (fun x _ => h2 r x)
    simp only [List.length_range] at *
    unfold meet1
    omega
  have := flatMap_len_le (n := 64) (l := List.range rs.length) (fun x _ => h1 x)
  simp only [List.length_range] at *
  unfold meets
  omega
theorem meets_mem {rs : List Rn} {r c o th : Nat} : (r, c, o, th) ∈ meets rs ↔ r < rs.length ∧ o < rs.length ∧ c + 1 < lenOf rs r ∧ 1 ≤ th ∧ th < lenOf rs o ∧ meetC rs r o c th = true := by
  unfold meets meet1 meet2 meet3
  simp only [List.mem_flatMap, List.mem_range, List.mem_range'_1]
  constructor
  · rintro ⟨r', hr, o', ho, c', hc, th', ⟨ht, ht'⟩, h⟩
    split at h
    · simp at h
      obtain ⟨rfl, rfl, rfl, rfl⟩ := h
      exact ⟨hr, ho, by omega, ht, by omega, by assumption⟩
    · cases h
  · rintro ⟨hr, ho, hc, ht, ht', h⟩
    exact ⟨r, hr, o, ho, c, by omega, th, ⟨ht, by omega⟩, by simp [h]⟩
/-- a wait where runs meet -/
theorem wt_of_meet {rs : List Rn} {r c o th : Nat} {m : Int} (h : (r, c, o, th) ∈ meets rs) (m0 : 0 ≤ m) (m1 : m ≤ 60) : WtOk rs ⟨r, c, o, th, m⟩ := by
  obtain ⟨h1, h2, h3, h4, h5, h6⟩ := meets_mem.mp h
  unfold meetC at h6
  cases e1 : callAt rs r c with
  | none => rw [e1] at h6; cases h6
  | some x =>
    cases e2 : callAt rs o th with
    | none => rw [e1, e2] at h6; cases h6
    | some y =>
      rw [e1, e2] at h6
      simp at h6
      exact ⟨h1, h2, h6.1, h3, h4, h5, m0, m1, x, y, e1, e2, h6.2.1, h6.2.2⟩
end M
end
section
/-! M4: rides, plans, the two searches. -/
set_option linter.all false
namespace M
abbrev Ride := Nat × Nat × Nat
/-- rides so far, places met (the last one is where one is) -/
abbrev Stt := List Ride × List Int
def placeAt (rs : List Rn) (r c : Nat) : Int := match callAt rs r c with
  | some x => x.p
  | none => 0
def fitC (calls : Rn) (place : Int) (met : List Int) (b e : Nat) : Bool := match calls[b]?, calls[e]? with
  | some x, some y => decide (x.p = place) && decide (y.p ∉ met)
  | _, _ => false
def ridesRB (calls : Rn) (place : Int) (met : List Int) (r b : Nat) : List Ride := (List.range' (b + 1) (calls.length - (b + 1))).flatMap fun e => if fitC calls place met b e then [(r, b, e)] else []
def ridesR (calls : Rn) (place : Int) (met : List Int) (r : Nat) : List Ride := (List.range calls.length).flatMap (ridesRB calls place met r)
def ridesL : List (Rn × Nat) → Int → List Int → List Ride
  | q, place, met => q.flatMap fun q => ridesR q.1 place met q.2
def rides (rs : List Rn) (place : Int) (met : List Int) : List Ride := (rs.zipIdx).flatMap fun q => ridesR q.1 place met q.2
theorem ridesR_less (calls : Rn) (place : Int) (met : List Int) (r : Nat) : (List.range (calls.length - 1)).flatMap (ridesRB calls place met r) = ridesR calls place met r := by
  unfold ridesR
  cases h : calls.length with
  | zero => rfl
  | succ n =>
    rw [List.range_succ, List.flatMap_append]
    simp [ridesRB, h]
def here (s : Stt) : Int := s.2.getLastD 0
def kids (rs : List Rn) (s : Stt) : List Stt := (rides rs (here s) s.2).map fun d => (s.1 ++ [d], s.2 ++ [placeAt rs d.1 d.2.2])
def there (goal : Int) (s : Stt) : Bool := decide (here s = goal)
def coll (rs : List Rn) (goal : Int) : Nat → Stt → List (List Ride)
  | 0, s => if there goal s = true ∧ s.1 ≠ [] then [s.1] else []
  | k + 1, s => if there goal s = true ∧ s.1 ≠ [] then [s.1] else (kids rs s).flatMap (coll rs goal k)
theorem coll_goal {rs : List Rn} {goal : Int} {k : Nat} {s : Stt} (h : there goal s = true) (h' : s.1 ≠ []) : coll rs goal k s = [s.1] := by
  cases k <;> simp [coll, h, h']
theorem rides_len {rs : List Rn} (h4 : rs.length ≤ 4) (h : ∀ r ∈ rs, r.length ≤ 4) (place : Int) (met : List Int) : (rides rs place met).length ≤ 64 := by
  have h1 : ∀ calls : Rn, calls.length ≤ 4 → ∀ r b, (ridesRB calls place met r b).length ≤ 4 := fun calls hc r b => by
    have := flatMap_len_le (f := fun e => if fitC calls place met b e then [(r, b, e)] else []) (n := 1) (l := List.range' (b + 1) (calls.length - (b + 1))) (fun x _ => by split <;> simp)
    simp only [List.length_range'] at this
    unfold ridesRB
    omega
  have h2 : ∀ calls : Rn, calls.length ≤ 4 → ∀ r, (ridesR calls place met r).length ≤ 16 := fun calls hc r => by
    have := flatMap_len_le (n := 4) (l := List.range calls.length) (fun b _ => h1 calls hc r b)
    simp only [List.length_range] at this
    unfold ridesR
    omega
  have h3 : ((rs.zipIdx).flatMap fun q => ridesR q.1 place met q.2).length ≤ (rs.zipIdx).length * 16 := flatMap_len_le (n := 16) (l := rs.zipIdx) (fun q hq => h2 q.1 (h _ (by
    have := List.mem_zipIdx hq
    simp at this
    exact this.2 ▸ List.getElem_mem _)) q.2)
  simp only [List.length_zipIdx] at h3
  unfold rides
  omega
theorem kids_len {rs : List Rn} (h4 : rs.length ≤ 4) (h : ∀ r ∈ rs, r.length ≤ 4) (s : Stt) : (kids rs s).length ≤ 64 := by
  unfold kids
  rw [List.length_map]
  exact rides_len h4 h _ _
theorem kids_mem {rs : List Rn} {s s' : Stt} (h : s' ∈ kids rs s) : s'.1.length = s.1.length + 1 ∧ s'.2.length = s.2.length + 1 ∧ s'.1 ≠ [] := by
  unfold kids at h
  obtain ⟨d, _, rfl⟩ := List.mem_map.mp h
  simp
/-! ### breadth first -/
theorem perm_split {α β : Type} (p : α → Bool) (f : α → List β) : ∀ l : List α, (l.flatMap f).Perm ((l.filter p).flatMap f ++ (l.filter fun x => !p x).flatMap f)
  | [] => .refl _
  | x :: l => by
    have ih := perm_split p f l
    cases c : p x
    · simp only [List.flatMap_cons, List.filter_cons, c, Bool.false_eq_true, if_false, Bool.not_false, if_true]
      refine (List.Perm.append_left _ ih).trans ?_
      rw [← List.append_assoc, ← List.append_assoc]
      exact List.Perm.append_right _ List.perm_append_comm
    · simp only [List.flatMap_cons, List.filter_cons, c, if_true, Bool.not_true, Bool.false_eq_true, if_false]
      rw [List.append_assoc]
      exact List.Perm.append_left _ ih
def bfsF (goal : Int) (longer : List Stt) : List (List Ride) := (longer.filter (there goal)).map (·.1)
def bfsL (goal : Int) (longer : List Stt) : List Stt := longer.filter fun s => !there goal s
theorem flatMap_single {α β : Type} (f : α → β) : ∀ l : List α, (l.flatMap fun x => [f x]) = l.map f
  | [] => rfl
  | x :: l => by simp [flatMap_single f l]
theorem flatMap_cong {α β : Type} {f g : α → List β} : ∀ {l : List α}, (∀ x ∈ l, f x = g x) → l.flatMap f = l.flatMap g
  | [], _ => rfl
  | x :: l, h => by
    rw [List.flatMap_cons, List.flatMap_cons, h x (List.mem_cons_self ..), flatMap_cong fun y hy => h y (List.mem_cons_of_mem _ hy)]
theorem bfs_step {rs : List Rn} {goal : Int} {k : Nat} {found : List (List Ride)} {line : List Stt} (hl : ∀ s ∈ line, there goal s = false) :
    (found ++ line.flatMap (coll rs goal (k + 1))).Perm ((found ++ bfsF goal (line.flatMap (kids rs))) ++ (bfsL goal (line.flatMap (kids rs))).flatMap (coll rs goal k)) := by
  rw [List.append_assoc]
  refine List.Perm.append_left _ ?_
  have e1 : line.flatMap (coll rs goal (k + 1)) = (line.flatMap (kids rs)).flatMap (coll rs goal k) := by
    rw [List.flatMap_assoc]
    refine flatMap_cong fun s hs => ?_
    rw [coll, if_neg (by simp [hl s hs])]
  rw [e1]
  refine (perm_split (there goal) _ _).trans ?_
  refine List.Perm.append (.of_eq ?_) (.refl _)
  unfold bfsF
  rw [← flatMap_single]
  refine flatMap_cong fun s hs => ?_
  obtain ⟨h1, h2⟩ := List.mem_filter.mp hs
  obtain ⟨s0, _, h3⟩ := List.mem_flatMap.mp h1
  exact coll_goal h2 (kids_mem h3).2.2
theorem coll_nil {rs : List Rn} {goal : Int} {line : List Stt} (hl : ∀ s ∈ line, there goal s = false) : line.flatMap (coll rs goal 0) = [] := by
  rw [List.flatMap_eq_nil_iff]
  intro s hs
  rw [coll, if_neg (by simp [hl s hs])]
/-! ### the order of plans -/
def dkey (d : Ride) : List Int := [d.1, d.2.1, d.2.2]
def pkey (ds : List Ride) : List Int := ds.flatMap dkey
theorem dkey_inj {a b : Ride} (e : dkey a = dkey b) : a = b := by
  obtain ⟨a1, a2, a3⟩ := a
  obtain ⟨b1, b2, b3⟩ := b
  simp [dkey] at e
  simp
  omega
theorem pkey_inj : ∀ a b : List Ride, pkey a = pkey b → a = b
  | [], [], _ => rfl
  | [], _ :: _, e => by simp [pkey, dkey] at e
  | _ :: _, [], e => by simp [pkey, dkey] at e
  | x :: a, y :: b, e => by
    simp only [pkey, List.flatMap_cons] at e
    have h := List.append_inj e rfl
    rw [dkey_inj h.1, pkey_inj a b h.2]
theorem lexI_pkey (x y : Ride) (a b : List Ride) : lexI (pkey (x :: a)) (pkey (y :: b)) = if x = y then lexI (pkey a) (pkey b) else lexI (dkey x) (dkey y) := by
  obtain ⟨x1, x2, x3⟩ := x
  obtain ⟨y1, y2, y3⟩ := y
  simp only [pkey, List.flatMap_cons, dkey, List.cons_append, List.nil_append, lexI]
  have c1 : ((x1 : Int) = y1) ↔ x1 = y1 := by omega
  have c2 : ((x2 : Int) = y2) ↔ x2 = y2 := by omega
  have c3 : ((x3 : Int) = y3) ↔ x3 = y3 := by omega
  by_cases h1 : x1 = y1 <;> by_cases h2 : x2 = y2 <;> by_cases h3 : x3 = y3 <;> simp [h1, h2, h3, c1, c2, c3]
/-! ### good plans -/
structure RideOk (rs : List Rn) (place : Int) (d : Ride) : Prop where
  r : d.1 < rs.length
  b : d.2.1 + 1 < lenOf rs d.1
  be : d.2.1 + 1 ≤ d.2.2
  e : d.2.2 < lenOf rs d.1
  at_ : ∃ x, callAt rs d.1 d.2.1 = some x ∧ x.p = place
def goes (rs : List Rn) : Int → List Ride → Int → Prop
  | p, [], q => p = q
  | p, d :: ds, q => RideOk rs p d ∧ goes rs (placeAt rs d.1 d.2.2) ds q
theorem goes_snoc {rs : List Rn} : ∀ {ds : List Ride} {p q : Int} {d : Ride}, goes rs p ds q → RideOk rs q d → goes rs p (ds ++ [d]) (placeAt rs d.1 d.2.2)
  | [], p, q, d, h, hd => by
    have h : p = q := h
    subst h
    exact ⟨hd, rfl⟩
  | x :: ds, p, q, d, h, hd => ⟨h.1, goes_snoc h.2 hd⟩
theorem rides_mem {rs : List Rn} {place : Int} {met : List Int} {d : Ride} (h : d ∈ rides rs place met) : RideOk rs place d := by
  unfold rides at h
  obtain ⟨⟨calls, r⟩, hq, h⟩ := List.mem_flatMap.mp h
  have hz := List.mem_zipIdx hq
  simp at hz
  unfold ridesR at h
  obtain ⟨b, hb, h⟩ := List.mem_flatMap.mp h
  unfold ridesRB at h
  obtain ⟨e, he, h⟩ := List.mem_flatMap.mp h
  split at h
  · rename_i hc
    simp at h
    subst h
    have hb : b < calls.length := List.mem_range.mp hb
    have he : b + 1 ≤ e ∧ e < b + 1 + (calls.length - (b + 1)) := List.mem_range'_1.mp he
    have g : rs[r]? = some calls := by rw [hz.2]; simp [hz.1]
    have ln : lenOf rs r = calls.length := by simp [lenOf, g]
    unfold fitC at hc
    cases e1 : calls[b]? with
    | none => rw [e1] at hc; cases hc
    | some x =>
      cases e2 : calls[e]? with
      | none => rw [e1, e2] at hc; cases hc
      | some y =>
        rw [e1, e2] at hc
        simp at hc
        exact ⟨hz.1, by simp only [ln]; omega, by simp only; omega, by simp only [ln]; omega, x, by simp [callAt, g, e1], hc.1⟩
  · cases h
structure StOk (rs : List Rn) (place : Int) (s : Stt) : Prop where
  met : s.2 ≠ []
  goes : goes rs place s.1 (here s)
theorem kids_ok {rs : List Rn} {place : Int} {s s' : Stt} (h : StOk rs place s) (hk : s' ∈ kids rs s) : StOk rs place s' := by
  unfold kids at hk
  obtain ⟨d, hd, rfl⟩ := List.mem_map.mp hk
  refine ⟨by simp, ?_⟩
  simp [here]
  exact goes_snoc h.goes (rides_mem hd)
theorem coll_ok {rs : List Rn} {place goal : Int} : ∀ {k : Nat} {s : Stt} {ds : List Ride}, StOk rs place s → ds ∈ coll rs goal k s → goes rs place ds goal ∧ ds ≠ [] ∧ ds.length ≤ s.1.length + k
  | 0, s, ds, h, hd => by
    rw [coll] at hd
    split at hd
    · rename_i c
      simp at hd
      subst hd
      have := h.goes
      simp [there] at c
      rw [c.1] at this
      exact ⟨this, c.2, by omega⟩
    · cases hd
  | k + 1, s, ds, h, hd => by
    rw [coll] at hd
    split at hd
    · rename_i c
      simp at hd
      subst hd
      have := h.goes
      simp [there] at c
      rw [c.1] at this
      exact ⟨this, c.2, by omega⟩
    · obtain ⟨s', hs, hd⟩ := List.mem_flatMap.mp hd
      obtain ⟨a, b, c⟩ := coll_ok (kids_ok h hs) hd
      have := (kids_mem hs).1
      exact ⟨a, b, by omega⟩
structure PlanOk (t : Tb) (place time : Int) (ds : List Ride) : Prop where
  p0 : 0 ≤ place
  p5 : place ≤ 5
  t0 : 0 ≤ time
  t1 : time ≤ 240
  n1 : 1 ≤ ds.length
  n4 : ds.length ≤ 4
  goes : ∃ q, goes t.runs place ds q
/-! ### weights, for the search in depth -/
def wt : Nat → Nat
  | 0 => 1
  | k + 1 => 1 + 64 * wt k
def weight (most : Nat) (l : List Stt) : Nat := (l.map fun s => wt (most - s.1.length)).sum
theorem wt_pos (k : Nat) : 1 ≤ wt k := by cases k <;> simp [wt]
theorem len_weight (most : Nat) : ∀ l : List Stt, l.length ≤ weight most l
  | [] => Nat.zero_le _
  | s :: l => by
    have := len_weight most l
    have := wt_pos (most - s.1.length)
    simp only [weight, List.map_cons, List.sum_cons, List.length_cons] at *
    omega
theorem coll_len {rs : List Rn} (h4 : rs.length ≤ 4) (h : ∀ r ∈ rs, r.length ≤ 4) (goal : Int) : ∀ (k : Nat) (s : Stt), (coll rs goal k s).length ≤ wt k
  | 0, s => by
    rw [coll]
    split <;> simp [wt]
  | k + 1, s => by
    rw [coll]
    split
    · simp [wt]
    · have := flatMap_len_le (n := wt k) (l := kids rs s) (fun x _ => coll_len h4 h goal k x)
      have kl := kids_len h4 h s
      have : (kids rs s).length * wt k ≤ 64 * wt k := Nat.mul_le_mul_right _ kl
      rw [wt]
      omega
theorem rides_range (rs : List Rn) (place : Int) (met : List Int) : rides rs place met = (List.range rs.length).flatMap fun r => ridesR (rs[r]?.getD []) place met r := by
  unfold rides
  have key : ∀ (l : List Rn) (k : Nat) (m : List Rn), m.length = k → ((l.zipIdx k).flatMap fun q => ridesR q.1 place met q.2) = (List.range' k l.length).flatMap fun r => ridesR ((m ++ l)[r]?.getD []) place met r := fun l => by
    induction l with
    | nil => intros; rfl
    | cons a l ih =>
      intro k m hm
      rw [List.zipIdx_cons, List.flatMap_cons, List.length_cons, List.range'_succ, List.flatMap_cons, ih (k + 1) (m ++ [a]) (by simp [hm])]
      congr 1
      · simp [← hm]
      · simp
  have := key rs 0 [] rfl
  rw [List.range_eq_range']
  simpa using this
theorem weight_snoc (most : Nat) (l : List Stt) (s : Stt) : weight most (l ++ [s]) = weight most l + wt (most - s.1.length) := by simp [weight]
theorem weight_kids {rs : List Rn} (h4 : rs.length ≤ 4) (h : ∀ r ∈ rs, r.length ≤ 4) {most : Nat} {s : Stt} (hs : s.1.length < most) (l : List Stt) : weight most (l ++ kids rs s) < weight most (l ++ [s]) := by
  rw [weight_snoc]
  have e : weight most (l ++ kids rs s) = weight most l + weight most (kids rs s) := by simp [weight]
  rw [e]
  have : weight most (kids rs s) ≤ (kids rs s).length * wt (most - s.1.length - 1) := by
    unfold weight
    have key : ∀ m : List Stt, (∀ x ∈ m, x.1.length = s.1.length + 1) → (m.map fun s => wt (most - s.1.length)).sum ≤ m.length * wt (most - s.1.length - 1) := fun m => by
      induction m with
      | nil => simp
      | cons x m ih =>
        intro hm
        have := ih fun y hy => hm y (List.mem_cons_of_mem _ hy)
        have hx := hm x (List.mem_cons_self ..)
        simp only [List.map_cons, List.sum_cons, List.length_cons, Nat.add_mul, hx]
        rw [show most - (s.1.length + 1) = most - s.1.length - 1 by omega]
        omega
    exact key _ fun x hx => (kids_mem hx).1
  have kl := kids_len h4 h s
  have : wt (most - s.1.length) = 1 + 64 * wt (most - s.1.length - 1) := by
    rw [show most - s.1.length = (most - s.1.length - 1) + 1 by omega, wt]
    rfl
  have : (kids rs s).length * wt (most - s.1.length - 1) ≤ 64 * wt (most - s.1.length - 1) := Nat.mul_le_mul_right _ kl
  omega
end M
end
section
set_option Elab.async false
set_option linter.all false
set_option maxRecDepth 100000
/-! IRS: the intermediate forms of the defs, by name. -/
namespace G
open PySem

def n_is_plain : Nat := 185
def n_is_whole : Nat := 196
def n_is_row : Nat := 188
def n_is_call : Nat := 179
def n_is_run : Nat := 189
def n_is_wait : Nat := 195
def n_is_turn : Nat := 194
def n_is_ascending : Nat := 178
def n_are_turns : Nat := 133
def n_is_source : Nat := 191
def n_events_of : Nat := 162
def n_needs_of : Nat := 234
def n_order_of : Nat := 237
def n_is_table : Nat := 192
def n_is_ride : Nat := 187
def n_fits_plan : Nat := 167
def n_need_table : Nat := 233
def n_need_number : Nat := 228
def n_is_plan : Nat := 186
def n_rides_from : Nat := 256
def n_plans_to : Nat := 247
def n_need_all_2 : Nat := 223
def n_all_plans : Nat := 128
def n__law_cell : Nat := 22
def n__law_draws : Nat := 29
def n__law_bag : Nat := 14
def n__law_take : Nat := 102
def n__law_choice : Nat := 24
def n__law_run : Nat := 91
def n__law_events : Nat := 37
def n__law_before : Nat := 15
def n__law_sound : Nat := 96
def n__law_meets : Nat := 68
def n__law_table : Nat := 100
def n__law_with_turns : Nat := 119
def n__law_due_1 : Nat := 31
def n_law_k07 : Nat := 5006
def ir_is_plain : ISs := .cons (.ret (.and (lit [.isi .int (.var 0), .not (.isi .bool (.var 0))]))) (.nil)
def fd_is_plain : FD := ⟨1, 1, denSs ir_is_plain⟩
def ir_is_whole : ISs := .cons (.ret (.and (lit [.call n_is_plain (lit [.var 0]), .chain .le .le (.var 1) (.var 0) (.var 2)]))) (.nil)
def fd_is_whole : FD := ⟨3, 3, denSs ir_is_whole⟩
def ir_is_row : ISs := .cons (.ret (.and (lit [.isi .tuple (.var 0), .chain .le .le (.var 1) (.fn .len (lit [.var 0])) (.var 2)]))) (.nil)
def fd_is_row : FD := ⟨3, 3, denSs ir_is_row⟩
def ir_is_call : ISs := .cons (.ife (.or (.cons (.not (.val (.call n_is_row (lit [.var 0, .int 4, .int 4])))) (.cons (.not (.val (.call n_is_whole (lit [.ix (.var 0) (.int 0), .int 0, .int 5])))) (.one (.not (.val (.call n_is_whole (lit [.ix (.var 0) (.int 3), .int 0, .int 240])))))))) (.cons (.ret (.bl false)) (.nil)) (.nil)) (.cons (.ret (.and (lit [.call n_is_whole (lit [.ix (.var 0) (.int 1), .int 0, .int 240]), .call n_is_whole (lit [.ix (.var 0) (.int 2), .ix (.var 0) (.int 1), .int 240])]))) (.nil))
def fd_is_call : FD := ⟨1, 1, denSs ir_is_call⟩
def ir_is_run : ISs := .cons (.ife (.or (.cons (.not (.val (.call n_is_row (lit [.var 0, .int 2, .int 4])))) (.one (.not (.val (.fn .all (lit [.comp [("call", 1)] (.of (.var 0)) (.name 1) (.yes) (.call n_is_call (lit [.var 1]))]))))))) (.cons (.ret (.bl false)) (.nil)) (.nil)) (.cons (.ife (.or (.cons (.cmp .ne (.ix (.ix (.var 0) (.int 0)) (.int 1)) (.ix (.ix (.var 0) (.int 0)) (.int 2))) (.cons (.cmp .ne (.ix (.ix (.var 0) (.neg 1)) (.int 1)) (.ix (.ix (.var 0) (.neg 1)) (.int 2))) (.one (.cmp .ne (.ix (.ix (.var 0) (.int 0)) (.int 3)) (.int 0)))))) (.cons (.ret (.bl false)) (.nil)) (.nil)) (.cons (.for_ (.zip (.var 0) (.sl10 (.var 0) (.int 1))) (.tup [.name 2, .name 3]) (.cons (.ife (.or (.cons (.cmp .le (.ix (.var 3) (.int 1)) (.ix (.var 2) (.int 2))) (.cons (.cmp .eq (.ix (.var 3) (.int 0)) (.ix (.var 2) (.int 0))) (.one (.cmp .ge (.ix (.var 3) (.int 3)) (.op .sub (.ix (.var 3) (.int 1)) (.ix (.var 2) (.int 2)))))))) (.cons (.ret (.bl false)) (.nil)) (.nil)) (.nil))) (.cons (.ret (.bl true)) (.nil))))
def fd_is_run : FD := ⟨1, 4, denSs ir_is_run⟩
def ir_is_wait : ISs := .cons (.ife (.or (.cons (.not (.val (.call n_is_row (lit [.var 1, .int 5, .int 5])))) (.cons (.not (.val (.call n_is_whole (lit [.ix (.var 1) (.int 0), .int 0, .op .sub (.fn .len (lit [.var 0])) (.int 1)])))) (.one (.not (.val (.call n_is_whole (lit [.ix (.var 1) (.int 2), .int 0, .op .sub (.fn .len (lit [.var 0])) (.int 1)])))))))) (.cons (.ret (.bl false)) (.nil)) (.nil)) (.cons (.ife (.or (.cons (.cmp .eq (.ix (.var 1) (.int 0)) (.ix (.var 1) (.int 2))) (.one (.not (.val (.call n_is_whole (lit [.ix (.var 1) (.int 1), .int 0, .op .sub (.fn .len (lit [.ix (.var 0) (.ix (.var 1) (.int 0))])) (.int 2)]))))))) (.cons (.ret (.bl false)) (.nil)) (.nil)) (.cons (.ife (.or (.cons (.not (.val (.call n_is_whole (lit [.ix (.var 1) (.int 3), .int 1, .op .sub (.fn .len (lit [.ix (.var 0) (.ix (.var 1) (.int 2))])) (.int 1)])))) (.one (.not (.val (.call n_is_whole (lit [.ix (.var 1) (.int 4), .int 0, .int 60]))))))) (.cons (.ret (.bl false)) (.nil)) (.nil)) (.cons (.par2 2 3 (.ix (.ix (.var 0) (.ix (.var 1) (.int 0))) (.ix (.var 1) (.int 1))) (.ix (.ix (.var 0) (.ix (.var 1) (.int 2))) (.ix (.var 1) (.int 3)))) (.cons (.ret (.and (lit [.cmp .eq (.ix (.var 2) (.int 0)) (.ix (.var 3) (.int 0)), .cmp .le (.ix (.var 3) (.int 1)) (.ix (.var 2) (.int 2))]))) (.nil)))))
def fd_is_wait : FD := ⟨2, 4, denSs ir_is_wait⟩
def ir_is_turn : ISs := .cons (.ife (.or (.cons (.not (.val (.call n_is_row (lit [.var 2, .int 3, .int 3])))) (.one (.not (.val (.fn .all (lit [.comp [("part", 3)] (.of (.sl01 (.var 2) (.int 2))) (.name 3) (.yes) (.call n_is_whole (lit [.var 3, .int 0, .op .sub (.fn .len (lit [.var 0])) (.int 1)]))]))))))) (.cons (.ret (.bl false)) (.nil)) (.nil)) (.cons (.ife (.or (.cons (.not (.val (.isi .bool (.ix (.var 2) (.int 2))))) (.one (.cmp .ne (.ix (.ix (.ix (.var 0) (.ix (.var 2) (.int 0))) (.neg 1)) (.int 0)) (.ix (.ix (.ix (.var 0) (.ix (.var 2) (.int 1))) (.int 0)) (.int 0)))))) (.cons (.ret (.bl false)) (.nil)) (.nil)) (.cons (.ife (.and (.cons (.cmp .eq (.ix (.var 2) (.int 0)) (.ix (.var 2) (.int 1))) (.one (.not (.tru (.ix (.var 2) (.int 2))))))) (.cons (.ret (.bl false)) (.nil)) (.nil)) (.cons (.ret (.cmp .le (.ix (.ix (.ix (.var 0) (.ix (.var 2) (.int 0))) (.neg 1)) (.int 1)) (.op .add (.ix (.ix (.ix (.var 0) (.ix (.var 2) (.int 1))) (.int 0)) (.int 2)) (.ife (.tru (.ix (.var 2) (.int 2))) (.var 1) (.int 0))))) (.nil))))
def fd_is_turn : FD := ⟨3, 4, denSs ir_is_turn⟩
def ir_is_ascending : ISs := .cons (.ret (.fn .all (lit [.comp [("one", 1), ("other", 2)] (.zip (.var 0) (.sl10 (.var 0) (.int 1))) (.tup [.name 1, .name 2]) (.yes) (.cmp .lt (.var 1) (.var 2))]))) (.nil)
def fd_is_ascending : FD := ⟨1, 3, denSs ir_is_ascending⟩
def ir_are_turns : ISs := .cons (.ife (.or (.cons (.not (.val (.call n_is_row (lit [.var 2, .int 0, .int 4])))) (.cons (.not (.val (.fn .all (lit [.comp [("turn", 3)] (.of (.var 2)) (.name 3) (.yes) (.call n_is_turn (lit [.var 0, .var 1, .var 3]))])))) (.one (.not (.val (.call n_is_ascending (lit [.var 2])))))))) (.cons (.ret (.bl false)) (.nil)) (.nil)) (.cons (.par2 4 5 (.comp [("turn", 3)] (.of (.var 2)) (.name 3) (.yes) (.ix (.var 3) (.int 0))) (.comp [("turn", 3)] (.of (.var 2)) (.name 3) (.yes) (.ix (.var 3) (.int 1)))) (.cons (.ret (.and (lit [.cmp .eq (.setLen (.var 4)) (.fn .len (lit [.var 2])), .cmp .eq (.setLen (.var 5)) (.fn .len (lit [.var 2]))]))) (.nil)))
def fd_are_turns : FD := ⟨3, 6, denSs ir_are_turns⟩
def ir_is_source : ISs := .cons (.ife (.or (.cons (.not (.val (.call n_is_row (lit [.var 1, .int 3, .int 3])))) (.one (.not (.val (.call n_is_whole (lit [.ix (.var 1) (.int 0), .int 0, .op .sub (.fn .len (lit [.var 0])) (.int 1)]))))))) (.cons (.ret (.bl false)) (.nil)) (.nil)) (.cons (.ife (.or (.cons (.not (.val (.call n_is_whole (lit [.ix (.var 1) (.int 1), .int 0, .op .sub (.fn .len (lit [.ix (.var 0) (.ix (.var 1) (.int 0))])) (.int 2)])))) (.one (.not (.val (.isi .str (.ix (.var 1) (.int 2)))))))) (.cons (.ret (.bl false)) (.nil)) (.nil)) (.cons (.ret (.cmp .isin (.ix (.var 1) (.int 2)) (.tup (lit [.str "once", .str "each"])))) (.nil)))
def fd_is_source : FD := ⟨2, 2, denSs ir_is_source⟩
def ir_events_of : ISs := .cons (.set 1 (.lst (lit []))) (.cons (.for_ (.enum (.ix (.var 0) (.int 0))) (.tup [.name 2, .name 3]) (.cons (.for_ (.rng1 (.fn .len (lit [.var 3]))) (.name 4) (.cons (.set 1 (.op .add (.var 1) (.ife (.cmp .gt (.var 4) (.int 0)) (.lst (lit [.tup (lit [.str "arrive", .var 2, .var 4])])) (.lst (lit []))))) (.cons (.set 1 (.op .add (.var 1) (.ife (.cmp .lt (.var 4) (.op .sub (.fn .len (lit [.var 3])) (.int 1))) (.lst (lit [.tup (lit [.str "depart", .var 2, .var 4])])) (.lst (lit []))))) (.nil)))) (.nil))) (.cons (.ret (.var 1)) (.nil)))
def fd_events_of : FD := ⟨1, 5, denSs ir_events_of⟩
def ir_needs_of : ISs := .cons (.tgt (.tup [.name 2, .name 3, .name 4]) (.var 1)) (.cons (.ife (.cmp .eq (.var 2) (.str "arrive")) (.cons (.ret (.lst (lit [.tup (lit [.str "depart", .var 3, .op .sub (.var 4) (.int 1)])]))) (.nil)) (.nil)) (.cons (.set 5 (.ife (.cmp .gt (.var 4) (.int 0)) (.lst (lit [.tup (lit [.str "arrive", .var 3, .var 4])])) (.lst (lit [])))) (.cons (.for_ (.of (.ix (.var 0) (.int 2))) (.tup [.name 6, .name 7, .name 8]) (.cons (.ife (.and (.cons (.cmp .eq (.var 7) (.var 3)) (.cons (.cmp .eq (.var 4) (.int 0)) (.one (.not (.tru (.var 8))))))) (.cons (.set 5 (.op .add (.var 5) (.lst (lit [.tup (lit [.str "arrive", .var 6, .op .sub (.fn .len (lit [.ix (.ix (.var 0) (.int 0)) (.var 6)])) (.int 1)])])))) (.nil)) (.nil)) (.nil))) (.cons (.ret (.op .add (.var 5) (.comp [("wait", 9)] (.of (.ix (.var 0) (.int 1))) (.name 9) (.cmp .eq (.sl01 (.var 9) (.int 2)) (.tup (lit [.var 3, .var 4]))) (.tup (lit [.str "arrive", .ix (.var 9) (.int 2), .ix (.var 9) (.int 3)]))))) (.nil)))))
def fd_needs_of : FD := ⟨2, 10, denSs ir_needs_of⟩
def ir_order_of : ISs := .cons (.set 1 (.lst (lit []))) (.cons (.set 2 (.call n_events_of (lit [.var 0]))) (.cons (.while_ (.cmp .ne (.var 2) (.lst (lit []))) (.cons (.set 3 (.comp [("event", 4)] (.of (.var 2)) (.name 4) (.val (.fn .all (lit [.comp [("need", 5)] (.of (.call n_needs_of (lit [.var 0, .var 4]))) (.name 5) (.yes) (.cmp .isin (.var 5) (.var 1))]))) (.var 4))) (.cons (.ife (.cmp .eq (.var 3) (.lst (lit []))) (.cons (.ret (.non)) (.nil)) (.nil)) (.cons (.set 1 (.op .add (.var 1) (.var 3))) (.cons (.setC 2 [("event", 4)] (.of (.var 2)) (.name 4) (.cmp .notin (.var 4) (.var 3)) (.var 4)) (.nil)))))) (.cons (.ret (.var 1)) (.nil))))
def fd_order_of : FD := ⟨1, 6, denSs ir_order_of⟩
def ir_is_table : ISs := .cons (.ife (.or (.cons (.not (.val (.call n_is_row (lit [.var 0, .int 5, .int 5])))) (.cons (.not (.val (.call n_is_row (lit [.ix (.var 0) (.int 0), .int 1, .int 4])))) (.one (.not (.val (.fn .all (lit [.comp [("run", 1)] (.of (.ix (.var 0) (.int 0))) (.name 1) (.yes) (.call n_is_run (lit [.var 1]))])))))))) (.cons (.ret (.bl false)) (.nil)) (.nil)) (.cons (.tgt (.tup [.name 2, .name 3, .name 4, .name 5, .name 6]) (.var 0)) (.cons (.ife (.or (.cons (.not (.val (.call n_is_whole (lit [.var 6, .int 60, .int 480])))) (.cons (.not (.val (.call n_is_row (lit [.var 3, .int 0, .int 4])))) (.one (.not (.val (.fn .all (lit [.comp [("wait", 7)] (.of (.var 3)) (.name 7) (.yes) (.call n_is_wait (lit [.var 2, .var 7]))])))))))) (.cons (.ret (.bl false)) (.nil)) (.nil)) (.cons (.ife (.or (.cons (.not (.val (.call n_is_ascending (lit [.var 3])))) (.cons (.not (.val (.call n_are_turns (lit [.var 2, .var 6, .var 4])))) (.one (.not (.val (.call n_is_source (lit [.var 2, .var 5])))))))) (.cons (.ret (.bl false)) (.nil)) (.nil)) (.cons (.ret (.cmp .isnot (.call n_order_of (lit [.var 0])) (.non))) (.nil)))))
def fd_is_table : FD := ⟨1, 8, denSs ir_is_table⟩
def ir_is_ride : ISs := .cons (.ife (.or (.cons (.not (.val (.call n_is_row (lit [.var 2, .int 3, .int 3])))) (.one (.not (.val (.call n_is_whole (lit [.ix (.var 2) (.int 0), .int 0, .op .sub (.fn .len (lit [.ix (.var 0) (.int 0)])) (.int 1)]))))))) (.cons (.ret (.bl false)) (.nil)) (.nil)) (.cons (.set 3 (.ix (.ix (.var 0) (.int 0)) (.ix (.var 2) (.int 0)))) (.cons (.ife (.or (.cons (.not (.val (.call n_is_whole (lit [.ix (.var 2) (.int 1), .int 0, .op .sub (.fn .len (lit [.var 3])) (.int 2)])))) (.one (.not (.val (.call n_is_whole (lit [.ix (.var 2) (.int 2), .op .add (.ix (.var 2) (.int 1)) (.int 1), .op .sub (.fn .len (lit [.var 3])) (.int 1)]))))))) (.cons (.ret (.bl false)) (.nil)) (.nil)) (.cons (.ret (.cmp .eq (.ix (.ix (.var 3) (.ix (.var 2) (.int 1))) (.int 0)) (.var 1))) (.nil))))
def fd_is_ride : FD := ⟨3, 4, denSs ir_is_ride⟩
def ir_fits_plan : ISs := .cons (.ife (.or (.cons (.not (.val (.call n_is_row (lit [.var 1, .int 3, .int 3])))) (.cons (.not (.val (.call n_is_whole (lit [.ix (.var 1) (.int 0), .int 0, .int 5])))) (.one (.not (.val (.call n_is_whole (lit [.ix (.var 1) (.int 1), .int 0, .int 240])))))))) (.cons (.ret (.bl false)) (.nil)) (.nil)) (.cons (.ife (.not (.val (.call n_is_row (lit [.ix (.var 1) (.int 2), .int 1, .int 4])))) (.cons (.ret (.bl false)) (.nil)) (.nil)) (.cons (.set 2 (.ix (.var 1) (.int 0))) (.cons (.for_ (.of (.ix (.var 1) (.int 2))) (.name 3) (.cons (.ife (.not (.val (.call n_is_ride (lit [.var 0, .var 2, .var 3])))) (.cons (.ret (.bl false)) (.nil)) (.nil)) (.cons (.set 2 (.ix (.ix (.ix (.ix (.var 0) (.int 0)) (.ix (.var 3) (.int 0))) (.ix (.var 3) (.int 2))) (.int 0))) (.nil)))) (.cons (.ret (.bl true)) (.nil)))))
def fd_fits_plan : FD := ⟨2, 4, denSs ir_fits_plan⟩
def ir_need_table : ISs := .cons (.ife (.not (.val (.call n_is_table (lit [.var 0])))) (.cons (.raise_ 2) (.nil)) (.nil)) (.nil)
def fd_need_table : FD := ⟨1, 1, denSs ir_need_table⟩
def ir_need_number : ISs := .cons (.ife (.not (.val (.call n_is_whole (lit [.var 0, .var 1, .var 2])))) (.cons (.raise_ 4) (.nil)) (.nil)) (.nil)
def fd_need_number : FD := ⟨3, 3, denSs ir_need_number⟩
def ir_is_plan : ISs := .cons (.expr (.call n_need_table (lit [.var 0]))) (.cons (.ret (.call n_fits_plan (lit [.var 0, .var 1]))) (.nil))
def fd_is_plan : FD := ⟨2, 2, denSs ir_is_plan⟩
def ir_rides_from : ISs := .cons (.set 3 (.newL (lit []))) (.cons (.for_ (.enum (.ix (.var 0) (.int 0))) (.tup [.name 4, .name 5]) (.cons (.for_ (.rng1 (.op .sub (.fn .len (lit [.var 5])) (.int 1))) (.name 6) (.cons (.for_ (.rng2 (.op .add (.var 6) (.int 1)) (.fn .len (lit [.var 5]))) (.name 7) (.cons (.ife (.and (.cons (.cmp .eq (.ix (.ix (.var 5) (.var 6)) (.int 0)) (.var 1)) (.one (.cmp .notin (.ix (.ix (.var 5) (.var 7)) (.int 0)) (.var 2))))) (.cons (.app (.var 3) (.tup (lit [.var 4, .var 6, .var 7]))) (.nil)) (.nil)) (.nil))) (.nil))) (.nil))) (.cons (.retF (.var 3)) (.nil)))
def fd_rides_from : FD := ⟨3, 8, denSs ir_rides_from⟩
def ir_plans_to : ISs := .cons (.par2 5 6 (.lst (lit [])) (.lst (lit [.tup (lit [.tup (lit []), .tup (lit [.var 1])])]))) (.cons (.for_ (.rng1 (.var 4)) (.name 7) (.cons (.set 8 (.lst (lit []))) (.cons (.for_ (.of (.var 6)) (.tup [.name 9, .name 10]) (.cons (.for_ (.of (.call n_rides_from (lit [.var 0, .ix (.var 10) (.neg 1), .var 10]))) (.name 11) (.cons (.set 8 (.op .add (.var 8) (.lst (lit [.tup (lit [.op .add (.var 9) (.tup (lit [.var 11])), .op .add (.var 10) (.tup (lit [.ix (.ix (.ix (.ix (.var 0) (.int 0)) (.ix (.var 11) (.int 0))) (.ix (.var 11) (.int 2))) (.int 0)]))])])))) (.nil))) (.nil))) (.cons (.set 5 (.op .add (.var 5) (.comp [("rides", 9), ("met", 10)] (.of (.var 8)) (.tup [.name 9, .name 10]) (.cmp .eq (.ix (.var 10) (.neg 1)) (.var 3)) (.tup (lit [.var 1, .var 2, .var 9]))))) (.cons (.setC 6 [("rides", 9), ("met", 10)] (.of (.var 8)) (.tup [.name 9, .name 10]) (.cmp .ne (.ix (.var 10) (.neg 1)) (.var 3)) (.tup (lit [.var 9, .var 10]))) (.nil)))))) (.cons (.ret (.fn .sorted (lit [.var 5]))) (.nil)))
def fd_plans_to : FD := ⟨5, 12, denSs ir_plans_to⟩
def ir_need_all_2 : ISs := .cons (.expr (.call n_need_table (lit [.var 0]))) (.cons (.expr (.call n_need_number (lit [.var 1, .int 0, .int 5]))) (.cons (.expr (.call n_need_number (lit [.var 2, .int 0, .int 240]))) (.cons (.expr (.call n_need_number (lit [.var 3, .int 0, .int 5]))) (.cons (.ife (.cmp .eq (.var 3) (.var 1)) (.cons (.raise_ 4) (.nil)) (.nil)) (.cons (.expr (.call n_need_number (lit [.var 4, .int 1, .int 3]))) (.nil))))))
def fd_need_all_2 : FD := ⟨5, 5, denSs ir_need_all_2⟩
def ir_all_plans : ISs := .cons (.expr (.call n_need_all_2 (lit [.var 0, .var 1, .var 2, .var 3, .var 4]))) (.cons (.ret (.call n_plans_to (lit [.var 0, .var 1, .var 2, .var 3, .var 4]))) (.nil))
def fd_all_plans : FD := ⟨5, 5, denSs ir_all_plans⟩
def ir__law_cell : ISs := .cons (.ife (.cmp .lt (.var 1) (.fn .len (lit [.var 0]))) (.cons (.ret (.ix (.var 0) (.var 1))) (.nil)) (.nil)) (.cons (.ife (.cmp .eq (.fn .len (lit [.var 0])) (.int 0)) (.cons (.ret (.op .add (.op .mul (.int 7919) (.var 1)) (.int 101))) (.nil)) (.nil)) (.cons (.ret (.op .add (.op .mod (.ix (.var 0) (.op .mod (.var 1) (.fn .len (lit [.var 0])))) (.int 1000003)) (.op .mul (.int 7919) (.var 1)))) (.nil)))
def fd__law_cell : FD := ⟨2, 2, denSs ir__law_cell⟩
def ir__law_draws : ISs := .cons (.set 4 (.tup (lit [.int 2147483647, .int 2147483629, .int 2147483587, .int 2147483579, .int 2147483563, .int 2147483549, .int 2147483543, .int 2147483497]))) (.cons (.set 5 (.call n__law_cell (lit [.var 0, .var 1]))) (.cons (.set 6 (.int 0)) (.cons (.ife (.cmp .ge (.var 5) (.op .pow (.int 10) (.int 18))) (.cons (.set 6 (.var 5)) (.nil)) (.nil)) (.cons (.set 7 (.newL (lit []))) (.cons (.for_ (.rng1 (.var 2)) (.name 8) (.cons (.set 9 (.op .mul (.op .mod (.var 5) (.ix (.var 4) (.op .mod (.var 8) (.int 8)))) (.op .add (.int 48271) (.op .mul (.op .mul (.int 2) (.var 8)) (.var 8))))) (.cons (.set 9 (.op .add (.op .add (.var 9) (.op .mul (.op .mul (.int 7919) (.op .add (.var 8) (.int 1))) (.op .add (.var 8) (.int 1)))) (.op .mul (.int 104729) (.var 1)))) (.cons (.set 9 (.op .mod (.var 9) (.ix (.var 4) (.op .mod (.op .add (.op .mul (.int 3) (.var 8)) (.var 1)) (.int 8))))) (.cons (.set 9 (.op .mod (.op .mul (.op .mul (.var 9) (.var 9)) (.var 9)) (.ix (.var 4) (.op .mod (.op .add (.var 8) (.int 5)) (.int 8))))) (.cons (.ife (.cmp .gt (.var 6) (.int 0)) (.cons (.set 9 (.var 6)) (.nil)) (.nil)) (.cons (.app (.var 7) (.op .mod (.var 9) (.var 3))) (.cons (.set 6 (.op .fdiv (.var 6) (.var 3))) (.nil))))))))) (.cons (.ret (.var 7)) (.nil)))))))
def fd__law_draws : FD := ⟨4, 10, denSs ir__law_draws⟩
def ir__law_bag : ISs := .cons (.ret (.call n__law_draws (lit [.var 0, .var 1, .int 150, .int 27720]))) (.nil)
def fd__law_bag : FD := ⟨2, 2, denSs ir__law_bag⟩
def ir__law_take : ISs := .cons (.set 2 (.ife (.cmp .ne (.var 0) (.lst (lit []))) (.pop0 (.var 0)) (.int 0))) (.cons (.ret (.op .mod (.fn .int (lit [.var 2])) (.var 1))) (.nil))
def fd__law_take : FD := ⟨2, 3, denSs ir__law_take⟩
def ir__law_choice : ISs := .cons (.ret (.ix (.var 1) (.call n__law_take (lit [.var 0, .fn .len (lit [.var 1])])))) (.nil)
def fd__law_choice : FD := ⟨2, 2, denSs ir__law_choice⟩
def ir__law_run : ISs := .cons (.par3 1 2 3 (.call n__law_take (lit [.var 0, .int 4])) (.call n__law_choice (lit [.var 0, .lst (lit [.int 0, .int 0, .int 5, .int 10, .int 20, .int 30, .int 45])])) (.tup (lit []))) (.cons (.set 3 (.tup (lit [.tup (lit [.var 1, .var 2, .var 2, .int 0])]))) (.cons (.for_ (.rng1 (.op .add (.int 1) (.call n__law_take (lit [.var 0, .int 3])))) (.name 4) (.cons (.set 1 (.op .mod (.op .add (.op .add (.var 1) (.int 1)) (.call n__law_take (lit [.var 0, .int 3]))) (.int 4))) (.cons (.set 5 (.call n__law_choice (lit [.var 0, .lst (lit [.int 4, .int 7, .int 10, .int 15, .int 20])]))) (.cons (.set 6 (.op .add (.var 2) (.var 5))) (.cons (.set 2 (.op .add (.var 6) (.call n__law_choice (lit [.var 0, .lst (lit [.int 0, .int 0, .int 2, .int 5])])))) (.cons (.set 3 (.op .add (.var 3) (.tup (lit [.tup (lit [.var 1, .var 6, .var 2, .call n__law_take (lit [.var 0, .fn .min (lit [.var 5, .int 7])])])])))) (.nil))))))) (.cons (.set 7 (.ix (.var 3) (.neg 1))) (.cons (.ret (.op .add (.sl01 (.var 3) (.neg 1)) (.tup (lit [.op .add (.op .add (.sl01 (.var 7) (.int 2)) (.sl11 (.var 7) (.int 1) (.int 2))) (.sl10 (.var 7) (.int 3))])))) (.nil)))))
def fd__law_run : FD := ⟨1, 8, denSs ir__law_run⟩
def ir__law_events : ISs := .cons (.set 1 (.lst (lit []))) (.cons (.for_ (.rng1 (.fn .len (lit [.ix (.var 0) (.int 0)]))) (.name 2) (.cons (.for_ (.rng1 (.fn .len (lit [.ix (.ix (.var 0) (.int 0)) (.var 2)]))) (.name 3) (.cons (.set 1 (.op .add (.var 1) (.op .mul (.lst (lit [.tup (lit [.str "arrive", .var 2, .var 3])])) (.fn .int (lit [.cmp .gt (.var 3) (.int 0)]))))) (.cons (.set 1 (.op .add (.var 1) (.op .mul (.lst (lit [.tup (lit [.str "depart", .var 2, .var 3])])) (.fn .int (lit [.cmp .lt (.op .add (.var 3) (.int 1)) (.fn .len (lit [.ix (.ix (.var 0) (.int 0)) (.var 2)]))]))))) (.nil)))) (.nil))) (.cons (.ret (.var 1)) (.nil)))
def fd__law_events : FD := ⟨1, 4, denSs ir__law_events⟩
def ir__law_before : ISs := .cons (.tgt (.tup [.name 2, .name 3, .name 4]) (.var 1)) (.cons (.ife (.cmp .eq (.var 2) (.str "arrive")) (.cons (.ret (.lst (lit [.tup (lit [.str "depart", .var 3, .op .sub (.var 4) (.int 1)])]))) (.nil)) (.nil)) (.cons (.set 5 (.thaw .mul (.lst (lit [.tup (lit [.str "arrive", .var 3, .var 4])])) (.fn .int (lit [.cmp .gt (.var 4) (.int 0)])))) (.cons (.for_ (.of (.ix (.var 0) (.int 2))) (.tup [.name 6, .name 7, .name 8]) (.cons (.ife (.and (.cons (.cmp .eq (.var 7) (.var 3)) (.cons (.cmp .eq (.var 4) (.int 0)) (.one (.not (.tru (.var 8))))))) (.cons (.app (.var 5) (.tup (lit [.str "arrive", .var 6, .op .sub (.fn .len (lit [.ix (.ix (.var 0) (.int 0)) (.var 6)])) (.int 1)]))) (.nil)) (.nil)) (.nil))) (.cons (.for_ (.of (.ix (.var 0) (.int 1))) (.name 9) (.cons (.ife (.cmp .eq (.sl01 (.var 9) (.int 2)) (.tup (lit [.var 3, .var 4]))) (.cons (.app (.var 5) (.tup (lit [.str "arrive", .ix (.var 9) (.int 2), .ix (.var 9) (.int 3)]))) (.nil)) (.nil)) (.nil))) (.cons (.retF (.var 5)) (.nil))))))
def fd__law_before : FD := ⟨2, 10, denSs ir__law_before⟩
def ir__law_sound : ISs := .cons (.tgt (.tup [.name 1, .name 2]) (.tup (lit [.newL (lit []), .neg 1]))) (.cons (.while_ (.cmp .lt (.var 2) (.fn .len (lit [.var 1]))) (.cons (.set 2 (.fn .len (lit [.var 1]))) (.cons (.for_ (.of (.call n__law_events (lit [.var 0]))) (.name 3) (.cons (.setC 4 [("one", 5)] (.of (.call n__law_before (lit [.var 0, .var 3]))) (.name 5) (.cmp .notin (.var 5) (.var 1)) (.var 5)) (.cons (.ife (.and (.cons (.cmp .notin (.var 3) (.var 1)) (.one (.cmp .eq (.var 4) (.lst (lit [])))))) (.cons (.app (.var 1) (.var 3)) (.nil)) (.nil)) (.nil)))) (.nil)))) (.cons (.ret (.cmp .eq (.fn .len (lit [.var 1])) (.fn .len (lit [.call n__law_events (lit [.var 0])])))) (.nil)))
def fd__law_sound : FD := ⟨1, 6, denSs ir__law_sound⟩
def ir__law_meets : ISs := .cons (.set 1 (.newL (lit []))) (.cons (.for_ (.rng1 (.fn .len (lit [.var 0]))) (.name 2) (.cons (.for_ (.rng1 (.fn .len (lit [.var 0]))) (.name 3) (.cons (.for_ (.rng1 (.op .sub (.fn .len (lit [.ix (.var 0) (.var 2)])) (.int 1))) (.name 4) (.cons (.for_ (.rng2 (.int 1) (.fn .len (lit [.ix (.var 0) (.var 3)]))) (.name 5) (.cons (.par2 6 7 (.ix (.ix (.var 0) (.var 2)) (.var 4)) (.ix (.ix (.var 0) (.var 3)) (.var 5))) (.cons (.ife (.and (.cons (.cmp .ne (.var 2) (.var 3)) (.cons (.cmp .eq (.ix (.var 6) (.int 0)) (.ix (.var 7) (.int 0))) (.one (.cmp .le (.ix (.var 7) (.int 1)) (.ix (.var 6) (.int 2))))))) (.cons (.app (.var 1) (.tup (lit [.var 2, .var 4, .var 3, .var 5]))) (.nil)) (.nil)) (.nil)))) (.nil))) (.nil))) (.nil))) (.cons (.retF (.var 1)) (.nil)))
def fd__law_meets : FD := ⟨1, 8, denSs ir__law_meets⟩
def ir__law_table : ISs := .cons (.set 1 (.fn .tuple (lit [.comp [("turn", 2)] (.rng1 (.op .add (.int 1) (.call n__law_take (lit [.var 0, .int 4])))) (.name 2) (.yes) (.call n__law_run (lit [.var 0]))]))) (.cons (.set 3 (.call n__law_take (lit [.var 0, .fn .len (lit [.var 1])]))) (.cons (.set 4 (.call n__law_take (lit [.var 0, .op .sub (.fn .len (lit [.ix (.var 1) (.var 3)])) (.int 1)]))) (.cons (.set 3 (.tup (lit [.var 3, .var 4, .call n__law_choice (lit [.var 0, .lst (lit [.str "once", .str "once", .str "each"])])]))) (.cons (.set 5 (.tup (lit [.var 1, .tup (lit []), .tup (lit []), .var 3, .op .add (.call n__law_choice (lit [.var 0, .lst (lit [.int 60, .int 90, .int 160])])) (.op .mul (.int 20) (.call n__law_take (lit [.var 0, .int 3])))]))) (.cons (.set 6 (.call n__law_meets (lit [.var 1]))) (.cons (.for_ (.rng1 (.ife (.cmp .ne (.var 6) (.lst (lit []))) (.call n__law_choice (lit [.var 0, .lst (lit [.int 1, .int 2, .int 3, .int 4, .int 4])])) (.int 0))) (.name 2) (.cons (.set 7 (.op .add (.call n__law_choice (lit [.var 0, .var 6])) (.tup (lit [.call n__law_choice (lit [.var 0, .lst (lit [.int 0, .int 2, .int 5, .int 9, .int 20, .int 45, .int 60])])])))) (.cons (.set 8 (.op .add (.tup (lit [.var 1, .fn .tuple (lit [.setSort (.op .add (.ix (.var 5) (.int 1)) (.tup (lit [.var 7])))])])) (.sl10 (.var 5) (.int 2)))) (.cons (.set 5 (.ife (.val (.call n__law_sound (lit [.var 8]))) (.var 8) (.var 5))) (.nil))))) (.cons (.ret (.call n__law_with_turns (lit [.var 0, .var 5]))) (.nil))))))))
def fd__law_table : FD := ⟨1, 9, denSs ir__law_table⟩
def ir__law_with_turns : ISs := .cons (.par2 2 3 (.ix (.var 1) (.int 0)) (.tup (lit []))) (.cons (.for_ (.rng1 (.int 5)) (.name 4) (.cons (.par2 5 6 (.call n__law_take (lit [.var 0, .fn .len (lit [.var 2])])) (.call n__law_take (lit [.var 0, .fn .len (lit [.var 2])]))) (.cons (.set 7 (.or (lit [.cmp .eq (.var 5) (.var 6), .cmp .eq (.call n__law_take (lit [.var 0, .int 2])) (.int 0)]))) (.cons (.set 8 (.op .add (.ix (.ix (.ix (.var 2) (.var 6)) (.int 0)) (.int 2)) (.op .mul (.ix (.var 1) (.int 4)) (.fn .int (lit [.var 7]))))) (.cons (.set 9 (.and (lit [.cmp .eq (.ix (.ix (.ix (.var 2) (.var 5)) (.neg 1)) (.int 0)) (.ix (.ix (.ix (.var 2) (.var 6)) (.int 0)) (.int 0)), .cmp .lt (.fn .len (lit [.var 3])) (.int 4)]))) (.cons (.ife (.and (.cons (.tru (.var 9)) (.one (.cmp .le (.ix (.ix (.ix (.var 2) (.var 5)) (.neg 1)) (.int 1)) (.var 8))))) (.cons (.ife (.and (.cons (.cmp .notin (.var 5) (.comp [("row", 10)] (.of (.var 3)) (.name 10) (.yes) (.ix (.var 10) (.int 0)))) (.one (.cmp .notin (.var 6) (.comp [("row", 10)] (.of (.var 3)) (.name 10) (.yes) (.ix (.var 10) (.int 1))))))) (.cons (.set 11 (.fn .tuple (lit [.fn .sorted (lit [.op .add (.var 3) (.tup (lit [.tup (lit [.var 5, .var 6, .var 7])]))])]))) (.cons (.set 3 (.ife (.val (.call n__law_sound (lit [.op .add (.op .add (.sl01 (.var 1) (.int 2)) (.tup (lit [.var 11]))) (.sl10 (.var 1) (.int 3))]))) (.var 11) (.var 3))) (.nil))) (.nil)) (.nil)) (.nil)) (.nil))))))) (.cons (.ret (.op .add (.op .add (.sl01 (.var 1) (.int 2)) (.tup (lit [.var 3]))) (.sl10 (.var 1) (.int 3)))) (.nil)))
def fd__law_with_turns : FD := ⟨2, 12, denSs ir__law_with_turns⟩
def ir__law_due_1 : ISs := .cons (.par2 5 6 (.newL (lit [])) (.newL (lit [.tup (lit [.tup (lit []), .lst (lit [.var 1])])]))) (.cons (.while_ (.cmp .ne (.var 6) (.lst (lit []))) (.cons (.tgt (.tup [.name 7, .name 8]) (.pop (.var 6))) (.cons (.ife (.and (.cons (.cmp .eq (.ix (.var 8) (.neg 1)) (.var 3)) (.one (.cmp .ne (.var 7) (.tup (lit [])))))) (.cons (.app (.var 5) (.tup (lit [.var 1, .var 2, .var 7]))) (.nil)) (.cons (.ife (.cmp .lt (.fn .len (lit [.var 7])) (.var 4)) (.cons (.for_ (.rng1 (.fn .len (lit [.ix (.var 0) (.int 0)]))) (.name 9) (.cons (.set 10 (.ix (.ix (.var 0) (.int 0)) (.var 9))) (.cons (.for_ (.rng1 (.fn .len (lit [.var 10]))) (.name 11) (.cons (.for_ (.rng2 (.op .add (.var 11) (.int 1)) (.fn .len (lit [.var 10]))) (.name 12) (.cons (.ife (.and (.cons (.cmp .eq (.ix (.ix (.var 10) (.var 11)) (.int 0)) (.ix (.var 8) (.neg 1))) (.one (.cmp .notin (.ix (.ix (.var 10) (.var 12)) (.int 0)) (.var 8))))) (.cons (.app (.var 6) (.tup (lit [.op .add (.var 7) (.tup (lit [.tup (lit [.var 9, .var 11, .var 12])])), .op .add (.var 8) (.lst (lit [.ix (.ix (.var 10) (.var 12)) (.int 0)]))]))) (.nil)) (.nil)) (.nil))) (.nil))) (.nil)))) (.nil)) (.nil)) (.nil))) (.nil)))) (.cons (.ret (.fn .sorted (lit [.var 5]))) (.nil)))
def fd__law_due_1 : FD := ⟨5, 13, denSs ir__law_due_1⟩
def ir_law_k07 : ISs := .cons (.for_ (.rng1 (.int 7)) (.name 1) (.cons (.set 2 (.call n__law_bag (lit [.var 0, .var 1]))) (.cons (.set 3 (.call n__law_table (lit [.var 2]))) (.cons (.for_ (.rng1 (.int 5)) (.name 4) (.cons (.tgt (.tup [.name 5, .name 6, .name 7]) (.tup (lit [.call n__law_take (lit [.var 2, .int 5]), .call n__law_choice (lit [.var 2, .lst (lit [.int 0, .int 5, .int 30, .int 240])]), .op .add (.int 1) (.call n__law_take (lit [.var 2, .int 3]))]))) (.cons (.set 8 (.op .mod (.op .add (.op .add (.var 5) (.int 1)) (.call n__law_take (lit [.var 2, .int 5]))) (.int 6))) (.cons (.set 9 (.call n_all_plans (lit [.var 3, .var 5, .var 6, .var 8, .var 7]))) (.cons (.ife (.or (.cons (.cmp .ne (.var 9) (.call n__law_due_1 (lit [.var 3, .var 5, .var 6, .var 8, .var 7]))) (.one (.not (.val (.isi .list (.var 9))))))) (.cons (.ret (.bl false)) (.nil)) (.nil)) (.cons (.ife (.cmp .ne (.comp [("plan", 10)] (.of (.var 9)) (.name 10) (.cmp .isnot (.call n_is_plan (lit [.var 3, .var 10])) (.bl true)) (.var 10)) (.lst (lit []))) (.cons (.ret (.bl false)) (.nil)) (.nil)) (.nil))))))) (.cons (.for_ (.of (.lst (lit [.neg 1, .int 6, .bl true, .non]))) (.name 11) (.cons (.set 12 (.newL (lit [.lam (.call n_all_plans (lit [.var 3, .var 11, .non, .non, .non]))]))) (.cons (.app (.var 12) (.lam (.call n_all_plans (lit [.var 3, .int 1, .int 0, .var 11, .non])))) (.cons (.ife (.cmp .ne (.var 12) (.op .mul (.lst (lit [.str "number value"])) (.int 2))) (.cons (.ret (.bl false)) (.nil)) (.nil)) (.nil))))) (.cons (.set 13 (.lst (lit [.tup (lit [.int 1, .neg 1, .int 2, .int 1]), .tup (lit [.int 1, .int 241, .int 2, .int 1]), .tup (lit [.int 1, .int 0, .int 1, .int 1]), .tup (lit [.int 1, .int 0, .int 2, .int 0]), .tup (lit [.int 1, .int 0, .int 2, .int 4]), .tup (lit [.int 1, .int 0, .int 2, .bl true])]))) (.cons (.for_ (.of (.var 13)) (.tup [.name 5, .name 6, .name 8, .name 7]) (.cons (.ife (.cmp .ne (.lam (.call n_all_plans (lit [.var 3, .var 5, .var 6, .var 8, .var 7]))) (.str "number value")) (.cons (.ret (.bl false)) (.nil)) (.nil)) (.nil))) (.cons (.ife (.cmp .ne (.lam (.call n_all_plans (lit [.int 5, .non, .non, .non, .non]))) (.str "table value")) (.cons (.ret (.bl false)) (.nil)) (.nil)) (.nil))))))))) (.cons (.set 14 (.tup (lit [.tup (lit [.tup (lit [.int 0, .int 0, .int 0, .int 0]), .tup (lit [.int 1, .int 20, .int 22, .int 4]), .tup (lit [.int 0, .int 42, .int 42, .int 6])]), .tup (lit [.tup (lit [.int 1, .int 25, .int 25, .int 0]), .tup (lit [.int 3, .int 45, .int 45, .int 5])])]))) (.cons (.set 3 (.tup (lit [.var 14, .tup (lit []), .tup (lit []), .tup (lit [.int 0, .int 0, .str "once"]), .int 60]))) (.cons (.ret (.and (lit [.cmp .eq (.call n_all_plans (lit [.var 3, .int 0, .int 0, .int 3, .int 2])) (.lst (lit [.tup (lit [.int 0, .int 0, .tup (lit [.tup (lit [.int 0, .int 0, .int 1]), .tup (lit [.int 1, .int 0, .int 1])])])])), .cmp .eq (.call n_all_plans (lit [.var 3, .int 0, .int 0, .int 3, .int 1])) (.lst (lit []))]))) (.nil))))
def fd_law_k07 : FD := ⟨1, 15, denSs ir_law_k07⟩
end G
end
section
set_option Elab.async false
set_option linter.all false
set_option maxRecDepth 100000
/-! E0: how the evaluator's terms are reckoned by simp. -/
namespace G
open PySem

/-- not for reckoning by definition -/
theorem nd {α : Sort u} {a b : α} (e : a = b) : a = b := e
/-- what comes behind a statement -/
def andThen (r : SRes) (k : Env → LH → SRes) : SRes := match r with
  | .nx env h => k env h
  | r => r
@[simp] theorem then_nx (env : Env) (h : LH) (k : Env → LH → SRes) : andThen (.nx env h) k = k env h := nd rfl
@[simp] theorem then_ret (v : PV) (h : LH) (k : Env → LH → SRes) : andThen (.ret v h) k = .ret v h := nd rfl
@[simp] theorem then_exc (c : Nat) (h : LH) (k : Env → LH → SRes) : andThen (.exc c h) k = .exc c h := nd rfl
@[simp] theorem then_fail (k : Env → LH → SRes) : andThen .fail k = .fail := nd rfl
/-! continuations by name: simp does not look into them before they are applied -/
def kOpR (op : LH → PV → PV → Option PV) (x : PV) : PV → LH → Res PV := fun y h => lift h (op h x y)
def kOp2 (op : LH → PV → PV → Option PV) (b : CE) (F : FEnv) (env : Env) : PV → LH → Res PV := fun x h => (b F env h).bind (kOpR op x)
def kOp1 (op : LH → PV → Option PV) : PV → LH → Res PV := fun x h => lift h (op h x)
def kL2 (x : PV) : List PV → LH → Res (List PV) := fun xs h => .ok (x :: xs) h
def kL1 (r : CL) (F : FEnv) (env : Env) : PV → LH → Res (List PV) := fun x h => (r F env h).bind (kL2 x)
def kTup  : List PV → LH → Res PV := fun xs h => if sizeOk xs.length then .ok (.tup xs) h else .fail
def kLst  : List PV → LH → Res PV := fun xs h => if sizeOk xs.length then .ok (.lst xs) h else .fail
def kNewL  : List PV → LH → Res PV := fun xs h => if sizeOk xs.length then .ok (.ref h.length) (h ++ [.lst xs]) else .fail
def kTh2 (op : LH → PV → PV → Option PV) (x : PV) : PV → LH → Res PV := fun y h => match op h x y with | some (.lst xs) => .ok (.ref h.length) (h ++ [.lst xs]) | _ => .fail
def kTh1 (op : LH → PV → PV → Option PV) (b : CE) (F : FEnv) (env : Env) : PV → LH → Res PV := fun x h => (b F env h).bind (kTh2 op x)
def kAnd (b : CE) (F : FEnv) (env : Env) : PV → LH → Res PV := fun x h => match x with | .bl true => b F env h | .bl false => .ok (.bl false) h | _ => .fail
def kOr (b : CE) (F : FEnv) (env : Env) : PV → LH → Res PV := fun x h => match x with | .bl true => .ok (.bl true) h | .bl false => b F env h | _ => .fail
def kNot  : PV → LH → Res PV := fun x h => match x with | .bl c => .ok (.bl (!c)) h | _ => .fail
def kCh2 (op : LH → PV → PV → Option PV) (op' : LH → PV → PV → Option PV) (c : CE) (F : FEnv) (env : Env) (x : PV) : PV → LH → Res PV := fun y h => match op h x y with | some (.bl true) => (c F env h).bind (kOpR op' y) | some (.bl false) => .ok (.bl false) h | _ => .fail
def kCh1 (op : LH → PV → PV → Option PV) (op' : LH → PV → PV → Option PV) (b : CE) (c : CE) (F : FEnv) (env : Env) : PV → LH → Res PV := fun x h => (b F env h).bind (kCh2 op op' c F env x)
def kIf (a : CE) (b : CE) (F : FEnv) (env : Env) : Bool → LH → Res PV := fun c h => if c then a F env h else b F env h
def kS00  : PV → LH → Res PV := fun x h => lift h (opSlice h x none none)
def kS10b (x : PV) : PV → LH → Res PV := fun l h => lift h (opSlice h x (some l) none)
def kS10 (l : CE) (F : FEnv) (env : Env) : PV → LH → Res PV := fun x h => (l F env h).bind (kS10b x)
def kS01b (x : PV) : PV → LH → Res PV := fun u h => lift h (opSlice h x none (some u))
def kS01 (u : CE) (F : FEnv) (env : Env) : PV → LH → Res PV := fun x h => (u F env h).bind (kS01b x)
def kS11c (x : PV) (i : Int) : PV → LH → Res PV := fun u h => lift h (opSlice h x (some (.int i)) (some u))
def kS11b (u : CE) (F : FEnv) (env : Env) (x : PV) : PV → LH → Res PV := fun l h => match l with | .int i => (u F env h).bind (kS11c x i) | _ => .fail
def kS11 (l : CE) (u : CE) (F : FEnv) (env : Env) : PV → LH → Res PV := fun x h => (l F env h).bind (kS11b u F env x)
def kFn (f : LH → List PV → Option PV) : List PV → LH → Res PV := fun xs h => lift h (f h xs)
def kVal  : PV → LH → Res Bool := fun x h => match x with | .bl c => .ok c h | _ => .fail
def kTru  : PV → LH → Res Bool := fun x h => match truth h x with | some c => .ok c h | none => .fail
def kTAnd (b : CB) (F : FEnv) (env : Env) : Bool → LH → Res Bool := fun c h => if c then b F env h else .ok false h
def kTOr (b : CB) (F : FEnv) (env : Env) : Bool → LH → Res Bool := fun c h => if c then .ok true h else b F env h
def kTNot  : Bool → LH → Res Bool := fun c h => .ok (!c) h
def kOf  : PV → LH → Res (List PV) := fun x h => match itemsOf x with | some xs => .ok xs h | none => .fail
def kR1  : PV → LH → Res (List PV) := fun x h => match x with | .int j => if small62 j then .ok (intsFrom 0 j.toNat) h else .fail | _ => .fail
def kR2b (x : PV) : PV → LH → Res (List PV) := fun y h => match x, y with | .int i, .int j => if small62 i && small62 j then .ok (intsFrom i (j - i).toNat) h else .fail | _, _ => .fail
def kR2 (b : CE) (F : FEnv) (env : Env) : PV → LH → Res (List PV) := fun x h => (b F env h).bind (kR2b x)
def kEn  : PV → LH → Res (List PV) := fun x h => match x with | .lst xs => .ok (enumFrom 0 xs) h | .tup xs => .ok (enumFrom 0 xs) h | _ => .fail
def kZ2 (x : PV) : PV → LH → Res (List PV) := fun y h => match x, y with | .lst xs, .lst ys => .ok (zipPV xs ys) h | .tup xs, .tup ys => .ok (zipPV xs ys) h | _, _ => .fail
def kZ1 (b : CE) (F : FEnv) (env : Env) : PV → LH → Res (List PV) := fun x h => (b F env h).bind (kZ2 x)
def kComp (own : List Nat) (tg : TP) (t : CB) (e : CE) (F : FEnv) (env : Env) : List PV → LH → Res PV := fun xs h => compL tg t e F (wipeE env own) xs [] h
def kSet (i : Nat) (env : Env) : PV → LH → SRes := fun x h => if i < env.length then .nx (env.set i (some x)) h else .fail
def kTgt (tg : TP) (env : Env) : PV → LH → SRes := fun x h => match tg.put x env with | some env => .nx env h | none => .fail
def kEx (env : Env) : PV → LH → SRes := fun x h => .nx env h
def kRetF  : PV → LH → SRes := fun x h => match freeze x h with | some (y, h) => .ret y h | none => .fail
def kSIf (a : CS) (b : CS) (F : FEnv) (env : Env) : Bool → LH → SRes := fun c h => if c then a F env h else b F env h
def kFor (tg : TP) (b : CS) (F : FEnv) (env : Env) : List PV → LH → SRes := fun xs h => forL tg b F xs env h
def kAp2 (env : Env) (x : PV) : PV → LH → SRes := fun y h => match x with | .ref n => (match h[n]? with | some (.lst xs) => if decide (xs.length < 16777216) then .nx env (h.set n (.lst (xs ++ [y]))) else .fail | _ => .fail) | _ => .fail
def kAp (e : CE) (F : FEnv) (env : Env) : PV → LH → SRes := fun x h => if isLiveL h x then sBind (e F env h) (kAp2 env x) else .fail
def kP0  : PV → LH → Res PV := fun x h => match x with | .ref n => (match h[n]? with | some (.lst (y :: ys)) => .ok y (h.set n (.lst ys)) | _ => .fail) | _ => .fail
def kP  : PV → LH → Res PV := fun x h => match x with | .ref n => (match h[n]? with | some (.lst xs) => (match xs[xs.length - 1]? with | some y => .ok y (h.set n (.lst xs.dropLast)) | none => .fail) | _ => .fail) | _ => .fail
@[simp] theorem kOpR_ap {op : LH → PV → PV → Option PV} {x : PV} {y : PV} {h : LH} : kOpR op x y h = lift h (op h x y) := nd rfl
@[simp] theorem kOp2_ap {op : LH → PV → PV → Option PV} {b : CE} {F : FEnv} {env : Env} {x : PV} {h : LH} : kOp2 op b F env x h = (b F env h).bind (kOpR op x) := nd rfl
@[simp] theorem kOp1_ap {op : LH → PV → Option PV} {x : PV} {h : LH} : kOp1 op x h = lift h (op h x) := nd rfl
@[simp] theorem kL2_ap {x : PV} {xs : List PV} {h : LH} : kL2 x xs h = .ok (x :: xs) h := nd rfl
@[simp] theorem kL1_ap {r : CL} {F : FEnv} {env : Env} {x : PV} {h : LH} : kL1 r F env x h = (r F env h).bind (kL2 x) := nd rfl
@[simp] theorem kTup_ap  {xs : List PV} {h : LH} : kTup  xs h = if sizeOk xs.length then .ok (.tup xs) h else .fail := nd rfl
@[simp] theorem kLst_ap  {xs : List PV} {h : LH} : kLst  xs h = if sizeOk xs.length then .ok (.lst xs) h else .fail := nd rfl
@[simp] theorem kNewL_ap  {xs : List PV} {h : LH} : kNewL  xs h = if sizeOk xs.length then .ok (.ref h.length) (h ++ [.lst xs]) else .fail := nd rfl
@[simp] theorem kTh2_ap {op : LH → PV → PV → Option PV} {x : PV} {y : PV} {h : LH} : kTh2 op x y h = match op h x y with | some (.lst xs) => .ok (.ref h.length) (h ++ [.lst xs]) | _ => .fail := nd rfl
@[simp] theorem kTh1_ap {op : LH → PV → PV → Option PV} {b : CE} {F : FEnv} {env : Env} {x : PV} {h : LH} : kTh1 op b F env x h = (b F env h).bind (kTh2 op x) := nd rfl
@[simp] theorem kAnd_ap {b : CE} {F : FEnv} {env : Env} {x : PV} {h : LH} : kAnd b F env x h = match x with | .bl true => b F env h | .bl false => .ok (.bl false) h | _ => .fail := nd rfl
@[simp] theorem kOr_ap {b : CE} {F : FEnv} {env : Env} {x : PV} {h : LH} : kOr b F env x h = match x with | .bl true => .ok (.bl true) h | .bl false => b F env h | _ => .fail := nd rfl
@[simp] theorem kNot_ap  {x : PV} {h : LH} : kNot  x h = match x with | .bl c => .ok (.bl (!c)) h | _ => .fail := nd rfl
@[simp] theorem kCh2_ap {op : LH → PV → PV → Option PV} {op' : LH → PV → PV → Option PV} {c : CE} {F : FEnv} {env : Env} {x : PV} {y : PV} {h : LH} : kCh2 op op' c F env x y h = match op h x y with | some (.bl true) => (c F env h).bind (kOpR op' y) | some (.bl false) => .ok (.bl false) h | _ => .fail := nd rfl
@[simp] theorem kCh1_ap {op : LH → PV → PV → Option PV} {op' : LH → PV → PV → Option PV} {b : CE} {c : CE} {F : FEnv} {env : Env} {x : PV} {h : LH} : kCh1 op op' b c F env x h = (b F env h).bind (kCh2 op op' c F env x) := nd rfl
@[simp] theorem kIf_ap {a : CE} {b : CE} {F : FEnv} {env : Env} {c : Bool} {h : LH} : kIf a b F env c h = if c then a F env h else b F env h := nd rfl
@[simp] theorem kS00_ap  {x : PV} {h : LH} : kS00  x h = lift h (opSlice h x none none) := nd rfl
@[simp] theorem kS10b_ap {x : PV} {l : PV} {h : LH} : kS10b x l h = lift h (opSlice h x (some l) none) := nd rfl
@[simp] theorem kS10_ap {l : CE} {F : FEnv} {env : Env} {x : PV} {h : LH} : kS10 l F env x h = (l F env h).bind (kS10b x) := nd rfl
@[simp] theorem kS01b_ap {x : PV} {u : PV} {h : LH} : kS01b x u h = lift h (opSlice h x none (some u)) := nd rfl
@[simp] theorem kS01_ap {u : CE} {F : FEnv} {env : Env} {x : PV} {h : LH} : kS01 u F env x h = (u F env h).bind (kS01b x) := nd rfl
@[simp] theorem kS11c_ap {x : PV} {i : Int} {u : PV} {h : LH} : kS11c x i u h = lift h (opSlice h x (some (.int i)) (some u)) := nd rfl
@[simp] theorem kS11b_ap {u : CE} {F : FEnv} {env : Env} {x : PV} {l : PV} {h : LH} : kS11b u F env x l h = match l with | .int i => (u F env h).bind (kS11c x i) | _ => .fail := nd rfl
@[simp] theorem kS11_ap {l : CE} {u : CE} {F : FEnv} {env : Env} {x : PV} {h : LH} : kS11 l u F env x h = (l F env h).bind (kS11b u F env x) := nd rfl
@[simp] theorem kFn_ap {f : LH → List PV → Option PV} {xs : List PV} {h : LH} : kFn f xs h = lift h (f h xs) := nd rfl
@[simp] theorem kVal_ap  {x : PV} {h : LH} : kVal  x h = match x with | .bl c => .ok c h | _ => .fail := nd rfl
@[simp] theorem kTru_ap  {x : PV} {h : LH} : kTru  x h = match truth h x with | some c => .ok c h | none => .fail := nd rfl
@[simp] theorem kTAnd_ap {b : CB} {F : FEnv} {env : Env} {c : Bool} {h : LH} : kTAnd b F env c h = if c then b F env h else .ok false h := nd rfl
@[simp] theorem kTOr_ap {b : CB} {F : FEnv} {env : Env} {c : Bool} {h : LH} : kTOr b F env c h = if c then .ok true h else b F env h := nd rfl
@[simp] theorem kTNot_ap  {c : Bool} {h : LH} : kTNot  c h = .ok (!c) h := nd rfl
@[simp] theorem kOf_ap  {x : PV} {h : LH} : kOf  x h = match itemsOf x with | some xs => .ok xs h | none => .fail := nd rfl
@[simp] theorem kR1_ap  {x : PV} {h : LH} : kR1  x h = match x with | .int j => if small62 j then .ok (intsFrom 0 j.toNat) h else .fail | _ => .fail := nd rfl
@[simp] theorem kR2b_ap {x : PV} {y : PV} {h : LH} : kR2b x y h = match x, y with | .int i, .int j => if small62 i && small62 j then .ok (intsFrom i (j - i).toNat) h else .fail | _, _ => .fail := nd rfl
@[simp] theorem kR2_ap {b : CE} {F : FEnv} {env : Env} {x : PV} {h : LH} : kR2 b F env x h = (b F env h).bind (kR2b x) := nd rfl
@[simp] theorem kEn_ap  {x : PV} {h : LH} : kEn  x h = match x with | .lst xs => .ok (enumFrom 0 xs) h | .tup xs => .ok (enumFrom 0 xs) h | _ => .fail := nd rfl
@[simp] theorem kZ2_ap {x : PV} {y : PV} {h : LH} : kZ2 x y h = match x, y with | .lst xs, .lst ys => .ok (zipPV xs ys) h | .tup xs, .tup ys => .ok (zipPV xs ys) h | _, _ => .fail := nd rfl
@[simp] theorem kZ1_ap {b : CE} {F : FEnv} {env : Env} {x : PV} {h : LH} : kZ1 b F env x h = (b F env h).bind (kZ2 x) := nd rfl
@[simp] theorem kComp_ap {own : List Nat} {tg : TP} {t : CB} {e : CE} {F : FEnv} {env : Env} {xs : List PV} {h : LH} : kComp own tg t e F env xs h = compL tg t e F (wipeE env own) xs [] h := nd rfl
@[simp] theorem kSet_ap {i : Nat} {env : Env} {x : PV} {h : LH} : kSet i env x h = if i < env.length then .nx (env.set i (some x)) h else .fail := nd rfl
@[simp] theorem kTgt_ap {tg : TP} {env : Env} {x : PV} {h : LH} : kTgt tg env x h = match tg.put x env with | some env => .nx env h | none => .fail := nd rfl
@[simp] theorem kEx_ap {env : Env} {x : PV} {h : LH} : kEx env x h = .nx env h := nd rfl
@[simp] theorem kRetF_ap  {x : PV} {h : LH} : kRetF  x h = match freeze x h with | some (y, h) => .ret y h | none => .fail := nd rfl
@[simp] theorem kSIf_ap {a : CS} {b : CS} {F : FEnv} {env : Env} {c : Bool} {h : LH} : kSIf a b F env c h = if c then a F env h else b F env h := nd rfl
@[simp] theorem kFor_ap {tg : TP} {b : CS} {F : FEnv} {env : Env} {xs : List PV} {h : LH} : kFor tg b F env xs h = forL tg b F xs env h := nd rfl
@[simp] theorem kAp2_ap {env : Env} {x : PV} {y : PV} {h : LH} : kAp2 env x y h = match x with | .ref n => (match h[n]? with | some (.lst xs) => if decide (xs.length < 16777216) then .nx env (h.set n (.lst (xs ++ [y]))) else .fail | _ => .fail) | _ => .fail := nd rfl
@[simp] theorem kAp_ap {e : CE} {F : FEnv} {env : Env} {x : PV} {h : LH} : kAp e F env x h = if isLiveL h x then sBind (e F env h) (kAp2 env x) else .fail := nd rfl
@[simp] theorem kP0_ap  {x : PV} {h : LH} : kP0  x h = match x with | .ref n => (match h[n]? with | some (.lst (y :: ys)) => .ok y (h.set n (.lst ys)) | _ => .fail) | _ => .fail := nd rfl
@[simp] theorem kP_ap  {x : PV} {h : LH} : kP  x h = match x with | .ref n => (match h[n]? with | some (.lst xs) => (match xs[xs.length - 1]? with | some y => .ok y (h.set n (.lst xs.dropLast)) | none => .fail) | _ => .fail) | _ => .fail := nd rfl
section
variable (F : FEnv) (env : Env) (h : LH)
@[simp] theorem bind_ok {α β : Type} (a : α) (f : α → LH → Res β) : (Res.ok a h).bind f = f a h := nd rfl
@[simp] theorem bind_exc {α β : Type} (c : Nat) (f : α → LH → Res β) : (Res.exc c h : Res α).bind f = .exc c h := nd rfl
@[simp] theorem bind_fail {α β : Type} (f : α → LH → Res β) : (Res.fail : Res α).bind f = .fail := nd rfl
@[simp] theorem sBind_ok {α : Type} (a : α) (f : α → LH → SRes) : sBind (Res.ok a h) f = f a h := nd rfl
@[simp] theorem sBind_exc {α : Type} (c : Nat) (f : α → LH → SRes) : sBind (Res.exc c h : Res α) f = .exc c h := nd rfl
@[simp] theorem sBind_fail {α : Type} (f : α → LH → SRes) : sBind (Res.fail : Res α) f = .fail := nd rfl
@[simp] theorem lift_some (v : PV) : lift h (some v) = .ok v h := nd rfl
@[simp] theorem lift_none : lift h none = .fail := nd rfl
@[simp] theorem cVar_ap (i : Nat) : cVar i F env h = match env[i]? with
  | some (some v) => .ok v h
  | _ => .fail := nd rfl
@[simp] theorem cC_ap (v : PV) : cC v F env h = .ok v h := nd rfl
@[simp] theorem cOp2_ap (op : LH → PV → PV → Option PV) (a b : CE) : cOp2 op a b F env h = (a F env h).bind (kOp2 op b F env) := nd rfl
@[simp] theorem cOp1_ap (op : LH → PV → Option PV) (a : CE) : cOp1 op a F env h = (a F env h).bind (kOp1 op) := nd rfl
@[simp] theorem lNil_ap : lNil F env h = .ok [] h := nd rfl
@[simp] theorem lCons_ap (a : CE) (r : CL) : lCons a r F env h = (a F env h).bind (kL1 r F env) := nd rfl
@[simp] theorem cTup_ap (as : CL) : cTup as F env h = (as F env h).bind kTup := nd rfl
@[simp] theorem cLst_ap (as : CL) : cLst as F env h = (as F env h).bind kLst := nd rfl
@[simp] theorem cNewL_ap (as : CL) : cNewL as F env h = (as F env h).bind kNewL := nd rfl
@[simp] theorem cThaw2_ap (op : LH → PV → PV → Option PV) (a b : CE) : cThaw2 op a b F env h = (a F env h).bind (kTh1 op b F env) := nd rfl
@[simp] theorem cAnd_ap (a b : CE) : cAnd a b F env h = (a F env h).bind (kAnd b F env) := nd rfl
@[simp] theorem cOr_ap (a b : CE) : cOr a b F env h = (a F env h).bind (kOr b F env) := nd rfl
@[simp] theorem cNot_ap (a : CE) : cNot a F env h = (a F env h).bind kNot := nd rfl
@[simp] theorem cChain_ap (op op' : LH → PV → PV → Option PV) (a b c : CE) : cChain op op' a b c F env h = (a F env h).bind (kCh1 op op' b c F env) := nd rfl
@[simp] theorem cIf_ap (t : CB) (a b : CE) : cIf t a b F env h = (t F env h).bind (kIf a b F env) := nd rfl
@[simp] theorem cSlice00 (a : CE) : cSlice a none none F env h = (a F env h).bind kS00 := nd rfl
@[simp] theorem cSlice10 (a l : CE) : cSlice a (some l) none F env h = (a F env h).bind (kS10 l F env) := nd rfl
@[simp] theorem cSlice01 (a u : CE) : cSlice a none (some u) F env h = (a F env h).bind (kS01 u F env) := nd rfl
@[simp] theorem cSlice11 (a l u : CE) : cSlice a (some l) (some u) F env h = (a F env h).bind (kS11 l u F env) := nd rfl
@[simp] theorem cCall_ap (f : Nat) (as : CL) : cCall f as F env h = (as F env h).bind (F f) := nd rfl
@[simp] theorem cFn_ap (f : LH → List PV → Option PV) (as : CL) : cFn f as F env h = (as F env h).bind (kFn f) := nd rfl
@[simp] theorem tVal_ap (a : CE) : tVal a F env h = (a F env h).bind kVal := nd rfl
@[simp] theorem tTru_ap (a : CE) : tTru a F env h = (a F env h).bind kTru := nd rfl
@[simp] theorem tAnd_ap (a b : CB) : tAnd a b F env h = (a F env h).bind (kTAnd b F env) := nd rfl
@[simp] theorem tOr_ap (a b : CB) : tOr a b F env h = (a F env h).bind (kTOr b F env) := nd rfl
@[simp] theorem tNot_ap (a : CB) : tNot a F env h = (a F env h).bind kTNot := nd rfl
@[simp] theorem tYes_ap : tYes F env h = .ok true h := nd rfl
@[simp] theorem iOf_ap (a : CE) : iOf a F env h = (a F env h).bind kOf := nd rfl
@[simp] theorem iRange1_ap (a : CE) : iRange1 a F env h = (a F env h).bind kR1 := nd rfl
@[simp] theorem iRange2_ap (a b : CE) : iRange2 a b F env h = (a F env h).bind (kR2 b F env) := nd rfl
@[simp] theorem iEnum_ap (a : CE) : iEnum a F env h = (a F env h).bind kEn := nd rfl
@[simp] theorem iZip_ap (a b : CE) : iZip a b F env h = (a F env h).bind (kZ1 b F env) := nd rfl
@[simp] theorem cComp_ap (own : List Nat) (it : CI) (tg : TP) (t : CB) (e : CE) : cComp own it tg t e F env h = (it F env h).bind (kComp own tg t e F env) := nd rfl
@[simp] theorem sSkip_ap : sSkip F env h = .nx env h := nd rfl
@[simp] theorem sSeq_ap (a b : CS) : sSeq a b F env h = andThen (a F env h) (b F) := nd rfl
@[simp] theorem sSet_ap (i : Nat) (a : CE) : sSet i a F env h = sBind (a F env h) (kSet i env) := nd rfl
@[simp] theorem sTgt_ap (tg : TP) (a : CE) : sTgt tg a F env h = sBind (a F env h) (kTgt tg env) := nd rfl
@[simp] theorem sExpr_ap (a : CE) : sExpr a F env h = sBind (a F env h) (kEx env) := nd rfl
@[simp] theorem sFrz_ap (i : Nat) : sFrz i F env h = match env[i]? with
  | some (some v) => match freeze v h with
    | some (y, h) => .nx (env.set i (some y)) h
    | none => .fail
  | _ => .fail := nd rfl
@[simp] theorem sRet_ap (a : CE) : sRet a F env h = sBind (a F env h) SRes.ret := nd rfl
@[simp] theorem sRetF_ap (a : CE) : sRetF a F env h = sBind (a F env h) kRetF := nd rfl
@[simp] theorem sRetN_ap : sRetN F env h = .ret .non h := nd rfl
@[simp] theorem sIf_ap (t : CB) (a b : CS) : sIf t a b F env h = sBind (t F env h) (kSIf a b F env) := nd rfl
@[simp] theorem sFor_ap (it : CI) (tg : TP) (b : CS) : sFor it tg b F env h = sBind (it F env h) (kFor tg b F env) := nd rfl
@[simp] theorem sWhile_ap (t : CB) (b : CS) : sWhile t b F env h = whileL t b F whileFuel env h := nd rfl
@[simp] theorem sRaise_ap (c : Nat) : sRaise c F env h = .exc c h := nd rfl
@[simp] theorem sAppend_ap (a e : CE) : sAppend a e F env h = sBind (a F env h) (kAp e F env) := nd rfl
@[simp] theorem cPop0_ap (a : CE) : cPop0 a F env h = (a F env h).bind kP0 := nd rfl
@[simp] theorem cPop_ap (a : CE) : cPop a F env h = (a F env h).bind kP := nd rfl
@[simp] theorem cLam_ap (c : CE) : cLam c F env h = match c F env h with
  | .ok _ h => .ok (.str "") h
  | .exc k h => match nmE k with
    | some out => .ok (.str out) h
    | none => .fail
  | .fail => .fail := nd rfl
end
/-! ### the forms -/
@[simp] theorem eq_O2_f_0  : O2.f (.add) = opAdd := by first | exact nd rfl | simp only [O2.f]
@[simp] theorem eq_O2_f_1  : O2.f (.sub) = opSub := by first | exact nd rfl | simp only [O2.f]
@[simp] theorem eq_O2_f_2  : O2.f (.mul) = opMul := by first | exact nd rfl | simp only [O2.f]
@[simp] theorem eq_O2_f_3  : O2.f (.fdiv) = opFdiv := by first | exact nd rfl | simp only [O2.f]
@[simp] theorem eq_O2_f_4  : O2.f (.mod) = opMod := by first | exact nd rfl | simp only [O2.f]
@[simp] theorem eq_O2_f_5  : O2.f (.pow) = opPow := by first | exact nd rfl | simp only [O2.f]
@[simp] theorem eq_OC_f_6  : OC.f (.eq) = opEq := by first | exact nd rfl | simp only [OC.f]
@[simp] theorem eq_OC_f_7  : OC.f (.ne) = opNe := by first | exact nd rfl | simp only [OC.f]
@[simp] theorem eq_OC_f_8  : OC.f (.lt) = opLt := by first | exact nd rfl | simp only [OC.f]
@[simp] theorem eq_OC_f_9  : OC.f (.le) = opLe := by first | exact nd rfl | simp only [OC.f]
@[simp] theorem eq_OC_f_10  : OC.f (.gt) = opGt := by first | exact nd rfl | simp only [OC.f]
@[simp] theorem eq_OC_f_11  : OC.f (.ge) = opGe := by first | exact nd rfl | simp only [OC.f]
@[simp] theorem eq_OC_f_12  : OC.f (.isin) = opIn := by first | exact nd rfl | simp only [OC.f]
@[simp] theorem eq_OC_f_13  : OC.f (.notin) = opNotIn := by first | exact nd rfl | simp only [OC.f]
@[simp] theorem eq_OC_f_14  : OC.f (.is_) = opIs := by first | exact nd rfl | simp only [OC.f]
@[simp] theorem eq_OC_f_15  : OC.f (.isnot) = opIsNot := by first | exact nd rfl | simp only [OC.f]
@[simp] theorem eq_FB_f_16  : FB.f (.len) = fLen := by first | exact nd rfl | simp only [FB.f]
@[simp] theorem eq_FB_f_17  : FB.f (.int) = fInt := by first | exact nd rfl | simp only [FB.f]
@[simp] theorem eq_FB_f_18  : FB.f (.bool) = fBool := by first | exact nd rfl | simp only [FB.f]
@[simp] theorem eq_FB_f_19  : FB.f (.abs) = fAbs := by first | exact nd rfl | simp only [FB.f]
@[simp] theorem eq_FB_f_20  : FB.f (.max) = fMax := by first | exact nd rfl | simp only [FB.f]
@[simp] theorem eq_FB_f_21  : FB.f (.min) = fMin := by first | exact nd rfl | simp only [FB.f]
@[simp] theorem eq_FB_f_22  : FB.f (.tuple) = fTuple := by first | exact nd rfl | simp only [FB.f]
@[simp] theorem eq_FB_f_23  : FB.f (.list) = fList := by first | exact nd rfl | simp only [FB.f]
@[simp] theorem eq_FB_f_24  : FB.f (.all) = fAll := by first | exact nd rfl | simp only [FB.f]
@[simp] theorem eq_FB_f_25  : FB.f (.any) = fAny := by first | exact nd rfl | simp only [FB.f]
@[simp] theorem eq_FB_f_26  : FB.f (.sum) = fSum := by first | exact nd rfl | simp only [FB.f]
@[simp] theorem eq_FB_f_27  : FB.f (.sorted) = fSorted := by first | exact nd rfl | simp only [FB.f]
@[simp] theorem eq_lit_28  : lit ([]) = .nil := by first | exact nd rfl | simp only [lit]
@[simp] theorem eq_lit_29 {a} {r} : lit (a :: r) = .cons a (lit r) := by first | exact nd rfl | simp only [lit]
@[simp] theorem eq_den_30 {i} : den (.var i) = cVar i := by first | exact nd rfl | simp only [den]
@[simp] theorem eq_den_31 {i} : den (.int i) = cC (.int i) := by first | exact nd rfl | simp only [den]
@[simp] theorem eq_den_32 {i} : den (.neg i) = cC (.int (-i)) := by first | exact nd rfl | simp only [den]
@[simp] theorem eq_den_33 {b} : den (.bl b) = cC (.bl b) := by first | exact nd rfl | simp only [den]
@[simp] theorem eq_den_34  : den (.non) = cC .non := by first | exact nd rfl | simp only [den]
@[simp] theorem eq_den_35 {s} : den (.str s) = cC (.str s) := by first | exact nd rfl | simp only [den]
@[simp] theorem eq_den_36 {o} {a} {b} : den (.op o a b) = cOp2 o.f (den a) (den b) := by first | exact nd rfl | simp only [den]
@[simp] theorem eq_den_37 {o} {a} {b} : den (.cmp o a b) = cOp2 o.f (den a) (den b) := by first | exact nd rfl | simp only [den]
@[simp] theorem eq_den_38 {o} {p} {a} {b} {c} : den (.chain o p a b c) = cChain o.f p.f (den a) (den b) (den c) := by first | exact nd rfl | simp only [den]
@[simp] theorem eq_den_39 {l} : den (.tup l) = cTup (denL l) := by first | exact nd rfl | simp only [den]
@[simp] theorem eq_den_40 {l} : den (.lst l) = cLst (denL l) := by first | exact nd rfl | simp only [den]
@[simp] theorem eq_den_41 {l} : den (.newL l) = cNewL (denL l) := by first | exact nd rfl | simp only [den]
@[simp] theorem eq_den_42 {o} {a} {b} : den (.thaw o a b) = cThaw2 o.f (den a) (den b) := by first | exact nd rfl | simp only [den]
@[simp] theorem eq_den_43 {l} : den (.and l) = denA l := by first | exact nd rfl | simp only [den]
@[simp] theorem eq_den_44 {l} : den (.or l) = denO l := by first | exact nd rfl | simp only [den]
@[simp] theorem eq_den_45 {a} : den (.not a) = cNot (den a) := by first | exact nd rfl | simp only [den]
@[simp] theorem eq_den_46 {t} {a} {b} : den (.ife t a b) = cIf (denT t) (den a) (den b) := by first | exact nd rfl | simp only [den]
@[simp] theorem eq_den_47 {a} {i} : den (.ix a i) = cOp2 opIx (den a) (den i) := by first | exact nd rfl | simp only [den]
@[simp] theorem eq_den_48 {a} : den (.sl00 a) = cSlice (den a) none none := by first | exact nd rfl | simp only [den]
@[simp] theorem eq_den_49 {a} {b} : den (.sl10 a b) = cSlice (den a) (some (den b)) none := by first | exact nd rfl | simp only [den]
@[simp] theorem eq_den_50 {a} {b} : den (.sl01 a b) = cSlice (den a) none (some (den b)) := by first | exact nd rfl | simp only [den]
@[simp] theorem eq_den_51 {a} {b} {c} : den (.sl11 a b c) = cSlice (den a) (some (den b)) (some (den c)) := by first | exact nd rfl | simp only [den]
@[simp] theorem eq_den_52 {f} {l} : den (.call f l) = cCall f (denL l) := by first | exact nd rfl | simp only [den]
@[simp] theorem eq_den_53 {g} {l} : den (.fn g l) = cFn g.f (denL l) := by first | exact nd rfl | simp only [den]
@[simp] theorem eq_den_54 {t} {a} : den (.isi t a) = cFn (fIs t) (lCons (den a) lNil) := by first | exact nd rfl | simp only [den]
@[simp] theorem eq_den_55 {own} {it} {tg} {t} {e} : den (.comp own it tg t e) = cComp (own.map (·.2)) (denI it) tg (denT t) (den e) := by first | exact nd rfl | simp only [den]
@[simp] theorem eq_den_56 {a} : den (.pop0 a) = cPop0 (den a) := by first | exact nd rfl | simp only [den]
@[simp] theorem eq_den_57 {a} : den (.pop a) = cPop (den a) := by first | exact nd rfl | simp only [den]
@[simp] theorem eq_den_58 {a} : den (.setSort a) = cFn fSetSort (lCons (den a) lNil) := by first | exact nd rfl | simp only [den]
@[simp] theorem eq_den_59 {a} : den (.setLen a) = cFn fSetLen (lCons (den a) lNil) := by first | exact nd rfl | simp only [den]
@[simp] theorem eq_den_60 {a} : den (.lam a) = cLam (den a) := by first | exact nd rfl | simp only [den]
@[simp] theorem eq_den_61 {n} {l} : den (.x n l) = cFn (extra n) (denL l) := by first | exact nd rfl | simp only [den]
@[simp] theorem eq_denL_62  : denL (.nil) = lNil := by first | exact nd rfl | simp only [denL]
@[simp] theorem eq_denL_63 {a} {l} : denL (.cons a l) = lCons (den a) (denL l) := by first | exact nd rfl | simp only [denL]
@[simp] theorem eq_denA_64  : denA (.nil) = cC .non := by first | exact nd rfl | simp only [denA]
@[simp] theorem eq_denA_65 {a} : denA (.cons a .nil) = den a := by first | exact nd rfl | simp only [denA]
@[simp] theorem eq_denA_c {a b : IE} {l : IL} : denA (.cons a (.cons b l)) = cAnd (den a) (denA (.cons b l)) := by rw [denA]; exact fun h => IL.noConfusion h
@[simp] theorem eq_denO_67  : denO (.nil) = cC .non := by first | exact nd rfl | simp only [denO]
@[simp] theorem eq_denO_68 {a} : denO (.cons a .nil) = den a := by first | exact nd rfl | simp only [denO]
@[simp] theorem eq_denO_c {a b : IE} {l : IL} : denO (.cons a (.cons b l)) = cOr (den a) (denO (.cons b l)) := by rw [denO]; exact fun h => IL.noConfusion h
@[simp] theorem eq_denT_70  : denT (.yes) = tYes := by first | exact nd rfl | simp only [denT]
@[simp] theorem eq_denT_71 {a} : denT (.val a) = tVal (den a) := by first | exact nd rfl | simp only [denT]
@[simp] theorem eq_denT_72 {a} : denT (.tru a) = tTru (den a) := by first | exact nd rfl | simp only [denT]
@[simp] theorem eq_denT_73 {o} {a} {b} : denT (.cmp o a b) = tVal (cOp2 o.f (den a) (den b)) := by first | exact nd rfl | simp only [denT]
@[simp] theorem eq_denT_74 {o} {p} {a} {b} {c} : denT (.chain o p a b c) = tVal (cChain o.f p.f (den a) (den b) (den c)) := by first | exact nd rfl | simp only [denT]
@[simp] theorem eq_denT_75 {l} : denT (.and l) = denTA l := by first | exact nd rfl | simp only [denT]
@[simp] theorem eq_denT_76 {l} : denT (.or l) = denTO l := by first | exact nd rfl | simp only [denT]
@[simp] theorem eq_denT_77 {a} : denT (.not a) = tNot (denT a) := by first | exact nd rfl | simp only [denT]
@[simp] theorem eq_denTA_78 {a} : denTA (.one a) = denT a := by first | exact nd rfl | simp only [denTA]
@[simp] theorem eq_denTA_79 {a} {l} : denTA (.cons a l) = tAnd (denT a) (denTA l) := by first | exact nd rfl | simp only [denTA]
@[simp] theorem eq_denTO_80 {a} : denTO (.one a) = denT a := by first | exact nd rfl | simp only [denTO]
@[simp] theorem eq_denTO_81 {a} {l} : denTO (.cons a l) = tOr (denT a) (denTO l) := by first | exact nd rfl | simp only [denTO]
@[simp] theorem eq_denI_82 {a} : denI (.of a) = iOf (den a) := by first | exact nd rfl | simp only [denI]
@[simp] theorem eq_denI_83 {a} : denI (.rng1 a) = iRange1 (den a) := by first | exact nd rfl | simp only [denI]
@[simp] theorem eq_denI_84 {a} {b} : denI (.rng2 a b) = iRange2 (den a) (den b) := by first | exact nd rfl | simp only [denI]
@[simp] theorem eq_denI_85 {a} : denI (.enum a) = iEnum (den a) := by first | exact nd rfl | simp only [denI]
@[simp] theorem eq_denI_86 {a} {b} : denI (.zip a b) = iZip (den a) (den b) := by first | exact nd rfl | simp only [denI]
@[simp] theorem eq_denS_87  : denS (.skip) = sSkip := by first | exact nd rfl | simp only [denS]
@[simp] theorem eq_denS_88 {e} : denS (.expr e) = sExpr (den e) := by first | exact nd rfl | simp only [denS]
@[simp] theorem eq_denS_89 {i} {e} : denS (.set i e) = sTgt (.name i) (den e) := by first | exact nd rfl | simp only [denS]
@[simp] theorem eq_denS_90 {i} {own} {it} {tg} {t} {e} : denS (.setC i own it tg t e) = sTgt (.name i) (cComp (own.map (·.2)) (denI it) tg (denT t) (den e)) := by first | exact nd rfl | simp only [denS]
@[simp] theorem eq_denS_91 {tg} {e} : denS (.tgt tg e) = sTgt tg (den e) := by first | exact nd rfl | simp only [denS]
@[simp] theorem eq_denS_92 {i} {j} {a} {b} : denS (.par2 i j a b) = sTgt (.tup [.name i, .name j]) (cTup (lCons (den a) (lCons (den b) lNil))) := by first | exact nd rfl | simp only [denS]
@[simp] theorem eq_denS_93 {i} {j} {l} {a} {b} {c} : denS (.par3 i j l a b c) = sTgt (.tup [.name i, .name j, .name l]) (cTup (lCons (den a) (lCons (den b) (lCons (den c) lNil)))) := by first | exact nd rfl | simp only [denS]
@[simp] theorem eq_denS_94 {e} {a} {i} : denS (.store e a i) = sStore (den e) (den a) (den i) := by first | exact nd rfl | simp only [denS]
@[simp] theorem eq_denS_95 {a} {e} : denS (.app a e) = sAppend (den a) (den e) := by first | exact nd rfl | simp only [denS]
@[simp] theorem eq_denS_96 {e} : denS (.ret e) = sRet (den e) := by first | exact nd rfl | simp only [denS]
@[simp] theorem eq_denS_97 {e} : denS (.retF e) = sRetF (den e) := by first | exact nd rfl | simp only [denS]
@[simp] theorem eq_denS_98  : denS (.retN) = sRetN := by first | exact nd rfl | simp only [denS]
@[simp] theorem eq_denS_99 {t} {a} {b} : denS (.ife t a b) = sIf (denT t) (denSs a) (denSs b) := by first | exact nd rfl | simp only [denS]
@[simp] theorem eq_denS_100 {it} {tg} {b} : denS (.for_ it tg b) = sFor (denI it) tg (denSs b) := by first | exact nd rfl | simp only [denS]
@[simp] theorem eq_denS_101 {t} {b} : denS (.while_ t b) = sWhile (denT t) (denSs b) := by first | exact nd rfl | simp only [denS]
@[simp] theorem eq_denS_102 {c} : denS (.raise_ c) = sRaise c := by first | exact nd rfl | simp only [denS]
@[simp] theorem eq_denSs_103  : denSs (.nil) = sSkip := by first | exact nd rfl | simp only [denSs]
@[simp] theorem eq_denSs_104 {s} {r} : denSs (.cons s r) = sSeq (denS s) (denSs r) := by first | exact nd rfl | simp only [denSs]
@[simp] theorem eq_denSs_105 {i} {r} : denSs (.frz i r) = sSeq (sFrz i) (denSs r) := by first | exact nd rfl | simp only [denSs]
@[simp] theorem put_name (i : Nat) (v : PV) (env : Env) : TP.put (.name i) v env = if i < env.length then some (env.set i (some v)) else none := by rw [TP.put]
@[simp] theorem put_tup (ts : List TP) (xs : List PV) (env : Env) : TP.put (.tup ts) (.tup xs) env = TP.putL ts xs env := by rw [TP.put]
@[simp] theorem putL_nil (env : Env) : TP.putL [] [] env = some env := by rw [TP.putL]
@[simp] theorem putL_cons (t : TP) (ts : List TP) (x : PV) (xs : List PV) (env : Env) : TP.putL (t :: ts) (x :: xs) env = match TP.put t x env with
    | some env => TP.putL ts xs env
    | none => none := by first | (rw [TP.putL]; rfl) | rw [TP.putL]
@[simp] theorem wipe_nil (env : Env) : wipeE env [] = env := nd rfl
@[simp] theorem wipe_cons (env : Env) (v : Nat) (vs : List Nat) : wipeE env (v :: vs) = (wipeE env vs).set v none := nd rfl
/-! ### calls -/
theorem fenv_call {T : Nat → Option FD} {d f : Nat} {fd : FD} {args : List PV} {h : LH} (hT : T f = some fd) : fenv T (d + 1) f args h = runFD fd (fenv T d) args h := by
  simp [fenv, hT]
/-- a plain end: nothing was made live -/
theorem runFD_ret {fd : FD} {F : FEnv} {args : List PV} {h : LH} {v : PV} (hn : args.length = fd.np) (e : fd.body F (args.map some ++ List.replicate (fd.ns - fd.np) none) h = .ret v h) : runFD fd F args h = .ok v h := by
  unfold runFD
  rw [if_pos hn, e]
  simp [leave]
theorem runFD_nx {fd : FD} {F : FEnv} {args : List PV} {h : LH} {env : Env} (hn : args.length = fd.np) (e : fd.body F (args.map some ++ List.replicate (fd.ns - fd.np) none) h = .nx env h) : runFD fd F args h = .ok .non h := by
  unfold runFD
  rw [if_pos hn, e]
  simp [leave]
theorem runFD_exc {fd : FD} {F : FEnv} {args : List PV} {h : LH} {c : Nat} (hn : args.length = fd.np) (e : fd.body F (args.map some ++ List.replicate (fd.ns - fd.np) none) h = .exc c h) : runFD fd F args h = .exc c h := by
  unfold runFD
  rw [if_pos hn, e]
  simp [leaveX]
/-- a plain value: no reference, no opaque object -/
def PV.fz (v : PV) : Bool := match v with
  | .ref _ => false
  | .ext _ _ => false
  | .scr _ => false
  | .dT _ => false
  | .dK _ => false
  | _ => true
theorem view_fz {h : LH} {v : PV} (e : v.fz = true) : view h v = v := by
  cases v <;> simp [PV.fz] at e <;> rfl
@[simp] theorem view_int (h : LH) (i : Int) : view h (.int i) = .int i := nd rfl
@[simp] theorem view_bl (h : LH) (i : Bool) : view h (.bl i) = .bl i := nd rfl
@[simp] theorem view_non (h : LH) : view h .non = .non := nd rfl
@[simp] theorem view_str (h : LH) (i : Str) : view h (.str i) = .str i := nd rfl
@[simp] theorem view_tup (h : LH) (i : List PV) : view h (.tup i) = .tup i := nd rfl
@[simp] theorem view_lst (h : LH) (i : List PV) : view h (.lst i) = .lst i := nd rfl
/-! ### operators -/
section
variable (h : LH)
@[simp] theorem opAdd_int (i j : Int) : opAdd h (.int i) (.int j) = some (.int (i + j)) := nd rfl
@[simp] theorem opSub_int (i j : Int) : opSub h (.int i) (.int j) = some (.int (i - j)) := nd rfl
theorem opAdd_tup {xs ys : List PV} (e : xs.length + ys.length ≤ 16777216) : opAdd h (.tup xs) (.tup ys) = some (.tup (xs ++ ys)) := by simp [opAdd, sizeOk, e]
theorem opAdd_lst {xs ys : List PV} (e : xs.length + ys.length ≤ 16777216) : opAdd h (.lst xs) (.lst ys) = some (.lst (xs ++ ys)) := by simp [opAdd, sizeOk, e]
/-- a list of moderate length -/
def Sm (xs : List PV) : Prop := xs.length ≤ 8000000
theorem sm_of {xs : List PV} (e : xs.length ≤ 8000000) : Sm xs := e
@[simp] theorem sm_0 : Sm [] := by unfold Sm; exact Nat.zero_le _
@[simp] theorem sm_1 (a : PV) : Sm [a] := by unfold Sm; simp only [List.length_cons, List.length_nil]; omega
@[simp] theorem sm_2 (a b : PV) : Sm [a, b] := by unfold Sm; simp only [List.length_cons, List.length_nil]; omega
@[simp] theorem sm_3 (a b c : PV) : Sm [a, b, c] := by unfold Sm; simp only [List.length_cons, List.length_nil]; omega
@[simp] theorem sm_4 (a b c d : PV) : Sm [a, b, c, d] := by unfold Sm; simp only [List.length_cons, List.length_nil]; omega
theorem opAdd_lk {xs ys : List PV} (e : Sm xs) (e' : Sm ys) : opAdd h (.lst xs) (.lst ys) = some (.lst (xs ++ ys)) := by unfold Sm at e e'; exact opAdd_lst h (by omega)
theorem opAdd_tk {xs ys : List PV} (e : Sm xs) (e' : Sm ys) : opAdd h (.tup xs) (.tup ys) = some (.tup (xs ++ ys)) := by unfold Sm at e e'; exact opAdd_tup h (by omega)
@[simp] theorem opLe_int (i j : Int) : opLe h (.int i) (.int j) = some (.bl (decide (i ≤ j))) := nd rfl
@[simp] theorem opLt_int (i j : Int) : opLt h (.int i) (.int j) = some (.bl (decide (i < j))) := nd rfl
@[simp] theorem opGt_int (i j : Int) : opGt h (.int i) (.int j) = some (.bl (decide (j < i))) := nd rfl
@[simp] theorem opGe_int (i j : Int) : opGe h (.int i) (.int j) = some (.bl (decide (j ≤ i))) := nd rfl
@[simp] theorem opEq_int (i j : Int) : opEq h (.int i) (.int j) = some (.bl (i == j)) := nd rfl
@[simp] theorem opNe_int (i j : Int) : opNe h (.int i) (.int j) = some (.bl (!(i == j))) := nd rfl
@[simp] theorem opEq_str (i j : Str) : opEq h (.str i) (.str j) = some (.bl (decide (i = j))) := nd rfl
@[simp] theorem opNe_str (i j : Str) : opNe h (.str i) (.str j) = some (.bl (!decide (i = j))) := nd rfl
theorem ok_fz {v : PV} (e : v.ok = true) : v.fz = true := by
  cases v <;> simp [PV.ok, PV.data] at e <;> rfl
theorem opEq_ok {a b : PV} (ha : a.ok = true) (hb : b.ok = true) : opEq h a b = some (.bl (pyEq a b)) := by
  unfold opEq
  split
  · simp [pyEq]
  · simp [pyEq]
  · simp [view_fz (ok_fz ha), view_fz (ok_fz hb), ha, hb]
theorem opNe_ok {a b : PV} (ha : a.ok = true) (hb : b.ok = true) : opNe h a b = some (.bl (!pyEq a b)) := by
  unfold opNe
  rw [opEq_ok h ha hb]
theorem opIn_lst {x : PV} {xs : List PV} (hx : x.ok = true) (hs : (PV.lst xs).ok = true) : opIn h x (.lst xs) = some (.bl (inL x xs)) := by
  simp [opIn, view_fz (ok_fz hx), hx, hs]
theorem opIn_tup {x : PV} {xs : List PV} (hx : x.ok = true) (hs : (PV.tup xs).ok = true) : opIn h x (.tup xs) = some (.bl (inL x xs)) := by
  simp [opIn, view_fz (ok_fz hx), hx, hs]
theorem opNotIn_lst {x : PV} {xs : List PV} (hx : x.ok = true) (hs : (PV.lst xs).ok = true) : opNotIn h x (.lst xs) = some (.bl (!inL x xs)) := by
  unfold opNotIn
  rw [opIn_lst h hx hs]
theorem opNotIn_tup {x : PV} {xs : List PV} (hx : x.ok = true) (hs : (PV.tup xs).ok = true) : opNotIn h x (.tup xs) = some (.bl (!inL x xs)) := by
  unfold opNotIn
  rw [opIn_tup h hx hs]
@[simp] theorem opIs_non (a : PV) : opIs h a .non = some (.bl a.isNon) := nd rfl
@[simp] theorem opIsNot_non (a : PV) : opIsNot h a .non = some (.bl (!a.isNon)) := nd rfl
@[simp] theorem opIs_bl (a b : Bool) : opIs h (.bl a) (.bl b) = some (.bl (a == b)) := nd rfl
@[simp] theorem opIsNot_bl (a b : Bool) : opIsNot h (.bl a) (.bl b) = some (.bl (!(a == b))) := nd rfl
@[simp] theorem opIx_tup (xs : List PV) (i : Int) : opIx h (.tup xs) (.int i) = L2.atI xs i := nd rfl
@[simp] theorem opIx_lst (xs : List PV) (i : Int) : opIx h (.lst xs) (.int i) = L2.atI xs i := nd rfl
@[simp] theorem len_tup (xs : List PV) : fLen h [.tup xs] = some (.int xs.length) := nd rfl
@[simp] theorem len_lst (xs : List PV) : fLen h [.lst xs] = some (.int xs.length) := nd rfl
@[simp] theorem items_tup (xs : List PV) : itemsOf (.tup xs) = some xs := nd rfl
@[simp] theorem items_lst (xs : List PV) : itemsOf (.lst xs) = some xs := nd rfl
@[simp] theorem truth_bl (b : Bool) : truth h (.bl b) = some b := nd rfl
@[simp] theorem fInt_int (i : Int) : fInt h [.int i] = some (.int i) := nd rfl
@[simp] theorem fInt_bl (b : Bool) : fInt h [.bl b] = some (.int (if b then 1 else 0)) := nd rfl
@[simp] theorem fTuple_lst (xs : List PV) : fTuple h [.lst xs] = some (.tup xs) := nd rfl
@[simp] theorem fTuple_tup (xs : List PV) : fTuple h [.tup xs] = some (.tup xs) := nd rfl
@[simp] theorem fMin_int (i j : Int) : fMin h [.int i, .int j] = some (.int (if j < i then j else i)) := nd rfl
@[simp] theorem fMax_int (i j : Int) : fMax h [.int i, .int j] = some (.int (if j > i then j else i)) := nd rfl
theorem boolsOf_map {α : Type} (f : α → Bool) : ∀ xs : List α, boolsOf (xs.map fun x => .bl (f x)) = some (xs.map f)
  | [] => rfl
  | x :: xs => by simp [boolsOf, boolsOf_map f xs]
theorem fAll_map {α : Type} (f : α → Bool) (xs : List α) : fAll h [.lst (xs.map fun x => .bl (f x))] = some (.bl (xs.all f)) := by
  simp [fAll, boolsOf_map, List.all_map]
theorem intsOf_map {α : Type} (f : α → Int) : ∀ xs : List α, intsOf (xs.map fun x => .int (f x)) = some (xs.map f)
  | [] => rfl
  | x :: xs => by simp [intsOf, intsOf_map f xs]
end
section
variable {α : Type} (x y z u v : α) (xs : List α)
theorem atI_nn (j : Nat) : L2.atI xs (j : Int) = xs[j]? := by
  unfold L2.atI L2.ixN
  by_cases hj : j < xs.length
  · simp [hj, if_pos (Int.natCast_nonneg j)]
  · rw [List.getElem?_eq_none (by omega)]
    simp [hj, if_pos (Int.natCast_nonneg j)]
@[simp] theorem atI_0 : L2.atI (x :: xs) 0 = some x := by exact atI_nn _ 0
@[simp] theorem atI_1 : L2.atI (x :: y :: xs) 1 = some y := by exact atI_nn _ 1
@[simp] theorem atI_2 : L2.atI (x :: y :: z :: xs) 2 = some z := by exact atI_nn _ 2
@[simp] theorem atI_3 : L2.atI (x :: y :: z :: u :: xs) 3 = some u := by exact atI_nn _ 3
@[simp] theorem atI_4 : L2.atI (x :: y :: z :: u :: v :: xs) 4 = some v := by exact atI_nn _ 4
theorem atI_neg1 : L2.atI xs (-1) = xs[xs.length - 1]? := by
  unfold L2.atI L2.ixN
  cases xs with
  | nil => rfl
  | cons a l =>
    rw [if_neg (by decide), if_pos (by simp only [List.length_cons]; omega)]
    simp only [Option.bind_some]
    congr 1
    omega
end
/-! ### what is walked -/
theorem intsFrom_eq : ∀ (n : Nat) (a : Nat), intsFrom (a : Int) n = (List.range' a n).map fun i => PV.int (i : Nat)
  | 0, _ => rfl
  | n + 1, a => by
    rw [intsFrom, List.range'_succ, List.map_cons, show ((a : Int) + 1) = ((a + 1 : Nat) : Int) by omega, intsFrom_eq n (a + 1)]
theorem intsFrom_0 (n : Nat) : intsFrom 0 n = (List.range n).map fun i => PV.int (i : Nat) := by
  rw [List.range_eq_range']
  exact intsFrom_eq n 0
theorem intsFrom_1 (n : Nat) : intsFrom 1 n = (List.range' 1 n).map fun i => PV.int (i : Nat) := intsFrom_eq n 1
theorem enumFrom_eq {α : Type} (f : α → PV) : ∀ (xs : List α) (k : Nat), enumFrom k (xs.map f) = (xs.zipIdx k).map fun q => PV.tup [.int (q.2 : Nat), f q.1]
  | [], _ => rfl
  | x :: xs, k => by simp [enumFrom, enumFrom_eq f xs (k + 1)]
theorem small_nat {n : Nat} (e : n < 2 ^ 62) : small62 (n : Int) = true := by
  unfold small62
  rw [decide_eq_true (by omega), decide_eq_true (by omega)]
  rfl
theorem small_int {n : Int} (e : -(2 ^ 62) ≤ n) (e' : n < 2 ^ 62) : small62 n = true := by
  unfold small62
  rw [decide_eq_true e, decide_eq_true e']
  rfl
/-! ### data -/
theorem data_L : ∀ {xs : List PV}, (∀ x ∈ xs, x.data = true) → PV.dataL xs = true
  | [], _ => rfl
  | x :: xs, h => by
    rw [PV.dataL, h x (List.mem_cons_self ..), data_L fun y hy => h y (List.mem_cons_of_mem _ hy)]
    rfl
theorem depth_L {n : Nat} : ∀ {xs : List PV}, (∀ x ∈ xs, x.depth ≤ n) → PV.depthL xs ≤ n
  | [], _ => Nat.zero_le _
  | x :: xs, h => by
    rw [PV.depthL]
    exact Nat.max_le.mpr ⟨h x (List.mem_cons_self ..), depth_L fun y hy => h y (List.mem_cons_of_mem _ hy)⟩
theorem ok_lst {xs : List PV} (h : ∀ x ∈ xs, x.data = true ∧ x.depth ≤ 59) : (PV.lst xs).ok = true := by
  unfold PV.ok
  rw [PV.data, PV.depth, data_L fun x hx => (h x hx).1]
  have := depth_L (n := 59) fun x hx => (h x hx).2
  simp
  omega
theorem ok_tup {xs : List PV} (h : ∀ x ∈ xs, x.data = true ∧ x.depth ≤ 59) : (PV.tup xs).ok = true := by
  unfold PV.ok
  rw [PV.data, PV.depth, data_L fun x hx => (h x hx).1]
  have := depth_L (n := 59) fun x hx => (h x hx).2
  simp
  omega
theorem inL_map {α : Type} [DecidableEq α] {f : α → PV} (hf : ∀ x y, pyEq (f x) (f y) = decide (x = y)) (x : α) : ∀ xs : List α, inL (f x) (xs.map f) = decide (x ∈ xs)
  | [] => by simp [inL]
  | y :: xs => by
    have := inL_map hf x xs
    unfold inL at this ⊢
    rw [List.map_cons, List.any_cons, this, hf]
    by_cases c : x = y
    · simp [c]
    · simp [c, Ne.symm c, show ¬ y = x from fun e => c e.symm]
theorem pyEqL_map {α : Type} [DecidableEq α] {f : α → PV} (hf : ∀ x y, pyEq (f x) (f y) = decide (x = y)) : ∀ xs ys : List α, pyEqL (xs.map f) (ys.map f) = decide (xs = ys)
  | [], [] => by simp [pyEqL]
  | [], _ :: _ => by simp [pyEqL]
  | _ :: _, [] => by simp [pyEqL]
  | x :: xs, y :: ys => by
    simp only [List.map_cons, pyEqL, pyEqL_map hf xs ys, hf]
    by_cases c : x = y <;> simp [c]
theorem pyEq_lst {α : Type} [DecidableEq α] {f : α → PV} (hf : ∀ x y, pyEq (f x) (f y) = decide (x = y)) (xs ys : List α) : pyEq (.lst (xs.map f)) (.lst (ys.map f)) = decide (xs = ys) := by
  rw [pyEq]
  exact pyEqL_map hf xs ys
theorem pyEq_tup {α : Type} [DecidableEq α] {f : α → PV} (hf : ∀ x y, pyEq (f x) (f y) = decide (x = y)) (xs ys : List α) : pyEq (.tup (xs.map f)) (.tup (ys.map f)) = decide (xs = ys) := by
  rw [pyEq]
  exact pyEqL_map hf xs ys
@[simp] theorem opEq_tup2 (h : LH) (a b c d : Int) : opEq h (.tup [.int a, .int b]) (.tup [.int c, .int d]) = some (.bl (a == c && b == d)) := by
  rw [opEq_ok h rfl rfl]
  simp [pyEq, pyEqL]
@[simp] theorem opEq_nil (h : LH) : opEq h (.lst []) (.lst []) = some (.bl true) := nd rfl
@[simp] theorem opNe_nil (h : LH) : opNe h (.lst []) (.lst []) = some (.bl false) := nd rfl
@[simp] theorem sizeOk_0 : sizeOk 0 = true := nd rfl
@[simp] theorem sizeOk_1 : sizeOk 1 = true := nd rfl
@[simp] theorem sizeOk_2 : sizeOk 2 = true := nd rfl
@[simp] theorem sizeOk_3 : sizeOk 3 = true := nd rfl
@[simp] theorem sizeOk_4 : sizeOk 4 = true := nd rfl
@[simp] theorem sizeOk_5 : sizeOk 5 = true := nd rfl
@[simp] theorem sizeOk_6 : sizeOk 6 = true := nd rfl
@[simp] theorem sizeOk_7 : sizeOk 7 = true := nd rfl
@[simp] theorem sizeOk_8 : sizeOk 8 = true := nd rfl
/-! ### slices -/
section
variable (h : LH) (xs : List PV) (k m : Nat)
theorem cut_10 : cutL xs (some (k : Int)) none = xs.drop k := by
  unfold cutL
  rw [HT.sIx_nat, HT.sIx_none]
  by_cases c : k ≤ xs.length
  · rw [Nat.min_eq_left c, List.take_of_length_le (by simp)]
  · rw [Nat.min_eq_right (by omega), List.drop_of_length_le (Nat.le_refl _), List.drop_of_length_le (by omega)]
    simp
theorem cut_01 : cutL xs none (some (k : Int)) = xs.take k := by
  unfold cutL
  rw [HT.sIx_nat, HT.sIx_none]
  simp only [List.drop_zero, Nat.sub_zero]
  by_cases c : k ≤ xs.length
  · rw [Nat.min_eq_left c]
  · rw [Nat.min_eq_right (by omega), List.take_of_length_le (Nat.le_refl _), List.take_of_length_le (by omega)]
theorem cut_11 : cutL xs (some (k : Int)) (some (m : Int)) = (xs.drop k).take (m - k) := by
  unfold cutL
  rw [HT.sIx_nat, HT.sIx_nat]
  by_cases c : k ≤ xs.length
  · rw [Nat.min_eq_left c]
    by_cases c2 : m ≤ xs.length
    · rw [Nat.min_eq_left c2]
    · rw [Nat.min_eq_right (by omega), List.take_of_length_le (by simp), List.take_of_length_le (by simp; omega)]
  · rw [show min k xs.length = xs.length by omega, List.drop_of_length_le (Nat.le_refl _), List.drop_of_length_le (by omega)]
    simp
theorem cut_0n : cutL xs none (some (-1)) = xs.dropLast := by
  unfold cutL
  rw [HT.sIx_none]
  show (xs.drop 0).take ((if (-1 : Int) < 0 then ((-1 : Int) + (xs.length : Int)).toNat else min (-1 : Int).toNat xs.length) - 0) = _
  rw [if_pos (by decide), List.dropLast_eq_take]
  simp only [List.drop_zero]
  congr 1
  omega
theorem cut_n0 : cutL xs (some (-1)) none = xs.drop (xs.length - 1) := by
  unfold cutL
  rw [HT.sIx_none]
  show (xs.drop (if (-1 : Int) < 0 then ((-1 : Int) + (xs.length : Int)).toNat else min (-1 : Int).toNat xs.length)).take _ = _
  have e : HT.sIx xs.length 0 (some (-1)) = xs.length - 1 := by
    show (if (-1 : Int) < 0 then ((-1 : Int) + (xs.length : Int)).toNat else min (-1 : Int).toNat xs.length) = _
    rw [if_pos (by decide)]
    omega
  rw [e, if_pos (by decide)]
  have : ((-1 : Int) + (xs.length : Int)).toNat = xs.length - 1 := by omega
  rw [this, List.take_of_length_le (by simp)]
theorem slT_10 : opSlice h (.tup xs) (some (.int (k : Int))) none = some (.tup (xs.drop k)) := by simp [opSlice, partOf, cut_10]
theorem slT_01 : opSlice h (.tup xs) none (some (.int (k : Int))) = some (.tup (xs.take k)) := by simp [opSlice, partOf, cut_01]
theorem slT_11 : opSlice h (.tup xs) (some (.int (k : Int))) (some (.int (m : Int))) = some (.tup ((xs.drop k).take (m - k))) := by simp [opSlice, partOf, cut_11]
theorem slL_10 : opSlice h (.lst xs) (some (.int (k : Int))) none = some (.lst (xs.drop k)) := by simp [opSlice, partOf, cut_10]
theorem slL_01 : opSlice h (.lst xs) none (some (.int (k : Int))) = some (.lst (xs.take k)) := by simp [opSlice, partOf, cut_01]
@[simp] theorem slT_d1 : opSlice h (.tup xs) (some (.int 1)) none = some (.tup (xs.drop 1)) := slT_10 h xs 1
@[simp] theorem slT_d2 : opSlice h (.tup xs) (some (.int 2)) none = some (.tup (xs.drop 2)) := slT_10 h xs 2
@[simp] theorem slT_d3 : opSlice h (.tup xs) (some (.int 3)) none = some (.tup (xs.drop 3)) := slT_10 h xs 3
@[simp] theorem slT_d4 : opSlice h (.tup xs) (some (.int 4)) none = some (.tup (xs.drop 4)) := slT_10 h xs 4
@[simp] theorem slT_t1 : opSlice h (.tup xs) none (some (.int 1)) = some (.tup (xs.take 1)) := slT_01 h xs 1
@[simp] theorem slT_t2 : opSlice h (.tup xs) none (some (.int 2)) = some (.tup (xs.take 2)) := slT_01 h xs 2
@[simp] theorem slT_t3 : opSlice h (.tup xs) none (some (.int 3)) = some (.tup (xs.take 3)) := slT_01 h xs 3
@[simp] theorem slT_t4 : opSlice h (.tup xs) none (some (.int 4)) = some (.tup (xs.take 4)) := slT_01 h xs 4
@[simp] theorem slT_12 : opSlice h (.tup xs) (some (.int 1)) (some (.int 2)) = some (.tup ((xs.drop 1).take 1)) := slT_11 h xs 1 2
@[simp] theorem slT_init : opSlice h (.tup xs) none (some (.int (-1))) = some (.tup xs.dropLast) := by simp [opSlice, partOf, cut_0n]
@[simp] theorem slT_last : opSlice h (.tup xs) (some (.int (-1))) none = some (.tup (xs.drop (xs.length - 1))) := by simp [opSlice, partOf, cut_n0]
@[simp] theorem slL_d1 : opSlice h (.lst xs) (some (.int 1)) none = some (.lst (xs.drop 1)) := slL_10 h xs 1
end
/-! ### loops -/
section
variable {α σ : Type} {F : FEnv}
theorem compL_t {tg : TP} {t : CB} {e : CE} {enc : α → PV} {p : α → Bool} {g : α → PV} {env : Env} {env1 : α → Env} {h : LH} : ∀ {ys : List α} {acc : List PV}, (∀ y ∈ ys, tg.put (enc y) env = some (env1 y)) → (∀ y ∈ ys, t F (env1 y) h = .ok (p y) h) → (∀ y ∈ ys, p y = true → e F (env1 y) h = .ok (g y) h) → acc.length + ys.length ≤ 16777216 →
    compL tg t e F env (ys.map enc) acc h = .ok (.lst (acc ++ (ys.filter p).map g)) h
  | [], acc, _, _, _, _ => by simp [compL]
  | y :: ys, acc, h1, h2, h3, hl => by
    simp only [List.length_cons] at hl
    rw [List.map_cons, compL, h1 y (List.mem_cons_self ..)]
    simp only
    rw [h2 y (List.mem_cons_self ..)]
    cases c : p y with
    | true =>
      simp only
      rw [h3 y (List.mem_cons_self ..) c]
      simp only
      rw [if_pos (by simp; omega), compL_t (fun z hz => h1 z (List.mem_cons_of_mem _ hz)) (fun z hz => h2 z (List.mem_cons_of_mem _ hz)) (fun z hz => h3 z (List.mem_cons_of_mem _ hz)) (by simp; omega)]
      simp [c]
    | false =>
      simp only
      rw [compL_t (fun z hz => h1 z (List.mem_cons_of_mem _ hz)) (fun z hz => h2 z (List.mem_cons_of_mem _ hz)) (fun z hz => h3 z (List.mem_cons_of_mem _ hz)) (by omega)]
      simp [c]
theorem compL_a {tg : TP} {e : CE} {enc : α → PV} {g : α → PV} {env : Env} {env1 : α → Env} {h : LH} {ys : List α} (h1 : ∀ y ∈ ys, tg.put (enc y) env = some (env1 y)) (h3 : ∀ y ∈ ys, e F (env1 y) h = .ok (g y) h) (hl : ys.length ≤ 16777216) :
    compL tg tYes e F env (ys.map enc) [] h = .ok (.lst (ys.map g)) h := by
  have := compL_t (F := F) (t := tYes) (p := fun _ => true) h1 (fun _ _ => rfl) (fun y hy _ => h3 y hy) (acc := []) (by simpa using hl)
  rw [List.filter_eq_self.mpr (fun _ _ => rfl)] at this
  simpa using this
theorem compL_u {tg : TP} {e : CE} {g : PV → PV} {env : Env} {env1 : PV → Env} {h : LH} {ys : List PV} (h1 : ∀ y ∈ ys, tg.put y env = some (env1 y)) (h3 : ∀ y ∈ ys, e F (env1 y) h = .ok (g y) h) (hl : ys.length ≤ 16777216) :
    compL tg tYes e F env ys [] h = .ok (.lst (ys.map g)) h := by
  have := compL_a (F := F) (enc := id) h1 h3 hl
  simpa using this
/-- a comprehension whose items are reckoned with a heap that changes -/
theorem compL_heap {tg : TP} {e : CE} {enc : α → PV} {P : PV → Prop} {I : LH → Prop} {env : Env} : ∀ {ys : List α} {acc : List PV} {h : LH}, (∀ y ∈ ys, ∀ h, I h → ∃ env1 v h', tg.put (enc y) env = some env1 ∧ e F env1 h = .ok v h' ∧ P v ∧ I h') → I h → acc.length + ys.length ≤ 16777216 →
    ∃ vs h', compL tg tYes e F env (ys.map enc) acc h = .ok (.lst (acc ++ vs)) h' ∧ vs.length = ys.length ∧ (∀ v ∈ vs, P v) ∧ I h'
  | [], acc, h, _, i, _ => ⟨[], h, by simp [compL], rfl, (fun v (z : v ∈ []) => absurd z (List.not_mem_nil)), i⟩
  | y :: ys, acc, h, st, i, hl => by
    simp only [List.length_cons] at hl
    obtain ⟨env1, v, h1, e1, e2, p, i1⟩ := st y (List.mem_cons_self ..) h i
    obtain ⟨vs, h2, q1, q2, q3, q4⟩ := compL_heap (ys := ys) (acc := acc ++ [v]) (fun y hy => st y (List.mem_cons_of_mem _ hy)) i1 (by simp; omega)
    refine ⟨v :: vs, h2, ?_, by simp [q2], ?_, q4⟩
    · rw [List.map_cons, compL, e1]
      simp only
      rw [show tYes F env1 h = .ok true h from rfl]
      simp only
      rw [e2]
      simp only
      rw [if_pos (by simp; omega), q1]
      simp
    · intro z hz
      rcases List.mem_cons.mp hz with rfl | hz
      · exact p
      · exact q3 z hz
/-- the statement goes on, and so -/
inductive NX : SRes → (Env → LH → Prop) → Prop
  | mk {env : Env} {h : LH} {Q : Env → LH → Prop} : Q env h → NX (.nx env h) Q
theorem NX.elim {r : SRes} {Q : Env → LH → Prop} (h : NX r Q) : ∃ env h', r = .nx env h' ∧ Q env h' := by
  cases h with
  | mk q => exact ⟨_, _, rfl, q⟩
theorem NX_nx (env : Env) (h : LH) (Q : Env → LH → Prop) : NX (.nx env h) Q = Q env h := by
  apply propext
  constructor
  · intro z
    obtain ⟨_, _, e, q⟩ := z.elim
    cases e
    exact q
  · exact .mk
theorem NX.gen {r : SRes} {Q : Env → LH → Prop} (g : ∀ J : Env → LH → Prop, (∀ env h, Q env h → J env h) → NX r J) : NX r Q := g Q fun _ _ h => h
theorem NX.mono {r : SRes} {Q Q' : Env → LH → Prop} (h : NX r Q) (i : ∀ env h, Q env h → Q' env h) : NX r Q' := by
  obtain ⟨env, h', rfl, q⟩ := h.elim
  exact .mk (i _ _ q)
theorem then_NX {r : SRes} {k : Env → LH → SRes} {Q : Env → LH → Prop} (P : SRes → Prop) (h : NX r Q) (i : ∀ env h, Q env h → P (k env h)) : P (andThen r k) := by
  obtain ⟨env, h', rfl, q⟩ := h.elim
  exact i _ _ q
theorem putK {tg : TP} {v : PV} {env env1 : Env} {r : SRes} (e : tg.put v env = some env1) : (match tg.put v env with
  | none => SRes.fail
  | some _ => r) = r := by rw [e]
/-- a loop that looks at each, and hands back at the first that is not good -/
theorem forL_look {tg : TP} {b : CS} {enc : α → PV} {p : α → Bool} {I : Env → Prop} {v : PV} {h : LH} : ∀ {ys : List α} {env : Env}, (∀ y ∈ ys, ∀ env, I env → ∃ env1, tg.put (enc y) env = some env1 ∧ (p y = true → NX (b F env1 h) fun env' h' => h' = h ∧ I env') ∧ (p y = false → b F env1 h = .ret v h)) → I env →
    (ys.all p = true → NX (forL tg b F (ys.map enc) env h) fun env' h' => h' = h ∧ I env') ∧ (ys.all p = false → forL tg b F (ys.map enc) env h = .ret v h)
  | [], env, _, hI => ⟨fun _ => .mk ⟨rfl, hI⟩, fun e => by cases e⟩
  | y :: ys, env, st, hI => by
    obtain ⟨env1, e1, a, z⟩ := st y (List.mem_cons_self ..) env hI
    rw [List.map_cons, forL, e1]
    simp only [List.all_cons]
    cases c : p y with
    | true =>
      obtain ⟨env', h', e2, rfl, hI'⟩ := (a c).elim
      have := forL_look (fun y hy => st y (List.mem_cons_of_mem _ hy)) hI'
      rw [e2]
      simpa using this
    | false =>
      rw [z c]
      simp
theorem at_look {tg : TP} {b : CS} {enc : α → PV} {v : PV} {h : LH} {k : Env → LH → SRes} {ys : List α} {env : Env} (P : SRes → Prop) (p : α → Bool) (I : Env → Prop)
    (st : ∀ y ∈ ys, ∀ env, I env → ∃ env1, tg.put (enc y) env = some env1 ∧ (p y = true → NX (b F env1 h) fun env' h' => h' = h ∧ I env') ∧ (p y = false → b F env1 h = .ret v h)) (hI : I env)
    (k1 : ys.all p = true → ∀ env', I env' → P (k env' h)) (k2 : ys.all p = false → P (.ret v h)) : P (andThen (forL tg b F (ys.map enc) env h) k) := by
  have lk := forL_look st hI
  cases c : ys.all p with
  | true =>
    obtain ⟨env', h', e, rfl, hI'⟩ := (lk.1 c).elim
    rw [e]
    exact k1 c env' hI'
  | false =>
    rw [lk.2 c]
    exact k2 c
/-- a loop as a fold -/
theorem forL_fold {tg : TP} {b : CS} {enc : α → PV} {R : σ → Env → LH → Prop} {f : σ → α → σ} : ∀ {ys : List α} {s : σ} {env : Env} {h : LH}, (∀ y ∈ ys, ∀ s env h, R s env h → ∃ env1, tg.put (enc y) env = some env1 ∧ NX (b F env1 h) (R (f s y))) → R s env h →
    NX (forL tg b F (ys.map enc) env h) (R (ys.foldl f s))
  | [], s, env, h, _, r => .mk r
  | y :: ys, s, env, h, st, r => by
    obtain ⟨env1, e1, z⟩ := st y (List.mem_cons_self ..) s env h r
    obtain ⟨env', h', e2, r'⟩ := z.elim
    rw [List.map_cons, forL, e1]
    simp only
    rw [e2]
    exact forL_fold (fun y hy => st y (List.mem_cons_of_mem _ hy)) r'
theorem at_fold {tg : TP} {b : CS} {enc : α → PV} {h : LH} {k : Env → LH → SRes} {ys : List α} {env : Env} (P : SRes → Prop) (R : σ → Env → LH → Prop) (f : σ → α → σ) (s : σ)
    (st : ∀ y ∈ ys, ∀ s env h, R s env h → ∃ env1, tg.put (enc y) env = some env1 ∧ NX (b F env1 h) (R (f s y))) (hI : R s env h)
    (k1 : ∀ env' h', R (ys.foldl f s) env' h' → P (k env' h')) : P (andThen (forL tg b F (ys.map enc) env h) k) :=
  then_NX P (forL_fold st hI) k1
/-- a loop that adds to a list -/
theorem forL_col {β : Type} {tg : TP} {b : CS} {enc : α → PV} {g : α → List β} {Q : List β → Env → LH → Prop} {tot : List β} : ∀ {ys : List α} {s : List β} {env : Env} {h : LH}, (∀ y ∈ ys, ∀ s env h, (s ++ g y) <+: tot → Q s env h → ∃ env1, tg.put (enc y) env = some env1 ∧ NX (b F env1 h) (Q (s ++ g y))) → s ++ ys.flatMap g = tot → Q s env h →
    NX (forL tg b F (ys.map enc) env h) (Q tot)
  | [], s, env, h, _, e, r => .mk (by simp at e; exact e ▸ r)
  | y :: ys, s, env, h, st, e, r => by
    rw [List.flatMap_cons, ← List.append_assoc] at e
    obtain ⟨env1, e1, z⟩ := st y (List.mem_cons_self ..) s env h ⟨_, e⟩ r
    obtain ⟨env', h', e2, r'⟩ := z.elim
    rw [List.map_cons, forL, e1]
    simp only
    rw [e2]
    exact forL_col (fun y hy => st y (List.mem_cons_of_mem _ hy)) e r'
theorem at_col {β : Type} {tg : TP} {b : CS} {enc : α → PV} {h : LH} {k : Env → LH → SRes} {ys : List α} {env : Env} (P : SRes → Prop) (g : α → List β) (Q : List β → Env → LH → Prop) (s tot : List β)
    (st : ∀ y ∈ ys, ∀ s env h, (s ++ g y) <+: tot → Q s env h → ∃ env1, tg.put (enc y) env = some env1 ∧ NX (b F env1 h) (Q (s ++ g y))) (e : s ++ ys.flatMap g = tot) (hQ : Q s env h)
    (k1 : ∀ env' h', Q tot env' h' → P (k env' h')) : P (andThen (forL tg b F (ys.map enc) env h) k) :=
  then_NX P (forL_col st e hQ) k1
/-- a loop by an invariant of what is left -/
theorem forL_inv {tg : TP} {b : CS} {enc : α → PV} {I : List α → Env → LH → Prop} : ∀ {ys : List α} {env : Env} {h : LH}, (∀ y ys env h, I (y :: ys) env h → ∃ env1, tg.put (enc y) env = some env1 ∧ NX (b F env1 h) (I ys)) → I ys env h →
    NX (forL tg b F (ys.map enc) env h) (I [])
  | [], env, h, _, r => .mk r
  | y :: ys, env, h, st, r => by
    obtain ⟨env1, e1, z⟩ := st y ys env h r
    obtain ⟨env', h', e2, r'⟩ := z.elim
    rw [List.map_cons, forL, e1]
    simp only
    rw [e2]
    exact forL_inv st r'
theorem at_inv {tg : TP} {b : CS} {enc : α → PV} {h : LH} {k : Env → LH → SRes} {ys : List α} {env : Env} (P : SRes → Prop) (I : List α → Env → LH → Prop)
    (st : ∀ y ys env h, I (y :: ys) env h → ∃ env1, tg.put (enc y) env = some env1 ∧ NX (b F env1 h) (I ys)) (hI : I ys env h)
    (k1 : ∀ env' h', I [] env' h' → P (k env' h')) : P (andThen (forL tg b F (ys.map enc) env h) k) :=
  then_NX P (forL_inv st hI) k1
end
/-! ### while -/
section
variable {F : FEnv}
inductive WStep (t : CB) (b : CS) (F : FEnv) (I : Nat → Env → LH → Prop) (P : SRes → Prop) (n : Nat) (env : Env) (h : LH) : Prop
  | stop (h0 : LH) : t F env h = .ok false h0 → P (.nx env h0) → WStep t b F I P n env h
  | go (h0 : LH) (m : Nat) : t F env h = .ok true h0 → m < n → NX (b F env h0) (I m) → WStep t b F I P n env h
  | ret (h0 : LH) (v : PV) (h1 : LH) : t F env h = .ok true h0 → b F env h0 = .ret v h1 → P (.ret v h1) → WStep t b F I P n env h
theorem whileL_rule {t : CB} {b : CS} {I : Nat → Env → LH → Prop} {P : SRes → Prop} (st : ∀ n env h, I n env h → WStep t b F I P n env h) : ∀ (fuel n : Nat) (env : Env) (h : LH), n < fuel → I n env h → P (whileL t b F fuel env h)
  | 0, _, _, _, l, _ => by omega
  | fuel + 1, n, env, h, l, i => by
    rw [whileL]
    rcases st n env h i with ⟨h0, e, p⟩ | ⟨h0, m, e, hm, z⟩ | ⟨h0, v, h1, e, e2, p⟩
    · rw [e]; simpa using p
    · rw [e]
      obtain ⟨env', h', e2, i'⟩ := z.elim
      simp
      rw [e2]
      exact whileL_rule st fuel m env' h' (by omega) i'
    · rw [e]
      simp
      rw [e2]
      exact p
theorem at_while {t : CB} {b : CS} {k : Env → LH → SRes} {env : Env} {h : LH} (P : SRes → Prop) (I : Nat → Env → LH → Prop) (n : Nat) (hn : n < whileFuel) (hI : I n env h)
    (st : ∀ n env h, I n env h → WStep t b F I (fun r => P (andThen r k)) n env h) : P (andThen (whileL t b F whileFuel env h) k) :=
  whileL_rule (P := fun r => P (andThen r k)) st whileFuel n env h hn hI
end
theorem fIs_fz {t : BT} {h : LH} {v : PV} (e : v.fz = true) : fIs t h [v] = some (.bl (isBT t v)) := by
  cases v <;> simp [PV.fz] at e <;> rfl
end G
end
section
set_option Elab.async false
set_option linter.all false
set_option maxRecDepth 100000
/-! E1: is_plain .. is_run on any data. -/
namespace G
open PySem

/-- the defs of the tables, by number -/
structure TabT (T : Nat → Option FD) : Prop where
  is_plain : T n_is_plain = some fd_is_plain
  is_whole : T n_is_whole = some fd_is_whole
  is_row : T n_is_row = some fd_is_row
  is_call : T n_is_call = some fd_is_call
  is_run : T n_is_run = some fd_is_run
  is_wait : T n_is_wait = some fd_is_wait
  is_turn : T n_is_turn = some fd_is_turn
  is_ascending : T n_is_ascending = some fd_is_ascending
  are_turns : T n_are_turns = some fd_are_turns
  is_source : T n_is_source = some fd_is_source
  events_of : T n_events_of = some fd_events_of
  needs_of : T n_needs_of = some fd_needs_of
  order_of : T n_order_of = some fd_order_of
  is_table : T n_is_table = some fd_is_table

theorem data_fz {v : PV} (e : v.data = true) : v.fz = true := by
  cases v <;> simp [PV.data] at e <;> rfl
theorem dataL_iff : ∀ {xs : List PV}, PV.dataL xs = true ↔ ∀ x ∈ xs, x.data = true
  | [] => by simp [PV.dataL]
  | x :: xs => by simp [PV.dataL, dataL_iff]
theorem data_tup {xs : List PV} : (PV.tup xs).data = true ↔ ∀ x ∈ xs, x.data = true := by rw [PV.data, dataL_iff]
theorem data_lst {xs : List PV} : (PV.lst xs).data = true ↔ ∀ x ∈ xs, x.data = true := by rw [PV.data, dataL_iff]
def plainB : PV → Bool
  | .int _ => true
  | _ => false
def wholeB (v : PV) (lo hi : Int) : Bool := match v with
  | .int i => decide (lo ≤ i) && decide (i ≤ hi)
  | _ => false
def rowB (v : PV) (lo hi : Int) : Bool := match v with
  | .tup xs => decide (lo ≤ xs.length) && decide ((xs.length : Int) ≤ hi)
  | _ => false
theorem len3 {α : Type} {xs : List α} (e : xs.length = 3) : ∃ a b c, xs = [a, b, c] := by
  match xs, e with
  | [a, b, c], _ => exact ⟨a, b, c, rfl⟩
theorem len4 {α : Type} {xs : List α} (e : xs.length = 4) : ∃ a b c d, xs = [a, b, c, d] := by
  match xs, e with
  | [a, b, c, d], _ => exact ⟨a, b, c, d, rfl⟩
theorem len5 {α : Type} {xs : List α} (e : xs.length = 5) : ∃ a b c d f, xs = [a, b, c, d, f] := by
  match xs, e with
  | [a, b, c, d, f], _ => exact ⟨a, b, c, d, f, rfl⟩
/-- a row of so many items -/
theorem rowB_eq {v : PV} {n : Nat} : rowB v n n = true ↔ ∃ xs, v = .tup xs ∧ xs.length = n := by
  unfold rowB
  split
  · simp; omega
  · rename_i h
    simp
    exact fun xs e => absurd e (h xs)
section
variable {T : Nat → Option FD} (hT : TabT T) {h : LH}
include hT
theorem ev_is_plain {v : PV} (hv : v.fz = true) (d : Nat) : fenv T (d + 1) n_is_plain [v] h = .ok (.bl (plainB v)) h := by
  rw [fenv_call hT.is_plain]
  apply runFD_ret rfl
  cases v <;> simp [PV.fz] at hv <;> simp [fd_is_plain, ir_is_plain, fIs, isBT, plainB]
theorem ev_is_whole {v : PV} {lo hi : Int} (hv : v.fz = true) (d : Nat) : fenv T (d + 2) n_is_whole [v, .int lo, .int hi] h = .ok (.bl (wholeB v lo hi)) h := by
  rw [fenv_call hT.is_whole]
  apply runFD_ret rfl
  simp [fd_is_whole, ir_is_whole, ev_is_plain hT hv]
  cases v <;> simp [plainB, wholeB]
  rename_i i
  by_cases c : lo ≤ i <;> simp [c]
theorem ev_is_row {v : PV} {lo hi : Int} (hv : v.fz = true) (d : Nat) : fenv T (d + 1) n_is_row [v, .int lo, .int hi] h = .ok (.bl (rowB v lo hi)) h := by
  rw [fenv_call hT.is_row]
  apply runFD_ret rfl
  cases v <;> simp [PV.fz] at hv <;> simp [fd_is_row, ir_is_row, fIs, isBT, rowB]
  rename_i xs
  by_cases c : lo ≤ xs.length <;> simp [c]
def callB (v : PV) : Bool := match v with
  | .tup [p, a, d, s] => wholeB p 0 5 && wholeB s 0 240 && (wholeB a 0 240 && match a with
    | .int a => wholeB d a 240
    | _ => false)
  | _ => false
theorem ev_is_call {v : PV} (hv : v.data = true) (d : Nat) : fenv T (d + 3) n_is_call [v] h = .ok (.bl (callB v)) h := by
  rw [fenv_call hT.is_call]
  apply runFD_ret rfl
  simp [fd_is_call, ir_is_call, ev_is_row hT (data_fz hv)]
  cases c : rowB v 4 4
  · have e : callB v = false := by
      unfold callB
      split
      · simp [rowB] at c
      · rfl
    simp [e]
  · obtain ⟨xs, rfl, hl⟩ := rowB_eq.mp c
    obtain ⟨p, a, d, s, rfl⟩ := len4 hl
    rw [data_tup] at hv
    have hp := data_fz (hv p (by simp))
    have ha := data_fz (hv a (by simp))
    have hd := data_fz (hv d (by simp))
    have hs := data_fz (hv s (by simp))
    simp [ev_is_whole hT hp, ev_is_whole hT hs, ev_is_whole hT ha, callB]
    cases c1 : wholeB p 0 5 <;> simp
    cases c2 : wholeB s 0 240 <;> simp
    cases c3 : wholeB a 0 240 <;> simp [ev_is_whole hT ha, c3]
    cases a <;> simp [wholeB] at c3
    simp [ev_is_whole hT hd]
end
/-! ### tables as values -/
open M
def encC (c : Call) : PV := .tup [.int c.p, .int c.a, .int c.d, .int c.s]
def encR (r : Rn) : PV := .tup (r.map encC)
theorem encC_inj {x y : Call} (e : encC x = encC y) : x = y := by
  cases x; cases y
  simp [encC] at e
  simp [e]
theorem map_inj {α β : Type} {f : α → β} (hf : ∀ x y, f x = f y → x = y) : ∀ {xs ys : List α}, xs.map f = ys.map f → xs = ys
  | [], [], _ => rfl
  | [], _ :: _, e => by simp at e
  | _ :: _, [], e => by simp at e
  | x :: xs, y :: ys, e => by
    simp only [List.map_cons, List.cons.injEq] at e
    rw [hf x y e.1, map_inj hf e.2]
theorem encR_inj {x y : Rn} (e : encR x = encR y) : x = y := by
  unfold encR at e; injection e with e
  exact map_inj (fun _ _ => encC_inj) e
theorem callB_iff {v : PV} : callB v = true ↔ ∃ c, v = encC c ∧ callOk c := by
  constructor
  · intro e
    unfold callB at e
    split at e
    · rename_i p a d s
      cases p <;> simp [wholeB] at e
      cases s <;> simp at e
      cases a <;> simp at e
      cases d <;> simp at e
      rename_i p s a d
      refine ⟨⟨p, a, d, s⟩, rfl, ?_⟩
      unfold callOk
      simp only
      omega
    · cases e
  · rintro ⟨c, rfl, h⟩
    unfold callOk at h
    simp [callB, encC, wholeB]
    omega
theorem all_enc {α : Type} {B : PV → Bool} {enc : α → PV} {P : α → Prop} (hB : ∀ v, B v = true ↔ ∃ c, v = enc c ∧ P c) : ∀ {xs : List PV}, xs.all B = true → ∃ cs : List α, xs = cs.map enc ∧ ∀ c ∈ cs, P c
  | [], _ => ⟨[], rfl, fun _ h => by cases h⟩
  | x :: xs, e => by
    simp only [List.all_cons, Bool.and_eq_true] at e
    obtain ⟨c, rfl, hc⟩ := (hB x).mp e.1
    obtain ⟨cs, rfl, hs⟩ := all_enc hB e.2
    exact ⟨c :: cs, rfl, fun z hz => by
      rcases List.mem_cons.mp hz with rfl | hz
      · exact hc
      · exact hs z hz⟩
open Classical in
/-- a sentence as a truth value -/
noncomputable def B (p : Prop) : Bool := decide p
theorem B_iff {p : Prop} : B p = true ↔ p := by simp [B]
theorem B_true {p : Prop} (h : p) : B p = true := B_iff.mpr h
theorem B_false {p : Prop} (h : ¬ p) : B p = false := by simp [B, h]
theorem B_congr {p q : Prop} (e : p ↔ q) : B p = B q := by rw [propext e]
theorem B_dec (p : Prop) [Decidable p] : B p = decide p := by by_cases c : p <;> simp [B, c]
theorem zip_map {α β : Type} (f : α → PV) (g : β → PV) : ∀ (xs : List α) (ys : List β), zipPV (xs.map f) (ys.map g) = (xs.zip ys).map fun q => .tup [f q.1, g q.2]
  | [], _ => rfl
  | _ :: _, [] => rfl
  | x :: xs, y :: ys => by simp [zipPV, zip_map f g xs ys]
theorem links_zip : ∀ r : Rn, linksOk r ↔ (r.zip (r.drop 1)).all (fun q => decide (linkOk q.1 q.2)) = true
  | [] => by simp [linksOk]
  | [_] => by simp [linksOk]
  | x :: y :: r => by
    have := links_zip (y :: r)
    rw [linksOk, this]
    simp
def isRun (v : PV) : Prop := ∃ r, v = encR r ∧ RunOk r
section
variable {T : Nat → Option FD} (hT : TabT T) {h : LH}
include hT
theorem ev_is_run {v : PV} (hv : v.data = true) (d : Nat) : fenv T (d + 4) n_is_run [v] h = .ok (.bl (B (isRun v))) h := by
  rw [fenv_call hT.is_run]
  apply runFD_ret rfl
  simp [fd_is_run, ir_is_run, ev_is_row hT (data_fz hv)]
  cases c : rowB v 2 4
  · have : ¬ isRun v := by
      rintro ⟨r, rfl, hr⟩
      have := hr.lo
      have := hr.hi
      simp [rowB, encR] at c
      omega
    simp [B_false this]
  · obtain ⟨xs, rfl⟩ : ∃ xs, v = .tup xs := by
      unfold rowB at c; split at c
      · exact ⟨_, rfl⟩
      · cases c
    simp [rowB] at c
    rw [data_tup] at hv
    simp
    rw [compL_u (env1 := fun y => [some (.tup xs), some y, none, none]) (g := fun y => .bl (callB y)) (by simp) (by
      intro y hy
      simp
      exact ev_is_call hT (hv y hy) d) (by omega)]
    cases c1 : xs.all callB
    · have : ¬ isRun (.tup xs) := by
        rintro ⟨r, e, hr⟩
        unfold encR at e
        injection e with e
        subst e
        rw [Bool.eq_false_iff] at c1
        apply c1
        rw [List.all_eq_true]
        intro x hx
        obtain ⟨c, hc, rfl⟩ := List.mem_map.mp hx
        exact callB_iff.mpr ⟨c, rfl, hr.calls c hc⟩
      simp [B_false this, fAll_map, c1]
    · obtain ⟨cs, rfl, hcs⟩ := all_enc (fun v => callB_iff) c1
      simp at c
      have l0 : cs[0]? = some (cs[0]'(by omega)) := by simp
      have l1 : cs[cs.length - 1]? = some (cs[cs.length - 1]'(by omega)) := by simp
      generalize cs[0]'(by omega) = x at l0
      generalize cs[cs.length - 1]'(by omega) = y at l1
      have i0 : L2.atI (cs.map encC) 0 = some (encC x) := by rw [show (0 : Int) = ((0 : Nat) : Int) from rfl, atI_nn, List.getElem?_map, l0]; rfl
      have i1 : L2.atI (cs.map encC) (-1) = some (encC y) := by rw [atI_neg1, List.length_map, List.getElem?_map, l1]; rfl
      simp [-List.map_map, fAll_map, c1, i0, i1, encC]
      have key : isRun (.tup (cs.map encC)) ↔ x.a = x.d ∧ y.a = y.d ∧ x.s = 0 ∧ linksOk cs := by
        constructor
        · rintro ⟨r, e, hr⟩
          have := encR_inj (x := cs) (y := r) e
          subst this
          exact ⟨(hr.first x l0).1, hr.last y l1, (hr.first x l0).2, hr.links⟩
        · rintro ⟨a, b, c', e⟩
          refine ⟨cs, rfl, ⟨by omega, by omega, hcs, fun z hz => ?_, fun z hz => ?_, e⟩⟩
          · rw [l0] at hz; cases hz; exact ⟨a, c'⟩
          · rw [l1] at hz; cases hz; exact b
      by_cases e1 : x.a = x.d
      · by_cases e2 : y.a = y.d
        · by_cases e3 : x.s = 0
          · simp only [e1, e2, e3]
            simp
            rw [← List.map_tail, zip_map]
            refine at_look (v := .bl false) (fun r => r = _) (fun q => decide (linkOk q.1 q.2)) (fun env => ∃ a b c d, env = [a, b, c, d]) ?_ ⟨_, _, _, _, rfl⟩ ?_ ?_
            · rintro ⟨p, q⟩ hy env ⟨a, b, c, d, rfl⟩
              refine ⟨[a, b, some (encC p), some (encC q)], by simp, ?_, ?_⟩
              · intro z
                obtain ⟨z1, z2, z3⟩ : p.d < q.a ∧ q.p ≠ p.p ∧ q.s < q.a - p.d := of_decide_eq_true z
                simp [NX_nx, encC, z2, show ¬ q.a ≤ p.d by omega, show ¬ q.a - p.d ≤ q.s by omega]
              · intro z
                have z : ¬ (p.d < q.a ∧ q.p ≠ p.p ∧ q.s < q.a - p.d) := of_decide_eq_false z
                by_cases z1 : p.d < q.a
                · by_cases z2 : q.p = p.p
                  · simp [encC, show ¬ q.a ≤ p.d by omega, z2]
                  · have : q.a - p.d ≤ q.s := by
                      have := fun z3 => z ⟨z1, z2, z3⟩
                      omega
                    simp [encC, show ¬ q.a ≤ p.d by omega, z2, this]
                · simp [encC, show q.a ≤ p.d by omega]
            · rintro z env' -
              have : isRun (.tup (cs.map encC)) := key.mpr ⟨e1, e2, e3, (links_zip cs).mpr (by simpa using z)⟩
              simp [B_true this]
            · intro z
              have : ¬ isRun (.tup (cs.map encC)) := fun q => by
                have := (links_zip cs).mp (key.mp q).2.2.2
                simp only [List.drop_one] at this
                rw [this] at z
                cases z
              simp [B_false this]
          · have : ¬ isRun (.tup (cs.map encC)) := fun q => e3 (key.mp q).2.2.1
            simp [e1, e2, e3, B_false this]
        · have : ¬ isRun (.tup (cs.map encC)) := fun q => e2 (key.mp q).2.1
          simp [e1, e2, B_false this]
      · have : ¬ isRun (.tup (cs.map encC)) := fun q => e1 (key.mp q).1
        simp [e1, B_false this]
end
end G
end
section
set_option Elab.async false
set_option linter.all false
set_option maxRecDepth 100000
/-! E2: is_wait .. is_source on any data. -/
namespace G
open PySem M
def encW (w : Wt) : PV := .tup [.int w.r, .int w.c, .int w.r', .int w.c', .int w.m]
def encU (u : Tn) : PV := .tup [.int u.r, .int u.r', .bl u.g]
def encRs (rs : List Rn) : PV := .tup (rs.map encR)
structure RsOk (rs : List Rn) : Prop where
  n1 : 1 ≤ rs.length
  n4 : rs.length ≤ 4
  runs : ∀ r ∈ rs, RunOk r
theorem wholeB_iff {v : PV} {lo hi : Int} : wholeB v lo hi = true ↔ ∃ i, v = .int i ∧ lo ≤ i ∧ i ≤ hi := by
  unfold wholeB
  split
  · simp
  · rename_i h
    simp
    exact fun i e => absurd e (h i)
theorem wholeB_nat {v : PV} {n : Nat} : wholeB v 0 ((n : Int) - 1) = true ↔ ∃ k : Nat, v = .int k ∧ k < n := by
  rw [wholeB_iff]
  constructor
  · rintro ⟨i, rfl, h0, h1⟩
    exact ⟨i.toNat, by rw [Int.toNat_of_nonneg h0], by omega⟩
  · rintro ⟨k, rfl, h⟩
    exact ⟨k, rfl, by omega, by omega⟩
theorem wholeB_nat2 {v : PV} {n : Nat} : wholeB v 0 ((n : Int) - 2) = true ↔ ∃ k : Nat, v = .int k ∧ k + 1 < n := by
  rw [wholeB_iff]
  constructor
  · rintro ⟨i, rfl, h0, h1⟩
    exact ⟨i.toNat, by rw [Int.toNat_of_nonneg h0], by omega⟩
  · rintro ⟨k, rfl, h⟩
    exact ⟨k, rfl, by omega, by omega⟩
theorem wholeB_nat1 {v : PV} {n : Nat} : wholeB v 1 ((n : Int) - 1) = true ↔ ∃ k : Nat, v = .int k ∧ 1 ≤ k ∧ k < n := by
  rw [wholeB_iff]
  constructor
  · rintro ⟨i, rfl, h0, h1⟩
    exact ⟨i.toNat, by rw [Int.toNat_of_nonneg (by omega)], by omega, by omega⟩
  · rintro ⟨k, rfl, h⟩
    exact ⟨k, rfl, by omega, by omega⟩
theorem run_get {rs : List Rn} {k : Nat} (h : k < rs.length) : ∃ r, rs[k]? = some r ∧ r ∈ rs ∧ lenOf rs k = r.length := ⟨rs[k], by simp [h], List.getElem_mem _, by simp [lenOf, h]⟩
theorem atR {rs : List Rn} {k : Nat} {r : Rn} (h : rs[k]? = some r) : L2.atI (rs.map encR) (k : Int) = some (encR r) := by
  rw [atI_nn, List.getElem?_map, h]; rfl
theorem atC {r : Rn} {k : Nat} {c : Call} (h : r[k]? = some c) : L2.atI (r.map encC) (k : Int) = some (encC c) := by
  rw [atI_nn, List.getElem?_map, h]; rfl
theorem atC_last {r : Rn} {c : Call} (h : r[r.length - 1]? = some c) : L2.atI (r.map encC) (-1) = some (encC c) := by
  rw [atI_neg1, List.length_map, List.getElem?_map, h]; rfl
theorem callAt_eq {rs : List Rn} {k c : Nat} {r : Rn} (h : rs[k]? = some r) : callAt rs k c = r[c]? := by simp [callAt, h]
def isWait (rs : List Rn) (v : PV) : Prop := ∃ w, v = encW w ∧ WtOk rs w
theorem encW_inj {x y : Wt} (e : encW x = encW y) : x = y := by
  cases x; cases y
  simp [encW] at e
  simp
  omega
theorem encU_inj {x y : Tn} (e : encU x = encU y) : x = y := by
  cases x; cases y
  simp [encU] at e
  simp [e]
  omega
section
variable {T : Nat → Option FD} (hT : TabT T) {h : LH}
include hT
theorem ev_is_wait {rs : List Rn} (hr : RsOk rs) {v : PV} (hv : v.data = true) (d : Nat) : fenv T (d + 4) n_is_wait [encRs rs, v] h = .ok (.bl (B (isWait rs v))) h := by
  rw [fenv_call hT.is_wait]
  apply runFD_ret rfl
  cases c : rowB v 5 5
  · have : ¬ isWait rs v := by
      rintro ⟨w, rfl, hw⟩
      simp [rowB, encW] at c
    simp [fd_is_wait, ir_is_wait, ev_is_row hT (data_fz hv), c, B_false this]
  · obtain ⟨xs, rfl, hl⟩ := rowB_eq.mp c
    obtain ⟨v0, v1, v2, v3, v4, rfl⟩ := len5 hl
    rw [data_tup] at hv
    have d0 := data_fz (hv v0 (by simp))
    have d1 := data_fz (hv v1 (by simp))
    have d2 := data_fz (hv v2 (by simp))
    have d3 := data_fz (hv v3 (by simp))
    have d4 := data_fz (hv v4 (by simp))
    have bad : ∀ {p : Prop}, (∀ w, encW w = .tup [v0, v1, v2, v3, v4] → WtOk rs w → p) → ¬ p → B (isWait rs (.tup [v0, v1, v2, v3, v4])) = false := by
      rintro p q n
      apply B_false
      rintro ⟨w, e, hw⟩
      exact n (q w e.symm hw)
    cases c0 : wholeB v0 0 ((rs.length : Int) - 1)
    · have := bad (p := wholeB v0 0 ((rs.length : Int) - 1) = true) (fun w e hw => by
        simp [encW] at e
        rw [← e.1]
        exact wholeB_nat.mpr ⟨_, rfl, hw.r⟩) (by simp [c0])
      simp [fd_is_wait, ir_is_wait, ev_is_row hT (data_fz (data_tup.mpr hv)), c, encRs, ev_is_whole hT d0, c0, this]
    cases c2 : wholeB v2 0 ((rs.length : Int) - 1)
    · have := bad (p := wholeB v2 0 ((rs.length : Int) - 1) = true) (fun w e hw => by
        simp [encW] at e
        rw [← e.2.2.1]
        exact wholeB_nat.mpr ⟨_, rfl, hw.r'⟩) (by simp [c2])
      simp [fd_is_wait, ir_is_wait, ev_is_row hT (data_fz (data_tup.mpr hv)), c, encRs, ev_is_whole hT d0, c0, ev_is_whole hT d2, c2, this]
    obtain ⟨k0, rfl, l0⟩ := wholeB_nat.mp c0
    obtain ⟨k2, rfl, l2⟩ := wholeB_nat.mp c2
    obtain ⟨r0, g0, m0, n0⟩ := run_get l0
    obtain ⟨r2, g2, m2, n2⟩ := run_get l2
    by_cases e02 : k0 = k2
    · have := bad (p := k0 ≠ k2) (fun w e hw => by
        simp [encW] at e
        have := hw.ne
        omega) (by simp [e02])
      subst e02
      simp [fd_is_wait, ir_is_wait, ev_is_row hT (data_fz (data_tup.mpr hv)), c, encRs, ev_is_whole hT d0, c0, this]
    have e02' : ((k0 : Int) == (k2 : Int)) = false := by simp; omega
    cases c1 : wholeB v1 0 ((r0.length : Int) - 2)
    · have := bad (p := wholeB v1 0 ((r0.length : Int) - 2) = true) (fun w e hw => by
        simp [encW] at e
        have := hw.c
        rw [show w.r = k0 by omega, n0] at this
        rw [← e.2.1]
        exact wholeB_nat2.mpr ⟨_, rfl, this⟩) (by simp [c1])
      simp [fd_is_wait, ir_is_wait, ev_is_row hT (data_fz (data_tup.mpr hv)), c, encRs, ev_is_whole hT d0, c0, ev_is_whole hT d2, c2, this, e02', atR g0, encR, ev_is_whole hT d1, c1]
    cases c3 : wholeB v3 1 ((r2.length : Int) - 1)
    · have := bad (p := wholeB v3 1 ((r2.length : Int) - 1) = true) (fun w e hw => by
        simp [encW] at e
        have h1 := hw.c'
        have h2 := hw.c'1
        rw [show w.r' = k2 by omega, n2] at h1
        rw [← e.2.2.2.1]
        exact wholeB_nat1.mpr ⟨_, rfl, h2, h1⟩) (by simp [c3])
      simp [fd_is_wait, ir_is_wait, ev_is_row hT (data_fz (data_tup.mpr hv)), c, encRs, ev_is_whole hT d0, c0, ev_is_whole hT d2, c2, this, e02', atR g0, atR g2, encR, ev_is_whole hT d1, c1, ev_is_whole hT d3, c3]
    cases c4 : wholeB v4 0 60
    · have := bad (p := wholeB v4 0 60 = true) (fun w e hw => by
        simp [encW] at e
        rw [← e.2.2.2.2]
        exact wholeB_iff.mpr ⟨_, rfl, hw.m0, hw.m⟩) (by simp [c4])
      simp [fd_is_wait, ir_is_wait, ev_is_row hT (data_fz (data_tup.mpr hv)), c, encRs, ev_is_whole hT d0, c0, ev_is_whole hT d2, c2, this, e02', atR g0, atR g2, encR, ev_is_whole hT d1, c1, ev_is_whole hT d3, c3, ev_is_whole hT d4, c4]
    obtain ⟨k1, rfl, l1⟩ := wholeB_nat2.mp c1
    obtain ⟨k3, rfl, l3, l3'⟩ := wholeB_nat1.mp c3
    obtain ⟨k4, rfl, l4, l4'⟩ := wholeB_iff.mp c4
    have gx : r0[k1]? = some (r0[k1]'(by omega)) := by simp
    have gy : r2[k3]? = some (r2[k3]'(by omega)) := by simp
    generalize r0[k1]'(by omega) = x at gx
    generalize r2[k3]'(by omega) = y at gy
    have key : isWait rs (.tup [.int k0, .int k1, .int k2, .int k3, .int k4]) ↔ x.p = y.p ∧ y.a ≤ x.d := by
      constructor
      · rintro ⟨w, e, hw⟩
        have := encW_inj (x := ⟨k0, k1, k2, k3, k4⟩) e
        subst this
        obtain ⟨x', y', a, b, c⟩ := hw.meet
        rw [callAt_eq g0, gx] at a
        rw [callAt_eq g2, gy] at b
        cases a; cases b
        exact c
      · intro q
        exact ⟨⟨k0, k1, k2, k3, k4⟩, rfl, l0, l2, e02, by rw [n0]; exact l1, l3, by rw [n2]; exact l3', l4, l4', x, y, by rw [callAt_eq g0, gx], by rw [callAt_eq g2, gy], q⟩
    simp [fd_is_wait, ir_is_wait, ev_is_row hT (data_fz (data_tup.mpr hv)), c, encRs, ev_is_whole hT d0, c0, ev_is_whole hT d2, c2, e02', atR g0, atR g2, encR, ev_is_whole hT d1, c1, ev_is_whole hT d3, c3, ev_is_whole hT d4, c4, atC gx, atC gy, encC, sizeOk]
    rw [B_congr key]
    by_cases q1 : x.p = y.p
    · by_cases q2 : y.a ≤ x.d <;> simp [B, q1, q2]
    · simp [B, q1, show (x.p == y.p) = false by simpa using q1]
/-! ### turns -/
end
def isTurn (rs : List Rn) (per : Int) (v : PV) : Prop := ∃ u, v = encU u ∧ TnOk rs per u
section
variable {T : Nat → Option FD} (hT : TabT T) {h : LH}
include hT
theorem ev_is_turn {rs : List Rn} (hr : RsOk rs) {per : Int} {v : PV} (hv : v.data = true) (d : Nat) : fenv T (d + 4) n_is_turn [encRs rs, .int per, v] h = .ok (.bl (B (isTurn rs per v))) h := by
  rw [fenv_call hT.is_turn]
  apply runFD_ret rfl
  have er := ev_is_row hT (h := h) (lo := 3) (hi := 3) (data_fz hv) (d + 2)
  cases c : rowB v 3 3
  · have : ¬ isTurn rs per v := by
      rintro ⟨w, rfl, hw⟩
      simp [rowB, encU] at c
    rw [c] at er
    simp [fd_is_turn, ir_is_turn, er, B_false this]
  · obtain ⟨xs, rfl, hl⟩ := rowB_eq.mp c
    obtain ⟨v0, v1, v2, rfl⟩ := len3 hl
    rw [c] at er
    rw [data_tup] at hv
    have d0 := data_fz (hv v0 (by simp))
    have d1 := data_fz (hv v1 (by simp))
    have d2 := data_fz (hv v2 (by simp))
    have bad : ∀ {p : Prop}, (∀ w, encU w = .tup [v0, v1, v2] → TnOk rs per w → p) → ¬ p → B (isTurn rs per (.tup [v0, v1, v2])) = false := by
      rintro p q n
      apply B_false
      rintro ⟨w, e, hw⟩
      exact n (q w e.symm hw)
    have ec : compL (.name 3) tYes (den (.call n_is_whole (lit [.var 3, .int 0, .op .sub (.fn .len (lit [.var 0])) (.int 1)]))) (fenv T (d + 3)) [some (.tup (rs.map encR)), some (.int per), some (.tup [v0, v1, v2]), none] [v0, v1] [] h = .ok (.lst [.bl (wholeB v0 0 ((rs.length : Int) - 1)), .bl (wholeB v1 0 ((rs.length : Int) - 1))]) h := by
      refine compL_u (env1 := fun y => [some (.tup (rs.map encR)), some (.int per), some (.tup [v0, v1, v2]), some y]) (g := fun y => .bl (wholeB y 0 ((rs.length : Int) - 1))) (by simp) (fun y hy => ?_) (by simp)
      simp at hy
      have dy : y.fz = true := by
        rcases hy with rfl | rfl
        · exact d0
        · exact d1
      simp [ev_is_whole hT dy]
    simp at ec
    cases c0 : wholeB v0 0 ((rs.length : Int) - 1)
    · have := bad (p := wholeB v0 0 ((rs.length : Int) - 1) = true) (fun w e hw => by
        simp [encU] at e
        rw [← e.1]
        exact wholeB_nat.mpr ⟨_, rfl, hw.r⟩) (by simp [c0])
      rw [c0] at ec
      simp [fd_is_turn, ir_is_turn, er, encRs, ec, fAll, boolsOf, this]
    cases c1 : wholeB v1 0 ((rs.length : Int) - 1)
    · have := bad (p := wholeB v1 0 ((rs.length : Int) - 1) = true) (fun w e hw => by
        simp [encU] at e
        rw [← e.2.1]
        exact wholeB_nat.mpr ⟨_, rfl, hw.r'⟩) (by simp [c1])
      rw [c0, c1] at ec
      simp [fd_is_turn, ir_is_turn, er, encRs, ec, fAll, boolsOf, this]
    rw [c0, c1] at ec
    obtain ⟨k0, rfl, l0⟩ := wholeB_nat.mp c0
    obtain ⟨k1, rfl, l1⟩ := wholeB_nat.mp c1
    obtain ⟨r0, g0, m0, n0⟩ := run_get l0
    obtain ⟨r1, g1, m1, n1⟩ := run_get l1
    have hb := fIs_fz (t := .bool) (h := h) d2
    cases cb : isBT .bool v2
    · have := bad (p := isBT .bool v2 = true) (fun w e hw => by
        simp [encU] at e
        rw [← e.2.2]; rfl) (by simp [cb])
      rw [cb] at hb
      simp [fd_is_turn, ir_is_turn, er, encRs, ec, fAll, boolsOf, this, hb]
    obtain ⟨g, rfl⟩ : ∃ g, v2 = .bl g := by
      cases v2 <;> simp [isBT] at cb
      exact ⟨_, rfl⟩
    have R0 := hr.runs r0 m0
    have R1 := hr.runs r1 m1
    have gx : r0[r0.length - 1]? = some (r0[r0.length - 1]'(by have := R0.lo; omega)) := by simp
    have gy : r1[0]? = some (r1[0]'(by have := R1.lo; omega)) := by simp
    generalize r0[r0.length - 1]'(by have := R0.lo; omega) = x at gx
    generalize r1[0]'(by have := R1.lo; omega) = y at gy
    have i0 : L2.atI (r0.map encC) (-1) = some (encC x) := atC_last gx
    have i1 : L2.atI (r1.map encC) 0 = some (encC y) := atC (k := 0) gy
    have key : isTurn rs per (.tup [.int k0, .int k1, .bl g]) ↔ x.p = y.p ∧ (k0 = k1 → g = true) ∧ x.a ≤ y.d + (if g then per else 0) := by
      constructor
      · rintro ⟨w, e, hw⟩
        have := encU_inj (x := ⟨k0, k1, g⟩) e
        subst this
        obtain ⟨x', y', a, b, c⟩ := hw.meet
        rw [callAt_eq g0, n0, gx] at a
        rw [callAt_eq g1, gy] at b
        cases a; cases b
        exact ⟨c.1, hw.g, c.2⟩
      · intro q
        exact ⟨⟨k0, k1, g⟩, rfl, l0, l1, q.2.1, x, y, by rw [callAt_eq g0, n0, gx], by rw [callAt_eq g1, gy], q.1, q.2.2⟩
    rw [B_congr key]
    by_cases q1 : x.p = y.p
    · cases g
      · by_cases q2 : k0 = k1
        · subst q2
          simp [fd_is_turn, ir_is_turn, er, encRs, ec, fAll, boolsOf, fIs, isBT, atR g0, encR, i0, encC, i1, q1, B]
          rw [g1] at g0; cases g0
          simp [fd_is_turn, ir_is_turn, er, encRs, ec, fAll, boolsOf, fIs, isBT, atR g1, encR, i0, encC, i1, q1, B]
        · simp [fd_is_turn, ir_is_turn, er, encRs, ec, fAll, boolsOf, fIs, isBT, atR g0, atR g1, encR, i0, encC, i1, q1, B, q2, show ((k0 : Int) == (k1 : Int)) = false by simp; omega]
      · by_cases q2 : k0 = k1
        · subst q2
          rw [g1] at g0; cases g0
          simp [fd_is_turn, ir_is_turn, er, encRs, ec, fAll, boolsOf, fIs, isBT, atR g1, encR, i0, encC, i1, q1, B]
        · simp [fd_is_turn, ir_is_turn, er, encRs, ec, fAll, boolsOf, fIs, isBT, atR g0, atR g1, encR, i0, encC, i1, q1, B, show ((k0 : Int) == (k1 : Int)) = false by simp; omega]
    · have q1' : (x.p == y.p) = false := by simpa using q1
      by_cases q2 : k0 = k1
      · subst q2
        rw [g1] at g0; cases g0
        simp [fd_is_turn, ir_is_turn, er, encRs, ec, fAll, boolsOf, fIs, isBT, atR g1, encR, i0, encC, i1, q1, q1', B]
      · simp [fd_is_turn, ir_is_turn, er, encRs, ec, fAll, boolsOf, fIs, isBT, atR g0, atR g1, encR, i0, encC, i1, q1, q1', B]
end
end G
end
section
set_option Elab.async false
set_option linter.all false
set_option maxRecDepth 1000
/-! E3: events_of, needs_of, order_of. -/
namespace G
open PySem M
def encE : Ev → PV
  | .ar r c => .tup [.str "arrive", .int r, .int c]
  | .dp r c => .tup [.str "depart", .int r, .int c]
def wordS (b : Bool) : Str := if b then "each" else "once"
def encT (t : Tb) : PV := .tup [encRs t.runs, .tup (t.waits.map encW), .tup (t.turns.map encU), .tup [.int t.sr, .int t.sc, .str (wordS t.each)], .int t.per]
theorem dep_ne : ("depart" : Str) ≠ "arrive" := by decide +kernel
theorem arr_ne : ("arrive" : Str) ≠ "depart" := fun e => dep_ne e.symm
theorem encE_eq (x y : Ev) : pyEq (encE x) (encE y) = decide (x = y) := by
  cases x <;> cases y <;> simp [encE, pyEq, pyEqL, dep_ne, arr_ne] <;> (rename_i a b c d; by_cases e : a = c <;> by_cases f : b = d <;> simp [e, f] <;> omega)
theorem encE_ok (x : Ev) : (encE x).data = true ∧ (encE x).depth = 1 := by
  cases x <;> simp [encE, PV.data, PV.dataL, PV.depth, PV.depthL]
theorem encE_ok' (x : Ev) : (encE x).ok = true := by
  unfold PV.ok
  rw [(encE_ok x).1, (encE_ok x).2]
  rfl
theorem evs_ok (xs : List Ev) : (PV.lst (xs.map encE)).ok = true := ok_lst fun x hx => by
  obtain ⟨e, _, rfl⟩ := List.mem_map.mp hx
  have := encE_ok e
  exact ⟨this.1, by omega⟩
theorem evs_in (h : LH) (x : Ev) (xs : List Ev) : opIn h (encE x) (.lst (xs.map encE)) = some (.bl (decide (x ∈ xs))) := by
  rw [opIn_lst h (encE_ok' x) (evs_ok xs), inL_map encE_eq]
theorem evs_notin (h : LH) (x : Ev) (xs : List Ev) : opNotIn h (encE x) (.lst (xs.map encE)) = some (.bl (decide (x ∉ xs))) := by
  rw [opNotIn_lst h (encE_ok' x) (evs_ok xs), inL_map encE_eq]
  simp
theorem evs_eq (h : LH) (xs ys : List Ev) : opEq h (.lst (xs.map encE)) (.lst (ys.map encE)) = some (.bl (decide (xs = ys))) := by
  rw [opEq_ok h (evs_ok xs) (evs_ok ys), pyEq_lst encE_eq]
theorem evs_eq0 (h : LH) (xs : List Ev) : opEq h (.lst (xs.map encE)) (.lst []) = some (.bl (decide (xs = []))) := evs_eq h xs []
theorem evs_ne0 (h : LH) (xs : List Ev) : opNe h (.lst (xs.map encE)) (.lst []) = some (.bl (decide (xs ≠ []))) := by
  unfold opNe
  rw [evs_eq0]
  simp
theorem eventsFrom_zip : ∀ (rs : List Rn) (k : Nat), eventsFrom k rs = (rs.zipIdx k).flatMap fun q => evRun q.2 q.1.length
  | [], _ => rfl
  | r :: rs, k => by simp [eventsFrom, eventsFrom_zip rs (k + 1)]
section
variable {T : Nat → Option FD} (hT : TabT T) {h : LH}
include hT
theorem ev_events_of {t : Tb} (ht : TbPre t) (d : Nat) : fenv T (d + 1) n_events_of [encT t] h = .ok (.lst ((events t).map encE)) h := by
  rw [fenv_call hT.events_of]
  apply runFD_ret rfl
  simp [fd_events_of, ir_events_of, encT, encRs]
  rw [enumFrom_eq]
  have hl := ht.events_len
  refine at_col (fun r => r = _) (fun q : Rn × Nat => evRun q.2 q.1.length) (fun s env h' => h' = h ∧ ∃ a b c, env = [some (encT t), some (.lst (s.map encE)), a, b, c]) [] (events t) ?_ (by simp [events, eventsFrom_zip]) ⟨rfl, none, none, none, rfl⟩ ?_
  · rintro ⟨r, k⟩ hy s env h' pre ⟨rfl, a, b, c, rfl⟩
    have hs : (s ++ evRun k r.length).length ≤ 32 := Nat.le_trans pre.length_le hl
    refine ⟨[some (encT t), some (.lst (s.map encE)), some (.int k), some (encR r), c], by simp, ?_⟩
    have : r.length ≤ 4 := by
      have := List.mem_zipIdx hy
      exact (ht.runs r (by simp at this; exact this.2 ▸ List.getElem_mem _)).hi
    simp [encR, small_nat (show r.length < 2 ^ 62 by omega), intsFrom_0]
    refine at_col (fun r => NX r _) (fun c => (if 0 < c then [Ev.ar k c] else []) ++ (if c + 1 < r.length then [Ev.dp k c] else [])) (fun s env h'' => h'' = h' ∧ ∃ c, env = [some (encT t), some (.lst (s.map encE)), some (.int k), some (encR r), c]) s (s ++ evRun k r.length) ?_ rfl ⟨rfl, c, rfl⟩ ?_
    · rintro c hc s1 env h'' pre1 ⟨rfl, c', rfl⟩
      have l1 := Nat.le_trans pre1.length_le hs
      simp only [List.length_append] at l1
      refine ⟨[some (encT t), some (.lst (s1.map encE)), some (.int k), some (encR r), some (.int c)], by simp, ?_⟩
      have f0 : Sm (s1.map encE) := sm_of (by simp; omega)
      have f1 : ∀ x, Sm (s1.map encE ++ [x]) := fun x => sm_of (by simp; omega)
      by_cases c1 : 0 < c
      · by_cases c2 : c + 1 < r.length
        · simp [NX_nx, c1, c2, encR, show (0 : Int) < (c : Int) by omega, show (c : Int) < (r.length : Int) - 1 by omega, opAdd_lk, f0, f1, encE]
        · simp [NX_nx, c1, c2, encR, show (0 : Int) < (c : Int) by omega, show ¬ (c : Int) < (r.length : Int) - 1 by omega, opAdd_lk, f0, f1, encE]
      · by_cases c2 : c + 1 < r.length
        · simp [NX_nx, c1, c2, encR, show ¬ (0 : Int) < (c : Int) by omega, show (c : Int) < (r.length : Int) - 1 by omega, opAdd_lk, f0, f1, encE]
        · simp [NX_nx, c1, c2, encR, show ¬ (0 : Int) < (c : Int) by omega, show ¬ (c : Int) < (r.length : Int) - 1 by omega, opAdd_lk, f0, f1, encE]
    · rintro env' h'' ⟨rfl, c', rfl⟩
      simp [NX_nx, encR]
  · rintro env' h' ⟨rfl, a, b, c, rfl⟩
    simp
end
theorem _root_.M.TbPre.len_pos {t : Tb} (ht : TbPre t) {k : Nat} (h : k < t.runs.length) : 2 ≤ lenOf t.runs k ∧ lenOf t.runs k ≤ 4 := by
  obtain ⟨r, g, m, n⟩ := run_get h
  rw [n]
  exact ⟨(ht.runs r m).lo, (ht.runs r m).hi⟩
theorem turnsTo_flat (t : Tb) (r c : Nat) : turnsTo t r c = t.turns.flatMap fun u => if u.r' = r ∧ c = 0 ∧ u.g = false then [Ev.ar u.r (lenOf t.runs u.r - 1)] else [] := by
  unfold turnsTo
  induction t.turns with
  | nil => rfl
  | cons u us ih =>
    rw [List.filter_cons, List.flatMap_cons]
    by_cases c1 : u.r' = r ∧ c = 0 ∧ u.g = false
    · rw [if_pos c1, if_pos (by simp [c1]), List.map_cons, ih]
      rfl
    · rw [if_neg c1, if_neg (by simpa using c1), ih]
      rfl
/-- an event's numbers are those of a table -/
def evIn (t : Tb) (e : Ev) : Prop := e ∈ events t
section
variable {T : Nat → Option FD} (hT : TabT T) {h : LH}
include hT
theorem ev_needs_of {t : Tb} (ht : TbPre t) {e : Ev} (he : e ∈ events t) (d : Nat) : fenv T (d + 1) n_needs_of [encT t, encE e] h = .ok (.lst ((needs t e).map encE)) h := by
  rw [fenv_call hT.needs_of]
  apply runFD_ret rfl
  have hu4 := ht.u4
  have hw4 := ht.w4
  rcases events_mem.mp he with ⟨r, c, rfl, hc, hc'⟩ | ⟨r, c, rfl, hc⟩
  · simp [fd_needs_of, ir_needs_of, encE, needs, show ((c - 1 : Nat) : Int) = (c : Int) - 1 by omega]
  · have hcomp : ∀ (fd : FEnv) (a b f g : Option PV), compL (.name 9) (tVal (cOp2 opEq (cSlice (cVar 9) none (some (cC (.int 2)))) (cTup (lCons (cVar 3) (lCons (cVar 4) lNil))))) (cTup (lCons (cC (.str "arrive")) (lCons (cOp2 opIx (cVar 9) (cC (.int 2))) (lCons (cOp2 opIx (cVar 9) (cC (.int 3))) lNil)))) fd
        [some (encT t), some (encE (.dp r c)), some (.str "depart"), some (.int r), some (.int c), f, a, b, g, none] (t.waits.map encW) [] h = .ok (.lst ((waitsTo t r c).map encE)) h := by
      intro fd a b f g
      rw [compL_t (env1 := fun w => [some (encT t), some (encE (.dp r c)), some (.str "depart"), some (.int r), some (.int c), f, a, b, g, some (encW w)]) (p := fun w => decide (w.r = r) && decide (w.c = c)) (g := fun w => encE (.ar w.r' w.c')) (by simp) (by
        intro w hw
        simp [encW]
        by_cases c1 : w.r = r <;> by_cases c2 : w.c = c <;> simp [NX_nx, c1, c2] <;> omega) (by
        intro w hw _
        simp [encW, encE]) (by simp; omega)]
      simp [waitsTo, Function.comp_def]
    simp [fd_needs_of, ir_needs_of, dep_ne, show encE (.dp r c) = .tup [.str "depart", .int r, .int c] from rfl]
    simp only [show encE (.dp r c) = .tup [.str "depart", .int r, .int c] from rfl] at hcomp
    have e1 : (if 0 < c then Res.ok (PV.lst [.tup [.str "arrive", .int r, .int c]]) h else Res.ok (.lst []) h) = Res.ok (.lst ((if 0 < c then [Ev.ar r c] else []).map encE)) h := by
      split <;> simp [encE]
    rw [e1]
    have l0 : (if 0 < c then [Ev.ar r c] else []).length ≤ 1 := by split <;> simp
    generalize hs0 : (if 0 < c then [Ev.ar r c] else []) = s0 at l0 ⊢
    simp
    have i2 : opIx h (encT t) (.int 2) = some (.tup (t.turns.map encU)) := by simp [encT]
    simp [i2]
    have tl : (turnsTo t r c).length ≤ 4 := by
      unfold turnsTo
      rw [List.length_map]
      exact Nat.le_trans (List.length_filter_le _ _) hu4
    have wl : (waitsTo t r c).length ≤ 4 := by
      unfold waitsTo
      rw [List.length_map]
      exact Nat.le_trans (List.length_filter_le _ _) hw4
    refine at_col (fun r => r = _) (fun u => if u.r' = r ∧ c = 0 ∧ u.g = false then [Ev.ar u.r (lenOf t.runs u.r - 1)] else []) (fun s env h' => h' = h ∧ ∃ x y z, env = [some (encT t), some (.tup [.str "depart", .int r, .int c]), some (.str "depart"), some (.int r), some (.int c), some (.lst (s.map encE)), x, y, z, none]) s0 (s0 ++ turnsTo t r c) ?_ (by rw [turnsTo_flat]) ⟨rfl, none, none, none, rfl⟩ ?_
    · rintro u hu s env h' pre ⟨rfl, x, y, z, rfl⟩
      refine ⟨[some (encT t), some (.tup [.str "depart", .int r, .int c]), some (.str "depart"), some (.int r), some (.int c), some (.lst (s.map encE)), some (.int u.r), some (.int u.r'), some (.bl u.g), none], by simp [encU], ?_⟩
      have ls := pre.length_le
      simp only [List.length_append] at ls
      have f0 : Sm (s.map encE) := sm_of (by simp; omega)
      obtain ⟨x1, y1, a1, a2, -⟩ := (ht.turns u hu).meet
      have ur := (ht.turns u hu).r
      obtain ⟨ru, g1, m1, n1⟩ := run_get ur
      have := (ht.len_pos ur).1
      by_cases c1 : u.r' = r
      · by_cases c2 : c = 0
        · cases c3 : u.g
          · subst c2
            simp [NX_nx, c1, c3, encT, encRs, atR g1, encR, opAdd_lk, f0, encE, n1, show ((ru.length - 1 : Nat) : Int) = (ru.length : Int) - 1 by omega]
          · simp [NX_nx, c1, c2, c3]
        · simp [NX_nx, c1, c2, show ((c : Int) == 0) = false by simp; omega]
      · simp [NX_nx, c1, show ((u.r' : Int) == (r : Int)) = false by simp; omega]
    · rintro env' h' ⟨rfl, x, y, z, rfl⟩
      have f0 : Sm ((s0 ++ turnsTo t r c).map encE) := sm_of (by simp; omega)
      have f1 : Sm ((waitsTo t r c).map encE) := sm_of (by simp; omega)
      have i1 : opIx h' (encT t) (.int 1) = some (.tup (t.waits.map encW)) := by simp [encT]
      simp [i1, hcomp, -List.map_append, opAdd_lk, f0, f1]
      simp [needs, hs0]
theorem ev_order_of {t : Tb} (ht : TbPre t) (d : Nat) : fenv T (d + 2) n_order_of [encT t] h = .ok (match order t with
    | some r => .lst (r.map encE)
    | none => .non) h := by
  rw [fenv_call hT.order_of]
  apply runFD_ret rfl
  simp [fd_order_of, ir_order_of, ev_events_of hT ht]
  have hl := ht.events_len
  refine at_while (fun r => r = _) (fun n env h' => h' = h ∧ ∃ found rest g, env = [some (encT t), some (.lst (found.map encE)), some (.lst (rest.map encE)), g, none, none] ∧ rest.length < n ∧ rounds (needs t) n found rest = order t ∧ found.length + rest.length ≤ 32 ∧ ∀ e ∈ rest, e ∈ events t) ((events t).length + 1) (by unfold whileFuel; omega) ⟨rfl, [], events t, none, rfl, by omega, rfl, by simpa using hl, fun _ h => h⟩ ?_
  rintro n env h' ⟨rfl, found, rest, g, rfl, hn, hr, hb, hs⟩
  by_cases c : rest = []
  · subst c
    refine .stop h' (by simp [evs_ne0]) ?_
    cases n with
    | zero => omega
    | succ n =>
      rw [rounds, if_pos rfl] at hr
      simp [← hr]
  · cases n with
    | zero => omega
    | succ n =>
      rw [rounds, if_neg c] at hr
      have et : tVal (cOp2 opNe (cVar 2) (cLst lNil)) (fenv T (d + 1)) [some (encT t), some (.lst (found.map encE)), some (.lst (rest.map encE)), g, none, none] h' = .ok true h' := by simp [evs_ne0, c]
      have e1 : ∀ g, compL (.name 4) (tVal (cFn fAll (lCons (cComp [5] (iOf (cCall n_needs_of (lCons (cVar 0) (lCons (cVar 4) lNil)))) (.name 5) tYes (cOp2 opIn (cVar 5) (cVar 1))) lNil))) (cVar 4) (fenv T (d + 1)) [some (encT t), some (.lst (found.map encE)), some (.lst (rest.map encE)), g, none, none] (rest.map encE) [] h' = .ok (.lst ((rest.filter (goodIn (needs t) found)).map encE)) h' := by
        intro g
        rw [compL_t (p := goodIn (needs t) found) (g := encE) (env1 := fun e => [some (encT t), some (.lst (found.map encE)), some (.lst (rest.map encE)), g, some (encE e), none]) (by simp) (by
          intro e he
          simp [ev_needs_of hT ht (hs e he)]
          have nl : (needs t e).length ≤ 16777216 := by
            have h1 : (turnsTo t 0 0).length ≤ 4 := by
              unfold turnsTo
              rw [List.length_map]
              exact Nat.le_trans (List.length_filter_le _ _) ht.u4
            cases e with
            | ar r c => simp [needs]
            | dp r c =>
              have h1 : (turnsTo t r c).length ≤ 4 := by
                unfold turnsTo
                rw [List.length_map]
                exact Nat.le_trans (List.length_filter_le _ _) ht.u4
              have h2 : (waitsTo t r c).length ≤ 4 := by
                unfold waitsTo
                rw [List.length_map]
                exact Nat.le_trans (List.length_filter_le _ _) ht.w4
              have h3 : (if 0 < c then [Ev.ar r c] else []).length ≤ 1 := by split <;> simp
              simp only [needs, List.length_append]
              omega
          rw [compL_a (g := fun n => .bl (decide (n ∈ found))) (env1 := fun n => [some (encT t), some (.lst (found.map encE)), some (.lst (rest.map encE)), g, some (encE e), some (encE n)]) (by simp) (by
            intro n hn
            simp [evs_in]) nl]
          simp [-List.map_map, fAll_map]
          rfl) (by simp) (by simp; omega)]
        simp
      by_cases c2 : rest.filter (goodIn (needs t) found) = []
      · rw [if_pos c2] at hr
        refine .ret h' .non h' et ?_ (by simp [← hr])
        simp [e1, c2, evs_eq0]
      · rw [if_neg c2] at hr
        refine .go h' n et (by omega) ?_
        have lf : (rest.filter (goodIn (needs t) found)).length ≤ rest.length := List.length_filter_le _ _
        have f0 : Sm (found.map encE) := sm_of (by simp; omega)
        have f1 : Sm ((rest.filter (goodIn (needs t) found)).map encE) := sm_of (by simp; omega)
        have sl := split_len (goodIn (needs t) found) rest
        have gl : 0 < (rest.filter (goodIn (needs t) found)).length := List.length_pos_iff.mpr c2
        generalize rest.filter (goodIn (needs t) found) = good at *
        simp [e1, evs_eq0, c2, opAdd_lk, f0, f1]
        rw [compL_t (enc := encE) (p := fun e => decide (e ∉ good)) (g := encE) (env1 := fun e => [some (encT t), some (.lst (found.map encE ++ good.map encE)), some (.lst (rest.map encE)), some (.lst (good.map encE)), some (encE e), none]) (by simp) (by
          intro e he
          simp [evs_notin]) (by simp) (by simp; omega)]
        simp [NX_nx]
        exact ⟨found ++ good, rest.filter fun e => decide (e ∉ good), ⟨by simp, by simp⟩, by omega, hr, by simp only [List.length_append]; omega, fun e he => hs e (List.mem_filter.mp he).1⟩
end
end G
end
section
set_option Elab.async false
set_option linter.all false
set_option maxRecDepth 100000
/-! E4: is_ascending, are_turns, is_source, is_table. -/
namespace G
open PySem M
theorem encW_lt (h : LH) (x y : Wt) : opLt h (encW x) (encW y) = some (.bl (lexI (wkey x) (wkey y))) := by
  have e : ltOk (encW x) (encW y) = true := by simp [ltOk, encW, PV.ok, PV.data, PV.dataL, PV.depth, PV.depthL, toD, toDL, W.alike, W.alikeAll, PV.isNon]
  have : opLt h (encW x) (encW y) = if ltOk (encW x) (encW y) then some (.bl (pyLt (encW x) (encW y))) else none := rfl
  rw [this, if_pos e]
  simp [encW, pyLt, pyLtL, pyEq, wkey, lexI]
theorem bn_lt (a b : Bool) : (if pyEq (.bl a) (.bl b) = true then pyLtL [] [] else pyLt (.bl a) (.bl b)) = lexI [bn a] [bn b] := by
  cases a <;> cases b <;> rfl
theorem encU_lt (h : LH) (x y : Tn) : opLt h (encU x) (encU y) = some (.bl (lexI (tkey x) (tkey y))) := by
  have e : ltOk (encU x) (encU y) = true := by simp [ltOk, encU, PV.ok, PV.data, PV.dataL, PV.depth, PV.depthL, toD, toDL, W.alike, W.alikeAll, PV.isNon]
  have : opLt h (encU x) (encU y) = if ltOk (encU x) (encU y) then some (.bl (pyLt (encU x) (encU y))) else none := rfl
  rw [this, if_pos e]
  congr 2
  have := bn_lt x.g y.g
  simp only [encU, pyLt, pyLtL] at this ⊢
  rw [this]
  simp [pyEq, tkey, lexI]
theorem asc_zip {α : Type} (k : α → List Int) : ∀ r : List α, asc k r ↔ (r.zip r.tail).all (fun q => lexI (k q.1) (k q.2)) = true
  | [] => by simp [asc]
  | [_] => by simp [asc]
  | x :: y :: r => by
    have := asc_zip k (y :: r)
    rw [asc, this]
    simp
theorem dedI_len {α : Type} [DecidableEq α] : ∀ xs : List α, (dedI xs).length ≤ xs.length ∧ ((dedI xs).length = xs.length ↔ xs.Nodup)
  | [] => by simp [dedI]
  | x :: xs => by
    have := dedI_len xs
    unfold dedI
    by_cases c : x ∈ xs
    · rw [if_pos c]
      simp [c]
      omega
    · rw [if_neg c]
      simp [c]
      exact ⟨this.1, this.2⟩
structure UsOk (rs : List Rn) (per : Int) (us : List Tn) : Prop where
  u4 : us.length ≤ 4
  turns : ∀ u ∈ us, TnOk rs per u
  uasc : asc tkey us
  u1 : (us.map (·.r)).Nodup
  u2 : (us.map (·.r')).Nodup
def isTurns (rs : List Rn) (per : Int) (v : PV) : Prop := ∃ us, v = .tup (us.map encU) ∧ UsOk rs per us
theorem map_encU_inj {x y : List Tn} (e : x.map encU = y.map encU) : x = y := map_inj (fun _ _ => encU_inj) e
theorem nodup_cast {α : Type} (f : α → Nat) (us : List α) : (us.map fun u => ((f u : Nat) : Int)).Nodup ↔ (us.map f).Nodup := by
  rw [show (us.map fun u => ((f u : Nat) : Int)) = (us.map f).map (fun n : Nat => (n : Int)) by simp]
  generalize us.map f = l
  induction l with
  | nil => simp
  | cons a l ih =>
    rw [List.map_cons, List.nodup_cons, List.nodup_cons, ih]
    simp
    intro _
    exact ⟨fun z q => z a q rfl, fun z x hx e => z ((show x = a by omega) ▸ hx)⟩
structure SrcOk (rs : List Rn) (sr sc : Nat) : Prop where
  r : sr < rs.length
  c : sc + 1 < lenOf rs sr
def encS (sr sc : Nat) (e : Bool) : PV := .tup [.int sr, .int sc, .str (wordS e)]
def isSource (rs : List Rn) (v : PV) : Prop := ∃ sr sc e, v = encS sr sc e ∧ SrcOk rs sr sc
section
variable {T : Nat → Option FD} (hT : TabT T) {h : LH}
include hT
theorem ev_is_ascending {α : Type} {enc : α → PV} {k : α → List Int} (hk : ∀ h x y, opLt h (enc x) (enc y) = some (.bl (lexI (k x) (k y)))) (ys : List α) (hl : ys.length ≤ 100) (d : Nat) : fenv T (d + 1) n_is_ascending [.tup (ys.map enc)] h = .ok (.bl (B (asc k ys))) h := by
  rw [fenv_call hT.is_ascending]
  apply runFD_ret rfl
  simp [fd_is_ascending, ir_is_ascending]
  rw [← List.map_tail, zip_map, compL_a (g := fun q => .bl (lexI (k q.1) (k q.2))) (env1 := fun q => [some (.tup (ys.map enc)), some (enc q.1), some (enc q.2)]) (by simp) (by
    intro q hq
    simp [hk]) (by simp; omega)]
  simp [-List.map_map, fAll_map]
  rw [B_congr (asc_zip k ys)]
  simp [B]
theorem ev_are_turns {rs : List Rn} (hr : RsOk rs) {per : Int} {v : PV} (hv : v.data = true) (d : Nat) : fenv T (d + 5) n_are_turns [encRs rs, .int per, v] h = .ok (.bl (B (isTurns rs per v))) h := by
  rw [fenv_call hT.are_turns]
  apply runFD_ret rfl
  have er := ev_is_row hT (h := h) (lo := 0) (hi := 4) (data_fz hv) (d + 3)
  cases c : rowB v 0 4
  · have : ¬ isTurns rs per v := by
      rintro ⟨w, rfl, hw⟩
      have := hw.u4
      simp [rowB] at c
      omega
    rw [c] at er
    simp [fd_are_turns, ir_are_turns, er, B_false this]
  · obtain ⟨xs, rfl⟩ : ∃ xs, v = .tup xs := by
      unfold rowB at c; split at c
      · exact ⟨_, rfl⟩
      · cases c
    simp [rowB] at c
    rw [show rowB (.tup xs) 0 4 = true by simp [rowB, c]] at er
    rw [data_tup] at hv
    have e1 : compL (.name 3) tYes (cCall n_is_turn (lCons (cVar 0) (lCons (cVar 1) (lCons (cVar 3) lNil)))) (fenv T (d + 4)) [some (encRs rs), some (.int per), some (.tup xs), none, none, none] xs [] h = .ok (.lst (xs.map fun y => .bl (B (isTurn rs per y)))) h := by
      refine compL_u (env1 := fun y => [some (encRs rs), some (.int per), some (.tup xs), some y, none, none]) (by simp) (fun y hy => ?_) (by omega)
      simp
      exact ev_is_turn hT hr (hv y hy) d
    cases c1 : xs.all fun y => B (isTurn rs per y)
    · have : ¬ isTurns rs per (.tup xs) := by
        rintro ⟨us, e, hu⟩
        injection e with e
        subst e
        rw [Bool.eq_false_iff] at c1
        apply c1
        rw [List.all_eq_true]
        intro x hx
        obtain ⟨u, hu', rfl⟩ := List.mem_map.mp hx
        exact B_true ⟨u, rfl, hu.turns u hu'⟩
      simp [fd_are_turns, ir_are_turns, er, e1, -List.map_map, fAll_map, c1, B_false this]
    · obtain ⟨us, rfl, hus⟩ := all_enc (B := fun y => B (isTurn rs per y)) (enc := encU) (P := TnOk rs per) (fun v => B_iff) c1
      simp at c
      have ea := ev_is_ascending hT (h := h) encU_lt us (by omega) (d + 3)
      by_cases c2 : asc tkey us
      · rw [B_true c2] at ea
        have f1 : ∀ (a b : Option PV) (F : FEnv), compL (.name 3) tYes (cOp2 opIx (cVar 3) (cC (.int 0))) F [some (encRs rs), some (.int per), some (.tup (us.map encU)), none, a, b] (us.map encU) [] h = .ok (.lst (us.map fun u => .int u.r)) h := fun a b F => by
          refine compL_a (env1 := fun y => [some (encRs rs), some (.int per), some (.tup (us.map encU)), some (encU y), a, b]) (by simp) (fun y hy => ?_) (by omega)
          simp [encU]
        have f2 : ∀ (a b : Option PV) (F : FEnv), compL (.name 3) tYes (cOp2 opIx (cVar 3) (cC (.int 1))) F [some (encRs rs), some (.int per), some (.tup (us.map encU)), none, a, b] (us.map encU) [] h = .ok (.lst (us.map fun u => .int u.r')) h := fun a b F => by
          refine compL_a (env1 := fun y => [some (encRs rs), some (.int per), some (.tup (us.map encU)), some (encU y), a, b]) (by simp) (fun y hy => ?_) (by omega)
          simp [encU]
        have s1 : fSetLen h [.lst (us.map fun u => .int (u.r : Nat))] = some (.int (dedI (us.map fun u => ((u.r : Nat) : Int))).length) := by
          simp only [fSetLen, intsOf_map]
          rw [if_pos (by simp; omega)]
        have s2 : fSetLen h [.lst (us.map fun u => .int (u.r' : Nat))] = some (.int (dedI (us.map fun u => ((u.r' : Nat) : Int))).length) := by
          simp only [fSetLen, intsOf_map]
          rw [if_pos (by simp; omega)]
        have n1 := (dedI_len (us.map fun u => ((u.r : Nat) : Int))).2
        have n2 := (dedI_len (us.map fun u => ((u.r' : Nat) : Int))).2
        rw [nodup_cast, List.length_map] at n1 n2
        have key : isTurns rs per (.tup (us.map encU)) ↔ (us.map (·.r)).Nodup ∧ (us.map (·.r')).Nodup := by
          constructor
          · rintro ⟨us', e, hu⟩
            injection e with e
            have := map_encU_inj e
            subst this
            exact ⟨hu.u1, hu.u2⟩
          · rintro ⟨a, b⟩
            exact ⟨us, rfl, by omega, hus, c2, a, b⟩
        rw [B_congr key, ← n1, ← n2]
        simp [fd_are_turns, ir_are_turns, er, e1, -List.map_map, fAll_map, c1, ea, f1, f2, s1, s2]
        generalize (dedI (us.map fun u => ((u.r : Nat) : Int))).length = a
        generalize (dedI (us.map fun u => ((u.r' : Nat) : Int))).length = b
        by_cases q1 : a = us.length
        · by_cases q2 : b = us.length <;> simp [q1, q2, B]
          omega
        · simp [q1, B, show ((a : Int) == (us.length : Int)) = false by simp; omega]
      · rw [B_false c2] at ea
        have : ¬ isTurns rs per (.tup (us.map encU)) := by
          rintro ⟨us', e, hu⟩
          injection e with e
          have := map_encU_inj e
          subst this
          exact c2 hu.uasc
        simp [fd_are_turns, ir_are_turns, er, e1, -List.map_map, fAll_map, c1, ea, B_false this]
theorem ev_is_source {rs : List Rn} (hr : RsOk rs) {v : PV} (hv : v.data = true) (d : Nat) : fenv T (d + 3) n_is_source [encRs rs, v] h = .ok (.bl (B (isSource rs v))) h := by
  rw [fenv_call hT.is_source]
  apply runFD_ret rfl
  have er := ev_is_row hT (h := h) (lo := 3) (hi := 3) (data_fz hv) (d + 1)
  cases c : rowB v 3 3
  · have : ¬ isSource rs v := by
      rintro ⟨a, b, e, rfl, hw⟩
      simp [rowB, encS] at c
    rw [c] at er
    simp [fd_is_source, ir_is_source, er, B_false this]
  · obtain ⟨xs, rfl, hl⟩ := rowB_eq.mp c
    obtain ⟨v0, v1, v2, rfl⟩ := len3 hl
    rw [c] at er
    rw [data_tup] at hv
    have d0 := data_fz (hv v0 (by simp))
    have d1 := data_fz (hv v1 (by simp))
    have d2 := data_fz (hv v2 (by simp))
    cases c0 : wholeB v0 0 ((rs.length : Int) - 1)
    · have : ¬ isSource rs (.tup [v0, v1, v2]) := by
        rintro ⟨a, b, e, q, hw⟩
        simp [encS] at q
        rw [q.1, wholeB_nat.mpr ⟨a, rfl, hw.r⟩] at c0
        cases c0
      simp [fd_is_source, ir_is_source, er, encRs, ev_is_whole hT d0, c0, B_false this]
    obtain ⟨k0, rfl, l0⟩ := wholeB_nat.mp c0
    obtain ⟨r0, g0, m0, n0⟩ := run_get l0
    cases c1 : wholeB v1 0 ((r0.length : Int) - 2)
    · have : ¬ isSource rs (.tup [.int k0, v1, v2]) := by
        rintro ⟨a, b, e, q, hw⟩
        simp [encS] at q
        have hc := hw.c
        rw [show a = k0 by omega, n0] at hc
        rw [q.2.1, wholeB_nat2.mpr ⟨b, rfl, hc⟩] at c1
        cases c1
      simp [fd_is_source, ir_is_source, er, encRs, ev_is_whole hT d0, c0, atR g0, encR, ev_is_whole hT d1, c1, B_false this]
    obtain ⟨k1, rfl, l1⟩ := wholeB_nat2.mp c1
    have hb := fIs_fz (t := .str) (h := h) d2
    cases c2 : isBT .str v2
    · have : ¬ isSource rs (.tup [.int k0, .int k1, v2]) := by
        rintro ⟨a, b, e, q, hw⟩
        simp [encS] at q
        rw [q.2.2] at c2
        cases c2
      rw [c2] at hb
      simp [fd_is_source, ir_is_source, er, encRs, ev_is_whole hT d0, c0, atR g0, encR, ev_is_whole hT d1, c1, hb, B_false this]
    obtain ⟨w, rfl⟩ : ∃ w, v2 = .str w := by
      cases v2 <;> simp [isBT] at c2
      exact ⟨_, rfl⟩
    have key : isSource rs (.tup [.int k0, .int k1, .str w]) ↔ ("once" = w ∨ "each" = w) := by
      constructor
      · rintro ⟨a, b, e, q, hw⟩
        simp [encS] at q
        rw [q.2.2]
        cases e
        · exact .inl rfl
        · exact .inr rfl
      · rintro (rfl | rfl)
        · exact ⟨k0, k1, false, rfl, l0, by rw [n0]; exact l1⟩
        · exact ⟨k0, k1, true, rfl, l0, by rw [n0]; exact l1⟩
    have ei : opIn h (.str w) (.tup [.str "once", .str "each"]) = some (.bl (decide ("once" = w) || decide ("each" = w))) := by
      rw [opIn_tup h (by simp [PV.ok, PV.data, PV.depth]) (by simp [PV.ok, PV.data, PV.dataL, PV.depth, PV.depthL])]
      simp [inL, pyEq]
    rw [B_congr key]
    simp [fd_is_source, ir_is_source, er, encRs, ev_is_whole hT d0, c0, atR g0, encR, ev_is_whole hT d1, c1, hb, isBT, ei, B]
end
theorem order_iff (t : Tb) : (∃ r, order t = some r) ↔ Sound t := rounds_iff (Nat.lt_succ_self _)
def isTable (v : PV) : Prop := ∃ t, v = encT t ∧ TbOk t
theorem encRs_inj {x y : List Rn} (e : encRs x = encRs y) : x = y := by
  unfold encRs at e
  injection e with e
  exact map_inj (fun _ _ => encR_inj) e
theorem map_encW_inj {x y : List Wt} (e : x.map encW = y.map encW) : x = y := map_inj (fun _ _ => encW_inj) e
theorem _root_.M.TbPre.rs {t : Tb} (h : TbPre t) : RsOk t.runs := ⟨h.n1, h.n4, h.runs⟩
section
variable {T : Nat → Option FD} (hT : TabT T) {h : LH}
include hT
theorem ev_is_table {v : PV} (hv : v.data = true) (d : Nat) : fenv T (d + 6) n_is_table [v] h = .ok (.bl (B (isTable v))) h := by
  rw [fenv_call hT.is_table]
  apply runFD_ret rfl
  have er := ev_is_row hT (h := h) (lo := 5) (hi := 5) (data_fz hv) (d + 4)
  cases c : rowB v 5 5
  · have : ¬ isTable v := by
      rintro ⟨t, rfl, hw⟩
      simp [rowB, encT] at c
    rw [c] at er
    simp [fd_is_table, ir_is_table, er, B_false this]
  · obtain ⟨xs, rfl, hl⟩ := rowB_eq.mp c
    obtain ⟨v0, v1, v2, v3, v4, rfl⟩ := len5 hl
    rw [c] at er
    rw [data_tup] at hv
    have D0 := hv v0 (by simp)
    have D1 := hv v1 (by simp)
    have D2 := hv v2 (by simp)
    have D3 := hv v3 (by simp)
    have D4 := hv v4 (by simp)
    have er0 := ev_is_row hT (h := h) (lo := 1) (hi := 4) (data_fz D0) (d + 4)
    have bad : ∀ {p : Prop}, (∀ t, encT t = .tup [v0, v1, v2, v3, v4] → TbOk t → p) → ¬ p → B (isTable (.tup [v0, v1, v2, v3, v4])) = false := by
      rintro p q n
      apply B_false
      rintro ⟨w, e, hw⟩
      exact n (q w e.symm hw)
    cases c0 : rowB v0 1 4
    · have := bad (p := rowB v0 1 4 = true) (fun t e ht => by
        simp [encT] at e
        rw [← e.1]
        have := ht.n1
        have := ht.n4
        simp [rowB, encRs]
        omega) (by simp [c0])
      rw [c0] at er0
      simp [fd_is_table, ir_is_table, er, er0, this]
    rw [c0] at er0
    obtain ⟨xs, rfl⟩ : ∃ xs, v0 = .tup xs := by
      unfold rowB at c0; split at c0
      · exact ⟨_, rfl⟩
      · cases c0
    simp [rowB] at c0
    rw [data_tup] at D0
    have e1 : compL (.name 1) tYes (cCall n_is_run (lCons (cVar 1) lNil)) (fenv T (d + 5)) [some (.tup [.tup xs, v1, v2, v3, v4]), none, none, none, none, none, none, none] xs [] h = .ok (.lst (xs.map fun y => .bl (B (isRun y)))) h := by
      refine compL_u (env1 := fun y => [some (.tup [.tup xs, v1, v2, v3, v4]), some y, none, none, none, none, none, none]) (by simp) (fun y hy => ?_) (by omega)
      simp
      exact ev_is_run hT (D0 y hy) (d + 1)
    cases c1 : xs.all fun y => B (isRun y)
    · have := bad (p := (xs.all fun y => B (isRun y)) = true) (fun t e ht => by
        simp [encT, encRs] at e
        rw [← e.1, List.all_eq_true]
        intro x hx
        obtain ⟨r, hr, rfl⟩ := List.mem_map.mp hx
        exact B_true ⟨r, rfl, ht.runs r hr⟩) (by simp [c1])
      simp [fd_is_table, ir_is_table, er, er0, e1, -List.map_map, fAll_map, c1, this]
    obtain ⟨rs, rfl, hrs⟩ := all_enc (B := fun y => B (isRun y)) (enc := encR) (P := RunOk) (fun v => B_iff) c1
    simp at c0
    have hr : RsOk rs := ⟨by omega, by omega, hrs⟩
    cases c4 : wholeB v4 60 480
    · have := bad (p := wholeB v4 60 480 = true) (fun t e ht => by
        simp [encT] at e
        rw [← e.2.2.2.2]
        exact wholeB_iff.mpr ⟨_, rfl, ht.per0, ht.per1⟩) (by simp [c4])
      simp [fd_is_table, ir_is_table, er, er0, e1, -List.map_map, fAll_map, c1, ev_is_whole hT (data_fz D4), c4, this]
    obtain ⟨per, rfl, p0, p1⟩ := wholeB_iff.mp c4
    have er1 := ev_is_row hT (h := h) (lo := 0) (hi := 4) (data_fz D1) (d + 4)
    cases c5 : rowB v1 0 4
    · have := bad (p := rowB v1 0 4 = true) (fun t e ht => by
        simp [encT] at e
        rw [← e.2.1]
        have := ht.w4
        simp [rowB]
        omega) (by simp [c5])
      rw [c5] at er1
      simp [fd_is_table, ir_is_table, er, er0, e1, -List.map_map, fAll_map, c1, ev_is_whole hT (data_fz D4), c4, er1, this]
    rw [c5] at er1
    obtain ⟨ws, rfl⟩ : ∃ xs, v1 = .tup xs := by
      unfold rowB at c5; split at c5
      · exact ⟨_, rfl⟩
      · cases c5
    simp [rowB] at c5
    rw [data_tup] at D1
    have e2 : compL (.name 7) tYes (cCall n_is_wait (lCons (cVar 2) (lCons (cVar 7) lNil))) (fenv T (d + 5)) [some (.tup [.tup (rs.map encR), .tup ws, v2, v3, .int per]), none, some (.tup (rs.map encR)), some (.tup ws), some v2, some v3, some (.int per), none] ws [] h = .ok (.lst (ws.map fun y => .bl (B (isWait rs y)))) h := by
      refine compL_u (env1 := fun y => [some (.tup [.tup (rs.map encR), .tup ws, v2, v3, .int per]), none, some (.tup (rs.map encR)), some (.tup ws), some v2, some v3, some (.int per), some y]) (by simp) (fun y hy => ?_) (by omega)
      simp
      exact ev_is_wait hT hr (D1 y hy) (d + 1)
    cases c6 : ws.all fun y => B (isWait rs y)
    · have := bad (p := (ws.all fun y => B (isWait rs y)) = true) (fun t e ht => by
        simp only [encT, PV.tup.injEq, List.cons.injEq] at e
        have := encRs_inj (y := rs) e.1
        subst this
        rw [← e.2.1, List.all_eq_true]
        intro x hx
        obtain ⟨r, hr, rfl⟩ := List.mem_map.mp hx
        exact B_true ⟨r, rfl, ht.waits r hr⟩) (by simp [c6])
      simp [fd_is_table, ir_is_table, er, er0, e1, -List.map_map, fAll_map, c1, ev_is_whole hT (data_fz D4), c4, er1, e2, c6, this]
    obtain ⟨ws, rfl, hws⟩ := all_enc (B := fun y => B (isWait rs y)) (enc := encW) (P := WtOk rs) (fun v => B_iff) c6
    simp at c5
    have ea := ev_is_ascending hT (h := h) encW_lt ws (by omega) (d + 4)
    by_cases c7 : asc wkey ws
    rotate_left
    · have := bad (p := asc wkey ws) (fun t e ht => by
        simp only [encT, PV.tup.injEq, List.cons.injEq] at e
        have := map_encW_inj (y := ws) e.2.1
        subst this
        exact ht.wasc) c7
      rw [B_false c7] at ea
      simp [fd_is_table, ir_is_table, er, er0, e1, -List.map_map, fAll_map, c1, ev_is_whole hT (data_fz D4), c4, er1, e2, c6, ea, this]
    rw [B_true c7] at ea
    have eu := ev_are_turns hT hr (h := h) (per := per) D2 d
    by_cases c8 : isTurns rs per v2
    rotate_left
    · have := bad (p := isTurns rs per v2) (fun t e ht => by
        simp only [encT, PV.tup.injEq, List.cons.injEq, PV.int.injEq] at e
        have := encRs_inj (y := rs) e.1
        subst this
        rw [← e.2.2.2.2.1, ← e.2.2.1]
        exact ⟨_, rfl, ht.u4, ht.turns, ht.uasc, ht.u1, ht.u2⟩) c8
      rw [B_false c8] at eu
      simp only [encRs] at eu
      simp [fd_is_table, ir_is_table, er, er0, e1, -List.map_map, fAll_map, c1, ev_is_whole hT (data_fz D4), c4, er1, e2, c6, ea, eu, this]
    rw [B_true c8] at eu
    simp only [encRs] at eu
    have es := ev_is_source hT hr (h := h) D3 (d + 2)
    by_cases c9 : isSource rs v3
    rotate_left
    · have := bad (p := isSource rs v3) (fun t e ht => by
        simp only [encT, PV.tup.injEq, List.cons.injEq, PV.int.injEq] at e
        have := encRs_inj (y := rs) e.1
        subst this
        rw [← e.2.2.2.1]
        exact ⟨_, _, _, rfl, ht.sr, ht.sc⟩) c9
      rw [B_false c9] at es
      simp only [encRs] at es
      simp [fd_is_table, ir_is_table, er, er0, e1, -List.map_map, fAll_map, c1, ev_is_whole hT (data_fz D4), c4, er1, e2, c6, ea, eu, es, this]
    rw [B_true c9] at es
    simp only [encRs] at es
    obtain ⟨us, rfl, hus⟩ := c8
    obtain ⟨sr, sc, each, rfl, hs⟩ := c9
    have pre : TbPre ⟨rs, ws, us, sr, sc, each, per⟩ := ⟨hr.n1, hr.n4, hrs, p0, p1, (show ws.length ≤ 4 by omega), hws, c7, hus.u4, hus.turns, hus.uasc, hus.u1, hus.u2, hs.r, hs.c⟩
    have eo := ev_order_of hT (h := h) pre (d + 3)
    have key : isTable (.tup [.tup (rs.map encR), .tup (ws.map encW), .tup (us.map encU), encS sr sc each, .int per]) ↔ ∃ r, order ⟨rs, ws, us, sr, sc, each, per⟩ = some r := by
      rw [order_iff]
      constructor
      · rintro ⟨t, e, ht⟩
        simp only [encT, PV.tup.injEq, List.cons.injEq, PV.int.injEq] at e
        have h1 := encRs_inj (x := rs) e.1
        have h2 := map_encW_inj e.2.1
        have h3 := map_encU_inj e.2.2.1
        have : order t = order ⟨rs, ws, us, sr, sc, each, per⟩ := by
          have e1 : events t = events ⟨rs, ws, us, sr, sc, each, per⟩ := by unfold events; rw [← h1]
          have e2 : needs t = needs ⟨rs, ws, us, sr, sc, each, per⟩ := by
            funext x
            cases x with
            | ar r c => rfl
            | dp r c => simp only [needs, turnsTo, waitsTo, h1, h2, h3]
          unfold order
          rw [e1, e2]
        rw [← order_iff, ← this, order_iff]
        exact ht.sound
      · intro q
        exact ⟨_, rfl, pre, q⟩
    simp only [encT, encRs] at eo
    rw [B_congr key]
    cases ho : order ⟨rs, ws, us, sr, sc, each, per⟩ with
    | none =>
      rw [ho] at eo
      simp [fd_is_table, ir_is_table, er, er0, e1, -List.map_map, fAll_map, c1, ev_is_whole hT (data_fz D4), c4, er1, e2, c6, ea, eu, es]
      simp only [encS] at *
      simp [eo, PV.isNon, B]
    | some r =>
      rw [ho] at eo
      simp [fd_is_table, ir_is_table, er, er0, e1, -List.map_map, fAll_map, c1, ev_is_whole hT (data_fz D4), c4, er1, e2, c6, ea, eu, es]
      simp only [encS] at *
      simp [eo, PV.isNon, B]
end
end G
end
section
set_option Elab.async false
set_option linter.all false
set_option maxRecDepth 100000
/-! E5: draws, random runs. -/
namespace G
open PySem M
structure GenT (T : Nat → Option FD) : Prop where
  cell : T n__law_cell = some fd__law_cell
  draws : T n__law_draws = some fd__law_draws
  bag : T n__law_bag = some fd__law_bag
  take : T n__law_take = some fd__law_take
  choice : T n__law_choice = some fd__law_choice
  run : T n__law_run = some fd__law_run
  events : T n__law_events = some fd__law_events
  before : T n__law_before = some fd__law_before
  sound : T n__law_sound = some fd__law_sound
  meets : T n__law_meets = some fd__law_meets
  table : T n__law_table = some fd__law_table
  with_turns : T n__law_with_turns = some fd__law_with_turns
/-- the heap with a bag of draws at a place -/
def bagAt (h : LH) (n : Nat) (bag : List Int) : LH := h.set n (.lst (bag.map .int))
@[simp] theorem bagAt_len (h : LH) (n : Nat) (bag : List Int) : (bagAt h n bag).length = h.length := by simp [bagAt]
theorem bagAt_get {h : LH} {n : Nat} (hn : n < h.length) (bag : List Int) : (bagAt h n bag)[n]? = some (.lst (bag.map .int)) := by simp [bagAt, hn]
theorem bagAt_set (h : LH) (n : Nat) (bag bag' : List Int) : (bagAt h n bag).set n (.lst (bag'.map .int)) = bagAt h n bag' := by simp [bagAt, List.set_set]
/-- the end of a def that made nothing live -/
theorem runFD_ret2 {fd : FD} {F : FEnv} {args : List PV} {h h' : LH} {v : PV} (hn : args.length = fd.np) (hl : h'.length ≤ h.length) (e : fd.body F (args.map some ++ List.replicate (fd.ns - fd.np) none) h = .ret v h') : runFD fd F args h = .ok v h' := by
  unfold runFD
  rw [if_pos hn, e]
  simp [leave, hl]
/-- a def's end, and so -/
inductive RT : SRes → (PV → LH → Prop) → Prop
  | mk {v : PV} {h : LH} {Q : PV → LH → Prop} : Q v h → RT (.ret v h) Q
theorem RT.elim {r : SRes} {Q : PV → LH → Prop} (h : RT r Q) : ∃ v h', r = .ret v h' ∧ Q v h' := by
  cases h with
  | mk q => exact ⟨_, _, rfl, q⟩
theorem RT.gen {r : SRes} {Q : PV → LH → Prop} (g : ∀ J : PV → LH → Prop, (∀ env h, Q env h → J env h) → RT r J) : RT r Q := g Q fun _ _ h => h
theorem RT_ret (v : PV) (h : LH) (Q : PV → LH → Prop) : RT (.ret v h) Q = Q v h := by
  apply propext
  constructor
  · intro z
    obtain ⟨_, _, e, q⟩ := z.elim
    cases e
    exact q
  · exact .mk
inductive OK : Res PV → (PV → LH → Prop) → Prop
  | mk {v : PV} {h : LH} {Q : PV → LH → Prop} : Q v h → OK (.ok v h) Q
theorem OK.elim {r : Res PV} {Q : PV → LH → Prop} (h : OK r Q) : ∃ v h', r = .ok v h' ∧ Q v h' := by
  cases h with
  | mk q => exact ⟨_, _, rfl, q⟩
theorem runFD_RT {fd : FD} {F : FEnv} {args : List PV} {h : LH} {Q : PV → LH → Prop} (hn : args.length = fd.np) (hq : ∀ v h', Q v h' → h'.length ≤ h.length) (e : RT (fd.body F (args.map some ++ List.replicate (fd.ns - fd.np) none) h) Q) : OK (runFD fd F args h) Q := by
  obtain ⟨v, h', e, q⟩ := e.elim
  rw [runFD_ret2 hn (hq v h' q) e]
  exact .mk q
theorem ints_ok (xs : List Int) : (PV.lst (xs.map .int)).ok = true := ok_lst fun x hx => by
  obtain ⟨e, _, rfl⟩ := List.mem_map.mp hx
  simp [PV.data, PV.depth]
theorem opMod_pos (h : LH) {i j : Int} (hj : 0 < j) : opMod h (.int i) (.int j) = some (.int (i % j)) := by
  simp only [opMod]
  rw [if_pos (by omega), Int.fmod_eq_emod_of_nonneg _ (by omega)]
@[simp] theorem opMod_4 (h : LH) (i : Int) : opMod h (.int i) (.int 4) = some (.int (i % 4)) := opMod_pos h (by omega)
@[simp] theorem opMod_6 (h : LH) (i : Int) : opMod h (.int i) (.int 6) = some (.int (i % 6)) := opMod_pos h (by omega)
@[simp] theorem opMod_8 (h : LH) (i : Int) : opMod h (.int i) (.int 8) = some (.int (i % 8)) := opMod_pos h (by omega)
section
variable {T : Nat → Option FD} (hG : GenT T) {h : LH} {n : Nat} (hn : n < h.length)
include hG hn
theorem ev_take {m : Int} (hm : 0 < m) (bag : List Int) (d : Nat) : fenv T (d + 1) n__law_take [.ref n, .int m] (bagAt h n bag) = .ok (.int (bag.headD 0 % m)) (bagAt h n bag.tail) := by
  rw [fenv_call hG.take]
  apply runFD_ret2 rfl (by simp)
  have ene : opNe (bagAt h n bag) (.ref n) (.lst []) = some (.bl (decide (bag ≠ []))) := by
    unfold opNe opEq
    simp only [view, bagAt_get hn, ints_ok, show (PV.lst []).ok = true from rfl, Bool.and_self, if_true]
    cases bag <;> simp [pyEq, pyEqL]
  cases bag with
  | nil => simp [fd__law_take, ir__law_take, ene, opMod_pos _ hm]
  | cons b bag =>
    have g := bagAt_get hn (b :: bag)
    rw [List.map_cons] at g
    simp [fd__law_take, ir__law_take, ene, g, opMod_pos _ hm, bagAt_set]
/-- a draw: some number below, the bag goes on -/
theorem ev_take' {m : Int} (hm : 0 < m) (bag : List Int) : ∃ (k : Nat) (bag' : List Int), k < m ∧ ∀ d, fenv T (d + 1) n__law_take [.ref n, .int m] (bagAt h n bag) = .ok (.int k) (bagAt h n bag') :=
  ⟨(bag.headD 0 % m).toNat, bag.tail, by rw [Int.toNat_of_nonneg (Int.emod_nonneg _ (by omega))]; exact Int.emod_lt_of_pos _ hm, fun d => by
    rw [Int.toNat_of_nonneg (Int.emod_nonneg _ (by omega))]
    exact ev_take hG hn hm bag d⟩
theorem ev_choice {xs : List PV} (hx : xs ≠ []) (bag : List Int) : ∃ x ∈ xs, ∃ bag' : List Int, ∀ d, fenv T (d + 2) n__law_choice [.ref n, .lst xs] (bagAt h n bag) = .ok x (bagAt h n bag') := by
  have hl := List.length_pos_iff.mpr hx
  obtain ⟨k, bag', hk, e⟩ := ev_take' hG hn (m := xs.length) (by omega) bag
  refine ⟨xs[k]'(by omega), List.getElem_mem _, bag', fun d => ?_⟩
  rw [fenv_call hG.choice]
  apply runFD_ret2 rfl (by simp)
  simp [fd__law_choice, ir__law_choice, e, atI_nn, show k < xs.length by omega]
end
theorem links_snoc : ∀ (r : Rn) (x c : Call), r[r.length - 1]? = some x → linksOk r → linkOk x c → linksOk (r ++ [c])
  | [], x, c, e, _, _ => by simp at e
  | [y], x, c, e, _, l => by
    simp at e
    subst e
    exact ⟨l, trivial⟩
  | y :: z :: r, x, c, e, h, l => by
    have := links_snoc (z :: r) x c (by simpa using e) h.2 l
    exact ⟨h.1, this⟩
theorem links_last : ∀ (r : Rn) (c c' : Call), linksOk (r ++ [c]) → c'.p = c.p → c'.a = c.a → c'.s = c.s → linksOk (r ++ [c'])
  | [], c, c', _, _, _, _ => trivial
  | [y], c, c', h, e1, e2, e3 => by
    have := h.1
    unfold linkOk at this
    refine ⟨?_, trivial⟩
    unfold linkOk
    rw [e1, e2, e3]
    exact this
  | y :: z :: r, c, c', h, e1, e2, e3 => ⟨h.1, links_last (z :: r) c c' h.2 e1 e2 e3⟩
/-- a random run -/
structure GenR (r : Rn) : Prop where
  ok : RunOk r
  p : ∀ c ∈ r, c.p ≤ 3
  d : ∀ c ∈ r, c.d ≤ 120
/-- a random run, under way -/
structure GenI (m : Nat) (cs : Rn) (x : Call) : Prop where
  len : cs.length = m
  calls : ∀ c ∈ cs, callOk c ∧ c.p ≤ 3 ∧ c.d ≤ 45 + 25 * (m - 1)
  first : ∀ c, cs[0]? = some c → c.a = c.d ∧ c.s = 0
  last : cs[cs.length - 1]? = some x
  links : linksOk cs
section
variable {T : Nat → Option FD} (hG : GenT T) {h : LH} {n : Nat} (hn : n < h.length)
include hG hn
theorem ev_ch (vs : List Int) {lo hi : Int} (hv : vs ≠ []) (hb : ∀ v ∈ vs, lo ≤ v ∧ v ≤ hi) (bag : List Int) : ∃ (t : Int) (bag' : List Int), t ∈ vs ∧ lo ≤ t ∧ t ≤ hi ∧ ∀ d, fenv T (d + 2) n__law_choice [.ref n, .lst (vs.map .int)] (bagAt h n bag) = .ok (.int t) (bagAt h n bag') := by
  obtain ⟨x, hx, bag', e⟩ := ev_choice hG hn (xs := vs.map .int) (by simpa using hv) bag
  obtain ⟨t, ht, rfl⟩ := List.mem_map.mp hx
  exact ⟨t, bag', ht, (hb t ht).1, (hb t ht).2, e⟩
theorem ev_run (bag : List Int) (d : Nat) : OK (fenv T (d + 3) n__law_run [.ref n] (bagAt h n bag)) fun v h' => ∃ r bag', GenR r ∧ v = encR r ∧ h' = bagAt h n bag' := by
  rw [fenv_call hG.run]
  refine runFD_RT rfl (by rintro v h' ⟨r, b, -, -, rfl⟩; simp) (RT.gen fun J hJ => ?_)
  obtain ⟨k0, b1, hk0, e0⟩ := ev_take' hG hn (m := 4) (by omega) bag
  obtain ⟨t, b2, -, ht0, ht1, e1⟩ := ev_ch hG hn [0, 0, 5, 10, 20, 30, 45] (lo := 0) (hi := 45) (by simp) (by simp) b1
  obtain ⟨k2, b3, hk2, e2⟩ := ev_take' hG hn (m := 3) (by omega) b2
  simp at e1
  simp [fd__law_run, ir__law_run, e0, e1, e2, small_int (show -(2 ^ 62) ≤ 1 + (k2 : Int) by omega) (show 1 + (k2 : Int) < 2 ^ 62 by omega)]
  rw [show (1 + (k2 : Int)).toNat = 1 + k2 by omega, intsFrom_0]
  refine at_inv (fun r => RT r _) (fun ys env h' => ∃ m cs x bag a b c, m + ys.length = 2 + k2 ∧ 1 ≤ m ∧ GenI m cs x ∧ env = [some (.ref n), some (.int x.p), some (.int x.d), some (.tup (cs.map encC)), a, b, c, none] ∧ h' = bagAt h n bag) ?_ ?_ ?_
  · rintro y ys env h' ⟨m, cs, x, bag, a, b, c, hm, m1, g, rfl, rfl⟩
    refine ⟨[some (.ref n), some (.int x.p), some (.int x.d), some (.tup (cs.map encC)), some (.int y), b, c, none], by simp, NX.gen fun J hJ => ?_⟩
    obtain ⟨k3, b4, hk3, e3⟩ := ev_take' hG hn (m := 3) (by omega) bag
    obtain ⟨t4, b5, -, h40, h41, e4⟩ := ev_ch hG hn [4, 7, 10, 15, 20] (lo := 4) (hi := 20) (by simp) (by simp) b4
    obtain ⟨t5, b6, -, h50, h51, e5⟩ := ev_ch hG hn [0, 0, 2, 5] (lo := 0) (hi := 5) (by simp) (by simp) b5
    obtain ⟨k6, b7, hk6, e6⟩ := ev_take' hG hn (m := if 7 < t4 then 7 else t4) (by split <;> omega) b6
    simp at e4 e5
    have f0 : Sm (cs.map encC) := sm_of (by simp [g.len]; omega)
    simp [e3, e4, e5, e6, opAdd_tk, f0]
    have xm : x ∈ cs := List.mem_of_getElem? g.last
    obtain ⟨xok, xp, xd⟩ := g.calls x xm
    unfold callOk at xok
    generalize hc : (⟨(x.p + 1 + k3) % 4, x.d + t4, x.d + t4 + t5, k6⟩ : Call) = c1
    have cp : c1.p = (x.p + 1 + k3) % 4 := by rw [← hc]
    have ca : c1.a = x.d + t4 := by rw [← hc]
    have cd : c1.d = x.d + t4 + t5 := by rw [← hc]
    have cs' : c1.s = k6 := by rw [← hc]
    have hm' : m + (ys.length + 1) = 2 + k2 := by simpa using hm
    have hk6' : (k6 : Int) < t4 := by split at hk6 <;> omega
    have ck : callOk c1 ∧ c1.p ≤ 3 ∧ c1.d ≤ 45 + 25 * m := by
      unfold callOk
      rw [cp, ca, cd, cs']
      omega
    refine .mk (hJ _ _ ⟨m + 1, cs ++ [c1], c1, b7, some (.int y), some (.int t4), some (.int (x.d + t4)), by omega, by omega, ⟨by simp [g.len], fun z hz => ?_, fun z hz => ?_, by simp, links_snoc cs x c1 g.last g.links ?_⟩, ?_, rfl⟩)
    · rcases List.mem_append.mp hz with hz | hz
      · obtain ⟨a1, a2, a3⟩ := g.calls z hz
        exact ⟨a1, a2, by omega⟩
      · simp at hz
        rw [hz]
        exact ⟨ck.1, ck.2.1, by omega⟩
    · rw [List.getElem?_append_left (by rw [g.len]; omega)] at hz
      exact g.first z hz
    · unfold linkOk
      rw [cp, ca, cs']
      omega
    · simp [encC, ← hc]
  · refine ⟨1, [⟨k0, t, t, 0⟩], ⟨k0, t, t, 0⟩, b3, none, none, none, by simp; omega, by omega, ⟨rfl, ?_, ?_, rfl, trivial⟩, ?_, rfl⟩
    · intro z hz
      simp at hz
      rw [hz]
      unfold callOk
      simp
      omega
    · intro z hz
      simp at hz
      simp [← hz]
    · simp [encC]
  · rintro env' h' ⟨m, cs, x, bag, a, b, c, hm, m1, g, rfl, rfl⟩
    have hm' : m = 2 + k2 := by simpa using hm
    obtain ⟨cs0, rfl⟩ : ∃ cs0, cs = cs0 ++ [x] := by
      have e := List.dropLast_concat_getLast (l := cs) (by intro e; have := g.len; simp [e] at this; omega)
      have gl := g.last
      rw [List.getLast_eq_getElem] at e
      have hl := g.len
      have : cs[cs.length - 1]'(by omega) = x := by
        rw [List.getElem?_eq_getElem (by omega)] at gl
        exact Option.some.inj gl
      rw [this] at e
      exact ⟨_, e.symm⟩
    have gl := g.len
    simp at gl
    have i1 : L2.atI ((cs0 ++ [x]).map encC) (-1) = some (encC x) := atC_last g.last
    have f0 : Sm (cs0.map encC) := sm_of (by simp; omega)
    rw [List.map_append] at i1
    simp only [List.map_append, List.map_cons, List.map_nil] at i1 ⊢
    simp [i1]
    simp [encC, opAdd_tk, f0]
    obtain ⟨xok, xp, xd⟩ := g.calls x (by simp)
    refine .mk (hJ _ _ ⟨cs0 ++ [⟨x.p, x.a, x.a, x.s⟩], bag, ⟨⟨by simp; omega, by simp; omega, ?_, ?_, ?_, ?_⟩, ?_, ?_⟩, by simp [encR, encC, Function.comp_def], rfl⟩)
    · intro z hz
      rcases List.mem_append.mp hz with hz | hz
      · exact (g.calls z (List.mem_append_left _ hz)).1
      · simp at hz
        rw [hz]
        unfold callOk at xok ⊢
        simp
        omega
    · intro z hz
      rw [List.getElem?_append_left (by omega)] at hz
      exact g.first z (by rw [List.getElem?_append_left (by omega)]; exact hz)
    · intro z hz
      simp at hz
      simp [← hz]
    · exact links_last cs0 x _ g.links rfl rfl rfl
    · intro z hz
      rcases List.mem_append.mp hz with hz | hz
      · exact (g.calls z (List.mem_append_left _ hz)).2.1
      · simp at hz
        rw [hz]
        exact xp
    · intro z hz
      unfold callOk at xok
      rcases List.mem_append.mp hz with hz | hz
      · have := (g.calls z (List.mem_append_left _ hz)).2.2
        omega
      · simp at hz
        rw [hz]
        simp
        omega
end
end G
end
section
set_option Elab.async false
set_option linter.all false
set_option maxRecDepth 100000
/-! E6: _law_events, _law_before, _law_sound. -/
namespace G
open PySem M
/-- no object of the heap speaks of what is not there -/
def Cl (h : LH) : Prop := h.all (closedO h.length) = true
mutual
theorem data_closed (n : Nat) : ∀ v : PV, v.data = true → closedV n v = true
  | .non, _ => rfl
  | .bl _, _ => rfl
  | .int _, _ => rfl
  | .str _, _ => rfl
  | .tup xs, e => by
    rw [closedV]
    exact dataL_closed n xs (by rwa [PV.data] at e)
  | .lst xs, e => by
    rw [closedV]
    exact dataL_closed n xs (by rwa [PV.data] at e)
  | .dT _, e => by simp [PV.data] at e
  | .dK _, e => by simp [PV.data] at e
  | .ref _, e => by simp [PV.data] at e
  | .ext _ _, e => by simp [PV.data] at e
  | .scr _, e => by simp [PV.data] at e
theorem dataL_closed (n : Nat) : ∀ xs : List PV, PV.dataL xs = true → closedL n xs = true
  | [], _ => rfl
  | x :: xs, e => by
    rw [PV.dataL, Bool.and_eq_true] at e
    rw [closedL, data_closed n x e.1, dataL_closed n xs e.2]
    rfl
end
mutual
theorem closedV_mono {n m : Nat} (hm : n ≤ m) : ∀ v : PV, closedV n v = true → closedV m v = true
  | .non, _ => rfl
  | .bl _, _ => rfl
  | .int _, _ => rfl
  | .str _, _ => rfl
  | .ext _ _, _ => rfl
  | .ref k, e => by
    rw [closedV, decide_eq_true_eq] at e ⊢
    omega
  | .tup xs, e => by
    rw [closedV] at e ⊢
    exact closedL_mono hm xs e
  | .lst xs, e => by
    rw [closedV] at e ⊢
    exact closedL_mono hm xs e
  | .scr xs, e => by
    rw [closedV] at e ⊢
    exact closedL_mono hm xs e
  | .dT xs, e => by
    rw [closedV] at e ⊢
    exact closedP_mono hm xs e
  | .dK xs, e => by
    rw [closedV] at e ⊢
    exact closedQ_mono hm xs e
theorem closedL_mono {n m : Nat} (hm : n ≤ m) : ∀ xs : List PV, closedL n xs = true → closedL m xs = true
  | [], _ => rfl
  | x :: xs, e => by
    rw [closedL, Bool.and_eq_true] at e ⊢
    exact ⟨closedV_mono hm x e.1, closedL_mono hm xs e.2⟩
theorem closedP_mono {n m : Nat} (hm : n ≤ m) : ∀ xs : List (List Key × PV), closedP n xs = true → closedP m xs = true
  | [], _ => rfl
  | (_, x) :: xs, e => by
    rw [closedP, Bool.and_eq_true] at e ⊢
    exact ⟨closedV_mono hm x e.1, closedP_mono hm xs e.2⟩
theorem closedQ_mono {n m : Nat} (hm : n ≤ m) : ∀ xs : List (Key × PV), closedQ n xs = true → closedQ m xs = true
  | [], _ => rfl
  | (_, x) :: xs, e => by
    rw [closedQ, Bool.and_eq_true] at e ⊢
    exact ⟨closedV_mono hm x e.1, closedQ_mono hm xs e.2⟩
end
theorem closedO_mono {n m : Nat} (hm : n ≤ m) : ∀ v : LO, closedO n v = true → closedO m v = true
  | .lst xs, e => closedL_mono hm xs e
  | .dT xs, e => closedP_mono hm xs e
  | .dK xs, e => closedQ_mono hm xs e
  | .dead, _ => rfl
theorem Cl.snoc {h : LH} (c : Cl h) {o : LO} (e : closedO (h.length + 1) o = true) : Cl (h ++ [o]) := by
  unfold Cl at c ⊢
  simp only [List.length_append, List.length_cons, List.length_nil, List.all_append, List.all_cons, List.all_nil, Bool.and_true, Bool.and_eq_true]
  refine ⟨?_, e⟩
  rw [List.all_eq_true] at c ⊢
  exact fun x hx => closedO_mono (by omega) x (c x hx)
theorem Cl.set {h : LH} (c : Cl h) {o : LO} (n : Nat) (e : closedO h.length o = true) : Cl (h.set n o) := by
  unfold Cl at c ⊢
  rw [List.length_set]
  rw [List.all_eq_true] at c ⊢
  intro x hx
  rcases List.mem_or_eq_of_mem_set hx with hx | rfl
  · exact c x hx
  · exact e
theorem Cl.bagAt {h : LH} (c : Cl h) (n : Nat) (bag : List Int) : Cl (bagAt h n bag) := c.set n (by
  show closedL _ _ = true
  apply dataL_closed
  rw [dataL_iff]
  intro x hx
  obtain ⟨i, _, rfl⟩ := List.mem_map.mp hx
  rfl)
/-- a def's end, what it made live within forgotten -/
theorem runFD_tmp {fd : FD} {F : FEnv} {args : List PV} {h h1 tl : LH} {v : PV} (hn : args.length = fd.np) (hl : h1.length = h.length) (c : Cl h1) (hv : closedV h.length v = true) (e : fd.body F (args.map some ++ List.replicate (fd.ns - fd.np) none) h = .ret v (h1 ++ tl)) : runFD fd F args h = .ok v h1 := by
  unfold runFD
  rw [if_pos hn, e]
  show leave h.length v (h1 ++ tl) = _
  unfold leave
  by_cases t : tl = []
  · subst t
    rw [if_pos (by simp [hl])]
    simp
  · have := List.length_pos_iff.mpr t
    rw [if_neg (by simp [hl]; omega), ← hl, List.take_left' rfl]
    have c' : h1.all (closedO h1.length) = true := c
    rw [hl] at c' ⊢
    simp [hv, c']
theorem runFD_tmp' {fd : FD} {F : FEnv} {args : List PV} {h : LH} {v : PV} (hn : args.length = fd.np) (c : Cl h) (hv : closedV h.length v = true) (e : RT (fd.body F (args.map some ++ List.replicate (fd.ns - fd.np) none) h) fun w h' => w = v ∧ ∃ tl, h' = h ++ tl) : runFD fd F args h = .ok v h := by
  obtain ⟨_, _, e, rfl, tl, rfl⟩ := e.elim
  exact runFD_tmp hn rfl c hv e
section
variable (h : LH) (o o' : LO)
@[simp] theorem top_get : (h ++ [o])[h.length]? = some o := by simp
@[simp] theorem top_set : (h ++ [o]).set h.length o' = h ++ [o'] := by simp
end
theorem opMul_bit (h : LH) (x : PV) (b : Bool) : opMul h (.lst [x]) (.int (if b then 1 else 0)) = some (.lst (if b then [x] else [])) := by
  cases b <;> rfl
@[simp] theorem opMul_1 (h : LH) (x : PV) : opMul h (.lst [x]) (.int 1) = some (.lst [x]) := nd rfl
@[simp] theorem opMul_0 (h : LH) (x : PV) : opMul h (.lst [x]) (.int 0) = some (.lst []) := nd rfl
theorem lenOf_get {rs : List Rn} {k : Nat} (h : k < rs.length) : lenOf rs k = (rs[k]).length := by simp [lenOf, h]
theorem eventsFrom_range : ∀ (rs : List Rn) (k : Nat), eventsFrom k rs = (List.range rs.length).flatMap fun r => evRun (k + r) (lenOf rs r)
  | [], _ => rfl
  | r :: rs, k => by
    rw [eventsFrom, eventsFrom_range rs (k + 1), List.length_cons, List.range_succ_eq_map, List.flatMap_cons, List.flatMap_map]
    congr 1
    congr 1
    funext x
    rw [lenOf_succ, show k + 1 + x = k + (x + 1) by omega]
section
variable {T : Nat → Option FD} (hG : GenT T) {h : LH}
include hG
theorem ev_levents {t : Tb} (ht : TbPre t) (d : Nat) : fenv T (d + 1) n__law_events [encT t] h = .ok (.lst ((events t).map encE)) h := by
  rw [fenv_call hG.events]
  apply runFD_ret rfl
  have hl := ht.events_len
  have n4 := ht.n4
  simp [fd__law_events, ir__law_events, encT, encRs, small_nat (show t.runs.length < 2 ^ 62 by omega), intsFrom_0]
  refine at_col (fun r => r = _) (fun r => evRun r (lenOf t.runs r)) (fun s env h' => h' = h ∧ ∃ a b, env = [some (encT t), some (.lst (s.map encE)), a, b]) [] (events t) ?_ (by simp [events, eventsFrom_range]) ⟨rfl, none, none, rfl⟩ ?_
  · rintro k hk s env h' pre ⟨rfl, a, b, rfl⟩
    refine ⟨[some (encT t), some (.lst (s.map encE)), some (.int k), b], by simp, NX.gen fun J hJ => ?_⟩
    have hs : (s ++ evRun k (lenOf t.runs k)).length ≤ 32 := Nat.le_trans pre.length_le hl
    have hk := List.mem_range.mp hk
    obtain ⟨r, g, m, nl⟩ := run_get hk
    have := (ht.runs r m).hi
    simp [encT, encRs, atR g, encR, small_nat (show r.length < 2 ^ 62 by omega), intsFrom_0]
    rw [nl] at hs hJ
    refine at_col (fun r => NX r _) (fun c => (if 0 < c then [Ev.ar k c] else []) ++ (if c + 1 < r.length then [Ev.dp k c] else [])) (fun s env h'' => h'' = h' ∧ ∃ c, env = [some (encT t), some (.lst (s.map encE)), some (.int k), c]) s (s ++ evRun k r.length) ?_ rfl ⟨rfl, b, rfl⟩ ?_
    · rintro c hc s1 env h'' pre1 ⟨rfl, c', rfl⟩
      refine ⟨[some (encT t), some (.lst (s1.map encE)), some (.int k), some (.int c)], by simp, NX.gen fun J hJ => ?_⟩
      have l1 := Nat.le_trans pre1.length_le hs
      simp only [List.length_append] at l1
      have f0 : Sm (s1.map encE) := sm_of (by simp; omega)
      have f1 : ∀ x, Sm (s1.map encE ++ [x]) := fun x => sm_of (by simp; omega)
      simp only [encT, encRs] at hJ
      by_cases c1 : 0 < c
      · by_cases c2 : c + 1 < r.length
        · simp [encT, encRs, atR g, encR, c1, c2, show (c : Int) + 1 < (r.length : Int) by omega, opAdd_lk, f0, f1]
          refine .mk (hJ _ _ ⟨rfl, some (.int c), ?_⟩)
          simp [c1, c2, encE, encR]
        · simp [encT, encRs, atR g, encR, c1, c2, show ¬ (c : Int) + 1 < (r.length : Int) by omega, opAdd_lk, f0, f1]
          refine .mk (hJ _ _ ⟨rfl, some (.int c), ?_⟩)
          simp [c1, c2, encE, encR]
      · by_cases c2 : c + 1 < r.length
        · simp [encT, encRs, atR g, encR, c1, c2, show (c : Int) + 1 < (r.length : Int) by omega, opAdd_lk, f0, f1]
          refine .mk (hJ _ _ ⟨rfl, some (.int c), ?_⟩)
          simp [c1, c2, encE, encR]
        · simp [encT, encRs, atR g, encR, c1, c2, show ¬ (c : Int) + 1 < (r.length : Int) by omega, opAdd_lk, f0, f1]
          refine .mk (hJ _ _ ⟨rfl, some (.int c), ?_⟩)
          simp [c1, c2, encE, encR]
    · rintro env' h'' ⟨rfl, c', rfl⟩
      exact .mk (hJ _ _ ⟨rfl, _, _, rfl⟩)
  · rintro env' h' ⟨rfl, a, b, rfl⟩
    simp
end
theorem waitsTo_flat (t : Tb) (r c : Nat) : waitsTo t r c = t.waits.flatMap fun w => if w.r = r ∧ w.c = c then [Ev.ar w.r' w.c'] else [] := by
  unfold waitsTo
  induction t.waits with
  | nil => rfl
  | cons u us ih =>
    rw [List.filter_cons, List.flatMap_cons]
    by_cases c1 : u.r = r ∧ u.c = c
    · rw [if_pos c1, if_pos (by simp [c1]), List.map_cons, ih]
      rfl
    · rw [if_neg c1, if_neg (by simpa using c1), ih]
      rfl
theorem needs_len {t : Tb} (ht : TbPre t) (e : Ev) : (needs t e).length ≤ 9 := by
  cases e with
  | ar r c => simp [needs]
  | dp r c =>
    have h1 : (turnsTo t r c).length ≤ 4 := by
      unfold turnsTo
      rw [List.length_map]
      exact Nat.le_trans (List.length_filter_le _ _) ht.u4
    have h2 : (waitsTo t r c).length ≤ 4 := by
      unfold waitsTo
      rw [List.length_map]
      exact Nat.le_trans (List.length_filter_le _ _) ht.w4
    have h3 : (if 0 < c then [Ev.ar r c] else []).length ≤ 1 := by split <;> simp
    simp only [needs, List.length_append]
    omega
theorem evs_data (es : List Ev) : PV.dataL (es.map encE) = true := by
  rw [dataL_iff]
  intro x hx
  obtain ⟨e, _, rfl⟩ := List.mem_map.mp hx
  exact (encE_ok e).1
section
variable {T : Nat → Option FD} (hG : GenT T) {h : LH}
include hG
theorem ev_before {t : Tb} (ht : TbPre t) (cl : Cl h) {e : Ev} (he : e ∈ events t) (d : Nat) : fenv T (d + 1) n__law_before [encT t, encE e] h = .ok (.lst ((needs t e).map encE)) h := by
  rw [fenv_call hG.before]
  rcases events_mem.mp he with ⟨r, c, rfl, hc, hc'⟩ | ⟨r, c, rfl, hc⟩
  · apply runFD_ret rfl
    simp [fd__law_before, ir__law_before, encE, needs, show ((c - 1 : Nat) : Int) = (c : Int) - 1 by omega]
  · have nl := needs_len ht (.dp r c)
    refine runFD_tmp (h1 := h) (tl := [.dead]) rfl rfl cl (data_closed _ _ (by rw [PV.data]; exact evs_data _)) ?_
    have hneeds : (if 0 < c then [Ev.ar r c] else []) ++ turnsTo t r c ++ waitsTo t r c = needs t (.dp r c) := rfl
    simp [fd__law_before, ir__law_before, dep_ne, show encE (.dp r c) = .tup [.str "depart", .int r, .int c] from rfl]
    generalize hs0 : (if 0 < c then [Ev.ar r c] else []) = s0 at hneeds
    have e1 : opMul h (.lst [.tup [.str "arrive", .int r, .int c]]) (.int (if 0 < c then 1 else 0)) = some (.lst (s0.map encE)) := by
      rw [← hs0]
      by_cases c1 : 0 < c <;> simp [c1, encE]
    simp [e1]
    have i2 : ∀ h, opIx h (encT t) (.int 2) = some (.tup (t.turns.map encU)) := by simp [encT]
    have i1 : ∀ h, opIx h (encT t) (.int 1) = some (.tup (t.waits.map encW)) := by simp [encT]
    simp [i2]
    refine at_col (fun r => r = _) (fun u => if u.r' = r ∧ c = 0 ∧ u.g = false then [Ev.ar u.r (lenOf t.runs u.r - 1)] else []) (fun s env h' => h' = h ++ [.lst (s.map encE)] ∧ ∃ x y z, env = [some (encT t), some (.tup [.str "depart", .int r, .int c]), some (.str "depart"), some (.int r), some (.int c), some (.ref h.length), x, y, z, none]) s0 (s0 ++ turnsTo t r c) ?_ (by rw [turnsTo_flat]) ⟨rfl, none, none, none, rfl⟩ ?_
    · rintro u hu s env h' pre ⟨rfl, x, y, z, rfl⟩
      refine ⟨[some (encT t), some (.tup [.str "depart", .int r, .int c]), some (.str "depart"), some (.int r), some (.int c), some (.ref h.length), some (.int u.r), some (.int u.r'), some (.bl u.g), none], by simp [encU], NX.gen fun J hJ => ?_⟩
      have ls := pre.length_le
      have := congrArg List.length hneeds
      simp only [List.length_append] at ls this
      have f0 : s.length < 16777216 := by omega
      obtain ⟨x1, y1, a1, a2, -⟩ := (ht.turns u hu).meet
      have ur := (ht.turns u hu).r
      obtain ⟨ru, g1, m1, n1⟩ := run_get ur
      have := (ht.len_pos ur).1
      by_cases c1 : u.r' = r
      · by_cases c2 : c = 0
        · cases c3 : u.g
          · subst c2
            simp [c1, encT, encRs, atR g1, encR, isLiveL, f0]
            refine .mk (hJ _ _ ⟨?_, some (.int u.r), some (.int u.r'), some (.bl u.g), ?_⟩)
            · simp [c1, c3, encE, n1, show ((ru.length - 1 : Nat) : Int) = (ru.length : Int) - 1 by omega]
            · simp [c1, c3, encT, encRs, encR]
          · simp [c1, c2]
            refine .mk (hJ _ _ ⟨?_, some (.int u.r), some (.int u.r'), some (.bl u.g), ?_⟩) <;> simp [c1, c2, c3]
        · simp [c1, c2, show ((c : Int) == 0) = false by simp; omega]
          refine .mk (hJ _ _ ⟨?_, some (.int u.r), some (.int u.r'), some (.bl u.g), ?_⟩) <;> simp [c1, c2]
      · simp [c1, show ((u.r' : Int) == (r : Int)) = false by simp; omega]
        refine .mk (hJ _ _ ⟨?_, some (.int u.r), some (.int u.r'), some (.bl u.g), ?_⟩) <;> simp [c1]
    · rintro env' h' ⟨rfl, x, y, z, rfl⟩
      simp [i1]
      refine at_col (fun r => r = _) (fun w => if w.r = r ∧ w.c = c then [Ev.ar w.r' w.c'] else []) (fun s env h' => h' = h ++ [.lst (s.map encE)] ∧ ∃ w, env = [some (encT t), some (.tup [.str "depart", .int r, .int c]), some (.str "depart"), some (.int r), some (.int c), some (.ref h.length), x, y, z, w]) (s0 ++ turnsTo t r c) (needs t (.dp r c)) ?_ (by rw [← waitsTo_flat, hneeds]) ⟨by simp, none, rfl⟩ ?_
      · rintro w hw s env h' pre ⟨rfl, w', rfl⟩
        refine ⟨[some (encT t), some (.tup [.str "depart", .int r, .int c]), some (.str "depart"), some (.int r), some (.int c), some (.ref h.length), x, y, z, some (encW w)], by simp, NX.gen fun J hJ => ?_⟩
        have ls := pre.length_le
        simp only [List.length_append] at ls
        have f0 : s.length < 16777216 := by omega
        by_cases c1 : w.r = r
        · by_cases c2 : w.c = c
          · simp [encW, c1, c2, isLiveL, f0]
            refine .mk (hJ _ _ ⟨?_, some (encW w), ?_⟩) <;> simp [c1, c2, encE, encW]
          · simp [encW, c1, c2, show ((w.c : Int) == (c : Int)) = false by simp; omega]
            refine .mk (hJ _ _ ⟨?_, some (encW w), ?_⟩) <;> simp [c1, c2, encE, encW]
        · simp [encW, c1, show ((w.r : Int) == (r : Int)) = false by simp; omega]
          refine .mk (hJ _ _ ⟨?_, some (encW w), ?_⟩) <;> simp [c1, encE, encW]
      · rintro env' h' ⟨rfl, w, rfl⟩
        simp [freeze]
theorem ev_sound {t : Tb} (ht : TbPre t) (cl : Cl h) (d : Nat) : fenv T (d + 2) n__law_sound [encT t] h = .ok (.bl (B (Sound t))) h := by
  rw [fenv_call hG.sound]
  refine runFD_tmp' rfl cl rfl (RT.gen fun J hJ => ?_)
  have hl := ht.events_len
  obtain ⟨r, hr⟩ := closure_some (E := events t) (N := needs t) (n := (events t).length + 1) (g := []) inv_nil (by simp)
  have hiff := closure_iff (events_nodup t) hr
  have le32 : ∀ g, Inv (events t) (needs t) g → g.length ≤ 32 := fun g i => Nat.le_trans (nodup_sub_len i.nd fun x hx => (i.ok x hx).mem) hl
  simp [fd__law_sound, ir__law_sound]
  refine at_while (fun r => RT r _) (fun n env h' => ∃ g many a b, h' = h ++ [.lst (g.map encE)] ∧ env = [some (encT t), some (.ref h.length), some (.int many), a, b, none] ∧ Inv (events t) (needs t) g ∧ ((many < g.length ∧ closure (events t) (needs t) n g = some r) ∨ ((g.length : Int) ≤ many ∧ g = r))) ((events t).length + 1) (by unfold whileFuel; omega) ⟨[], -1, none, none, by simp, rfl, inv_nil, .inl ⟨by simp, hr⟩⟩ ?_
  rintro n env h' ⟨g, many, a, b, rfl, rfl, ig, hc⟩
  have lg := le32 g ig
  have fl : ∀ g : List Ev, fLen (h ++ [.lst (g.map encE)]) [.ref h.length] = some (.int g.length) := fun g => by simp [fLen, view]
  rcases hc with ⟨hm, hcl⟩ | ⟨hm, rfl⟩
  rotate_left
  · refine .stop (h ++ [.lst (g.map encE)]) (by simp [fl, show ¬ many < (g.length : Int) by omega]) ?_
    simp [fl, ev_levents hG ht]
    refine .mk (hJ _ _ ⟨?_, _, rfl⟩)
    congr 1
    rw [B_congr (show Sound t ↔ g.length = (events t).length from hiff.symm), B_dec]
    by_cases q : g.length = (events t).length
    · simp [q]
    · simp [q]
      omega
  · cases n with
    | zero => cases hcl
    | succ n =>
      refine .go (h ++ [.lst (g.map encE)]) n (by simp [fl, hm]) (by omega) (NX.gen fun K hK => ?_)
      simp [fl, ev_levents hG ht]
      refine at_fold (fun r => NX r _) (fun s env h' => h' = h ++ [.lst (s.map encE)] ∧ Inv (events t) (needs t) s ∧ ∃ a b, env = [some (encT t), some (.ref h.length), some (.int g.length), a, b, none]) (pass1 (needs t)) g ?_ ⟨rfl, ig, a, b, rfl⟩ ?_
      · rintro e he s env h' ⟨rfl, is, a, b, rfl⟩
        refine ⟨[some (encT t), some (.ref h.length), some (.int g.length), some (encE e), b, none], by simp, NX.gen fun K hK => ?_⟩
        have ls := le32 s is
        have cl' : Cl (h ++ [.lst (s.map encE)]) := cl.snoc (dataL_closed _ _ (evs_data s))
        have f0 : s.length < 16777216 := by omega
        have vi : ∀ x, opNotIn (h ++ [.lst (s.map encE)]) (encE x) (.ref h.length) = some (.bl (decide (x ∉ s))) := fun x => by
          have : opNotIn (h ++ [.lst (s.map encE)]) (encE x) (.ref h.length) = opNotIn (h ++ [.lst (s.map encE)]) (encE x) (.lst (s.map encE)) := by
            simp [opNotIn, opIn, view]
          rw [this, evs_notin]
        simp [ev_before hG ht cl' he]
        rw [compL_t (enc := encE) (p := fun n => decide (n ∉ s)) (g := encE) (env1 := fun n => [some (encT t), some (.ref h.length), some (.int g.length), some (encE e), b, some (encE n)]) (by simp) (by
          intro n hn
          simp [vi]) (by simp) (by simp; have := needs_len ht e; omega)]
        have hg : ((needs t e).filter fun n => decide (n ∉ s)) = [] ↔ goodIn (needs t) s e = true := by
          simp [goodIn, List.filter_eq_nil_iff]
        generalize ((needs t e).filter fun n => decide (n ∉ s)) = lac at hg
        simp [vi]
        have hp : pass1 (needs t) s e = if e ∉ s ∧ goodIn (needs t) s e = true then s ++ [e] else s := rfl
        have ip := pass1_inv (N := needs t) he is
        rw [hp] at ip hK
        by_cases c1 : e ∈ s
        · rw [if_neg (by simp [c1])] at hK
          simp [c1]
          exact .mk (hK _ _ ⟨rfl, is, _, _, rfl⟩)
        · by_cases c2 : goodIn (needs t) s e = true
          · rw [if_pos ⟨c1, c2⟩] at hK ip
            have c3 := hg.mpr c2
            subst c3
            simp [c1, isLiveL, f0]
            refine .mk (hK _ _ ⟨?_, ip, some (encE e), some (.lst []), rfl⟩)
            simp
          · rw [if_neg (by simp [c2])] at hK
            have c3 : lac ≠ [] := fun e => c2 (hg.mp e)
            simp [c1, evs_eq0, c3]
            exact .mk (hK _ _ ⟨rfl, is, some (encE e), some (.lst (lac.map encE)), rfl⟩)
      · rintro env' h' ⟨rfl, is, a, b, rfl⟩
        have hfold : (events t).foldl (pass1 (needs t)) g = passE (events t) (needs t) g := rfl
        rw [hfold] at is ⊢
        unfold closure at hcl
        refine .mk (hK _ _ ⟨passE (events t) (needs t) g, g.length, a, b, rfl, rfl, is, ?_⟩)
        split at hcl
        · exact .inl ⟨by omega, hcl⟩
        · exact .inr ⟨by omega, by simpa using hcl⟩
end
end G
end
section
set_option Elab.async false
set_option linter.all false
set_option maxRecDepth 100000
/-! E7: _law_meets, _law_table, _law_with_turns. -/
namespace G
open PySem M
theorem insB_mapT {α : Type} {enc : α → PV} {k : α → List Int} (hk : ∀ x y, pyLt (enc x) (enc y) = lexI (k x) (k y)) (x : α) : ∀ l : List α, insB (enc x) (l.map enc) = (insY k x l).map enc
  | [] => rfl
  | y :: l => by
    rw [List.map_cons, insB, insY, hk]
    split
    · rw [insB_mapT hk x l, List.map_cons]
    · rfl
theorem isort_mapT {α : Type} {enc : α → PV} {k : α → List Int} (hk : ∀ x y, pyLt (enc x) (enc y) = lexI (k x) (k y)) : ∀ l : List α, isort (l.map enc) = (sortK k l).map enc
  | [] => rfl
  | x :: l => by rw [List.map_cons, isort, isort_mapT hk l, insB_mapT hk, sortK]
theorem dedP_mapT {α : Type} [DecidableEq α] {enc : α → PV} (he : ∀ x y, pyEq (enc x) (enc y) = decide (x = y)) : ∀ l : List α, dedP (l.map enc) = (dedI l).map enc
  | [] => rfl
  | x :: l => by
    rw [List.map_cons, dedP, inL_map he, dedP_mapT he l, dedI]
    by_cases c : x ∈ l <;> simp [c]
theorem dedI_memT {α : Type} [DecidableEq α] {z : α} : ∀ {l : List α}, z ∈ dedI l ↔ z ∈ l
  | [] => by simp [dedI]
  | x :: l => by
    rw [dedI]
    split
    · rename_i c
      rw [dedI_memT, List.mem_cons]
      constructor
      · exact .inr
      · rintro (rfl | h)
        · exact c
        · exact h
    · rw [List.mem_cons, dedI_memT, List.mem_cons]
theorem dedI_nodupT {α : Type} [DecidableEq α] : ∀ l : List α, (dedI l).Nodup
  | [] => List.nodup_nil
  | x :: l => by
    rw [dedI]
    split
    · exact dedI_nodupT l
    · rename_i c
      exact List.nodup_cons.mpr ⟨fun q => c (dedI_memT.mp q), dedI_nodupT l⟩
theorem encW_eq (x y : Wt) : pyEq (encW x) (encW y) = decide (x = y) := by
  cases x; cases y
  simp [encW, pyEq, pyEqL]
  rename_i a b c d e a' b' c' d' e'
  by_cases h1 : a = a' <;> by_cases h2 : b = b' <;> by_cases h3 : c = c' <;> by_cases h4 : d = d' <;> by_cases h5 : e = e' <;> simp [h1, h2, h3, h4, h5] <;> omega
theorem encW_lt' (x y : Wt) : pyLt (encW x) (encW y) = lexI (wkey x) (wkey y) := by
  simp [encW, pyLt, pyLtL, pyEq, wkey, lexI]
theorem encU_lt' (x y : Tn) : pyLt (encU x) (encU y) = lexI (tkey x) (tkey y) := by
  have := bn_lt x.g y.g
  simp only [encU, pyLt, pyLtL] at this ⊢
  rw [this]
  simp [pyEq, tkey, lexI]
def encM (m : M4) : PV := .tup [.int m.1, .int m.2.1, .int m.2.2.1, .int m.2.2.2]
theorem intTups_map : ∀ ws : List Wt, intTups (ws.map encW) = some (ws.map wkey)
  | [] => rfl
  | w :: ws => by
    rw [List.map_cons, intTups, intTups_map ws]
    simp [intTup, encW, intsOf, wkey]
/-- the sorted set of some waits -/
theorem fSetSort_waits (h : LH) {ws : List Wt} (hne : ws ≠ []) (hl : ws.length < 64) (hb : ∀ w ∈ ws, w.r < 1048576 ∧ w.c < 1048576 ∧ w.r' < 1048576 ∧ w.c' < 1048576 ∧ 0 ≤ w.m ∧ w.m < 1048576) : fSetSort h [.tup (ws.map encW)] = some (.lst ((sortK wkey (dedI ws)).map encW)) := by
  unfold fSetSort
  simp only [intTups_map]
  cases ws with
  | nil => exact absurd rfl hne
  | cons w ws =>
    simp only [List.map_cons]
    have ev : evenOk (wkey w).length (wkey w :: ws.map wkey) = true := by
      unfold evenOk
      rw [List.all_eq_true]
      intro k hk
      have : ∃ w' ∈ w :: ws, k = wkey w' := by
        rcases List.mem_cons.mp hk with rfl | hk
        · exact ⟨w, by simp, rfl⟩
        · obtain ⟨w', h1, rfl⟩ := List.mem_map.mp hk
          exact ⟨w', by simp [h1], rfl⟩
      obtain ⟨w', hw', rfl⟩ := this
      have := hb w' hw'
      simp [wkey]
      omega
    rw [if_pos (by simp at hl; simp [ev, hl]; simp [wkey])]
    rw [show encW w :: ws.map encW = (w :: ws).map encW from rfl, dedP_mapT encW_eq, isort_mapT encW_lt']
section
variable {T : Nat → Option FD} (hG : GenT T) {h : LH}
include hG
theorem ev_meets {rs : List Rn} (hr : RsOk rs) (cl : Cl h) (d : Nat) : fenv T (d + 1) n__law_meets [encRs rs] h = .ok (.lst ((meets rs).map encM)) h := by
  rw [fenv_call hG.meets]
  have md : PV.dataL ((meets rs).map encM) = true := by
    rw [dataL_iff]
    intro x hx
    obtain ⟨e, _, rfl⟩ := List.mem_map.mp hx
    simp [encM, PV.data, PV.dataL]
  refine runFD_tmp' rfl cl (data_closed _ _ (by rw [PV.data]; exact md)) (RT.gen fun J hJ => ?_)
  have n4 := hr.n4
  have r4 : ∀ r ∈ rs, r.length ≤ 4 := fun r h => (hr.runs r h).hi
  have ml := meets_len n4 r4
  simp [fd__law_meets, ir__law_meets, encRs, small_nat (show rs.length < 2 ^ 62 by omega), intsFrom_0]
  refine at_col (fun r => RT r _) (meet1 rs) (fun s env h' => h' = h ++ [.lst (s.map encM)] ∧ ∃ a b c d e f, env = [some (encRs rs), some (.ref h.length), a, b, c, d, e, f]) [] (meets rs) ?_ (by rfl) ⟨rfl, none, none, none, none, none, none, rfl⟩ ?_
  · rintro r hr1 s env h' pre ⟨rfl, a, b, c, e, f, g, rfl⟩
    refine ⟨[some (encRs rs), some (.ref h.length), some (.int r), b, c, e, f, g], by simp, NX.gen fun J hJ => ?_⟩
    have hr1 := List.mem_range.mp hr1
    obtain ⟨run, g1, m1, n1⟩ := run_get hr1
    have := (hr.runs run m1).lo
    have := (hr.runs run m1).hi
    have pl := Nat.le_trans pre.length_le ml
    simp [encRs, small_nat (show rs.length < 2 ^ 62 by omega), intsFrom_0]
    refine at_col (fun r => NX r _) (meet2 rs r) (fun s env h' => h' = h ++ [.lst (s.map encM)] ∧ ∃ b c d e f, env = [some (encRs rs), some (.ref h.length), some (.int r), b, c, d, e, f]) s (s ++ meet1 rs r) ?_ rfl ⟨rfl, b, c, e, f, g, rfl⟩ ?_
    · rintro o ho s env h' pre1 ⟨rfl, b, c, e, f, g, rfl⟩
      refine ⟨[some (encRs rs), some (.ref h.length), some (.int r), some (.int o), c, e, f, g], by simp, NX.gen fun J hJ => ?_⟩
      have ho := List.mem_range.mp ho
      obtain ⟨run2, g2, m2, n2⟩ := run_get ho
      have := (hr.runs run2 m2).lo
      have := (hr.runs run2 m2).hi
      have pl1 := Nat.le_trans pre1.length_le pl
      simp [encRs, atR g1, encR, small_int (show -(2 ^ 62) ≤ (run.length : Int) - 1 by omega) (show (run.length : Int) - 1 < 2 ^ 62 by omega), show ((run.length : Int) - 1).toNat = run.length - 1 by omega, intsFrom_0]
      refine at_col (fun r => NX r _) (meet3 rs r o) (fun s env h' => h' = h ++ [.lst (s.map encM)] ∧ ∃ c d e f, env = [some (encRs rs), some (.ref h.length), some (.int r), some (.int o), c, d, e, f]) s (s ++ meet2 rs r o) ?_ (by unfold meet2; rw [n1]) ⟨rfl, c, e, f, g, rfl⟩ ?_
      · rintro c hc s env h' pre2 ⟨rfl, c', e, f, g, rfl⟩
        refine ⟨[some (encRs rs), some (.ref h.length), some (.int r), some (.int o), some (.int c), e, f, g], by simp, NX.gen fun J hJ => ?_⟩
        have hc := List.mem_range.mp hc
        have pl2 := Nat.le_trans pre2.length_le pl1
        simp [encRs, atR g2, encR, small_int (show -(2 ^ 62) ≤ (1 : Int) by omega) (show (1 : Int) < 2 ^ 62 by omega), small_nat (show run2.length < 2 ^ 62 by omega), show ((run2.length : Int) - 1).toNat = run2.length - 1 by omega, intsFrom_1]
        refine at_col (fun r => NX r _) (fun th => if meetC rs r o c th then [(r, c, o, th)] else []) (fun s env h' => h' = h ++ [.lst (s.map encM)] ∧ ∃ d e f, env = [some (encRs rs), some (.ref h.length), some (.int r), some (.int o), some (.int c), d, e, f]) s (s ++ meet3 rs r o c) ?_ (by unfold meet3; rw [n2]) ⟨rfl, e, f, g, rfl⟩ ?_
        · rintro th hth s env h' pre3 ⟨rfl, e, f, g, rfl⟩
          refine ⟨[some (encRs rs), some (.ref h.length), some (.int r), some (.int o), some (.int c), some (.int th), f, g], by simp, NX.gen fun J hJ => ?_⟩
          have hth := List.mem_range'_1.mp hth
          have pl3 := Nat.le_trans pre3.length_le pl2
          simp only [List.length_append] at pl3
          have f0 : s.length < 16777216 := by omega
          have gx : run[c]? = some (run[c]'(by omega)) := by simp
          have gy : run2[th]? = some (run2[th]'(by omega)) := by simp
          generalize run[c]'(by omega) = x at gx
          generalize run2[th]'(by omega) = y at gy
          have hm : meetC rs r o c th = (decide (r ≠ o) && (decide (x.p = y.p) && decide (y.a ≤ x.d))) := by
            unfold meetC
            rw [callAt_eq g1, callAt_eq g2, gx, gy]
          rw [hm] at hJ
          simp only [encRs, encR] at hJ
          by_cases c1 : r = o
          · subst c1
            rw [g1] at g2; cases g2
            simp [encRs, atR g1, encR, atC gx, atC gy, encC]
            refine .mk (hJ _ _ ⟨by simp, _, _, _, rfl⟩)
          · by_cases c2 : x.p = y.p
            · by_cases c3 : y.a ≤ x.d
              · simp [encRs, atR g1, atR g2, encR, atC gx, atC gy, encC, c1, c2, c3, show ((r : Int) == (o : Int)) = false by simp; omega, isLiveL, f0]
                refine .mk (hJ _ _ ⟨by simp [c1, c2, c3, encM], _, _, _, rfl⟩)
              · simp [encRs, atR g1, atR g2, encR, atC gx, atC gy, encC, c1, c2, c3, show ((r : Int) == (o : Int)) = false by simp; omega]
                refine .mk (hJ _ _ ⟨by simp [c1, c2, c3, encM], _, _, _, rfl⟩)
            · simp [encRs, atR g1, atR g2, encR, atC gx, atC gy, encC, c1, c2, show ((r : Int) == (o : Int)) = false by simp; omega, show (x.p == y.p) = false by simpa using c2]
              refine .mk (hJ _ _ ⟨by simp [c1, c2, encM], _, _, _, rfl⟩)
        · rintro env' h'' ⟨rfl, d, e, f, rfl⟩
          exact .mk (hJ _ _ ⟨rfl, _, _, _, _, rfl⟩)
      · rintro env' h'' ⟨rfl, d, e, f, g, rfl⟩
        exact .mk (hJ _ _ ⟨rfl, _, _, _, _, _, rfl⟩)
    · rintro env' h'' ⟨rfl, d, e, f, g, i, rfl⟩
      exact .mk (hJ _ _ ⟨rfl, _, _, _, _, _, _, rfl⟩)
  · rintro env' h' ⟨rfl, a, b, c, e, f, g, rfl⟩
    simp [freeze]
    exact .mk (hJ _ _ ⟨rfl, _, rfl⟩)
end
theorem log_sm {i : Int} (h : i.natAbs < 2 ^ 64) : i.natAbs.log2 < 64 := by
  by_cases z : i.natAbs = 0
  · rw [z]; decide
  · exact (Nat.log2_lt z).mpr h
theorem opMul_sm (h : LH) {i j : Int} (hi : i.natAbs < 2 ^ 64) (hj : j.natAbs < 2 ^ 64) : opMul h (.int i) (.int j) = some (.int (i * j)) := by
  have := log_sm hi
  have := log_sm hj
  show (if i.natAbs.log2 + j.natAbs.log2 < 1000000 then some (PV.int (i * j)) else none) = _
  rw [if_pos (by omega)]
theorem encU_ok (u : Tn) : (encU u).ok = true := by simp [encU, PV.ok, PV.data, PV.dataL, PV.depth, PV.depthL]
theorem fSorted_turns (h : LH) {us : List Tn} (hl : us.length ≤ 100) : fSorted h [.tup (us.map encU)] = some (.lst ((sortK tkey us).map encU)) := by
  unfold fSorted
  simp only [view_tup]
  rw [if_pos, isort_mapT encU_lt']
  have h1 : allOk (us.map encU) = true := by
    unfold allOk
    rw [List.all_eq_true]
    intro x hx
    rw [List.all_eq_true]
    intro y hy
    obtain ⟨u, _, rfl⟩ := List.mem_map.mp hx
    obtain ⟨w, _, rfl⟩ := List.mem_map.mp hy
    simp [ltOk, encU, PV.ok, PV.data, PV.dataL, PV.depth, PV.depthL, toD, toDL, W.alike, W.alikeAll, PV.isNon]
  have h2 : (us.map encU).all isTup1 = true := by
    rw [List.all_eq_true]
    intro x hx
    obtain ⟨u, _, rfl⟩ := List.mem_map.mp hx
    rfl
  have h3 : sizeOk (us.map encU).length = true := by
    unfold sizeOk
    simp
    omega
  rw [h1, h2, h3]
  rfl
theorem nat_notin (h : LH) (k : Nat) (l : List Nat) : opNotIn h (.int k) (.lst (l.map fun n : Nat => .int n)) = some (.bl (decide (k ∉ l))) := by
  have : ∀ x y : Nat, pyEq (.int x) (.int y) = decide (x = y) := fun x y => by
    simp [pyEq]
    by_cases c : x = y <;> simp [c]
    omega
  rw [opNotIn_lst h rfl, inL_map (f := fun n : Nat => PV.int n) this]
  · simp
  · apply ok_lst
    intro x hx
    obtain ⟨e, _, rfl⟩ := List.mem_map.mp hx
    simp [PV.data, PV.depth]
def withU (t : Tb) (us : List Tn) : Tb := { t with turns := us }
section
variable {T : Nat → Option FD} (hG : GenT T) {h : LH} {n : Nat} (hn : n < h.length) (cl : Cl h)
include hG hn cl
theorem ev_with_turns {t : Tb} (ht : TbOk t) (hu : t.turns = []) (bag : List Int) (d : Nat) : OK (fenv T (d + 4) n__law_with_turns [.ref n, encT t] (bagAt h n bag)) fun v h' => ∃ us bag', v = encT (withU t us) ∧ TbOk (withU t us) ∧ h' = bagAt h n bag' := by
  rw [fenv_call hG.with_turns]
  refine runFD_RT rfl (by rintro v h' ⟨r, b, -, -, rfl⟩; simp) (RT.gen fun J hJ => ?_)
  have s5 : small62 5 = true := rfl
  have n1 := ht.n1
  simp [fd__law_with_turns, ir__law_with_turns, encT, encRs, s5]
  rw [intsFrom_0]
  refine at_inv (fun r => RT r _) (fun ys env h' => ∃ us bag a b c d e f g k, TbOk (withU t us) ∧ env = [some (.ref n), some (encT t), some (encRs t.runs), some (.tup (us.map encU)), a, b, c, d, e, f, g, k] ∧ h' = bagAt h n bag) ?_ ⟨[], bag, none, none, none, none, none, none, none, none, by have : withU t [] = t := (by unfold withU; rw [← hu]); rw [this]; exact ht, rfl, rfl⟩ ?_
  · rintro y ys env h' ⟨us, bag, a, b, c, d', e, f, g, k, htu, rfl, rfl⟩
    refine ⟨[some (.ref n), some (encT t), some (encRs t.runs), some (.tup (us.map encU)), some (.int y), b, c, d', e, f, g, k], by simp, NX.gen fun J hJ => ?_⟩
    obtain ⟨k1, b1, hk1, e1⟩ := ev_take' hG hn (m := t.runs.length) (by omega) bag
    obtain ⟨k2, b2, hk2, e2⟩ := ev_take' hG hn (m := t.runs.length) (by omega) b1
    obtain ⟨k3, b3, hk3, e3⟩ := ev_take' hG hn (m := 2) (by omega) b2
    obtain ⟨gg, b4, hgg, e7⟩ : ∃ gg b4, (k1 = k2 → gg = true) ∧ cOr (cOp2 opEq (cVar 5) (cVar 6)) (cOp2 opEq (cCall n__law_take (lCons (cVar 0) (lCons (cC (.int 2)) lNil))) (cC (.int 0))) (fenv T (d + 3)) [some (.ref n), some (encT t), some (encRs t.runs), some (.tup (us.map encU)), some (.int y), some (.int k1), some (.int k2), d', e, f, g, k] (bagAt h n b2) = .ok (.bl gg) (bagAt h n b4) := by
      by_cases c1 : k1 = k2
      · exact ⟨true, b2, fun _ => rfl, by simp [c1]⟩
      · exact ⟨_, b3, fun q => absurd q c1, by simp [show ((k1 : Int) == (k2 : Int)) = false by simp; omega, e3]; rfl⟩
    simp only [encT, encRs] at e7
    have hk1' : k1 < t.runs.length := by omega
    have hk2' : k2 < t.runs.length := by omega
    obtain ⟨r1, g1, m1, l1⟩ := run_get hk1'
    obtain ⟨r2, g2, m2, l2⟩ := run_get hk2'
    have R1 := ht.runs r1 m1
    have R2 := ht.runs r2 m2
    have gx : r1[r1.length - 1]? = some (r1[r1.length - 1]'(by have := R1.lo; omega)) := by simp
    have gy : r2[0]? = some (r2[0]'(by have := R2.lo; omega)) := by simp
    generalize r1[r1.length - 1]'(by have := R1.lo; omega) = x at gx
    generalize r2[0]'(by have := R2.lo; omega) = z at gy
    have i1 : L2.atI (r1.map encC) (-1) = some (encC x) := atC_last gx
    have i2 : L2.atI (r2.map encC) 0 = some (encC z) := atC (k := 0) gy
    have hp0 := ht.per0
    have hp1 := ht.per1
    have hm : ∀ hh, opMul hh (.int t.per) (.int (if gg = true then 1 else 0)) = some (.int (t.per * if gg = true then 1 else 0)) := fun hh => opMul_sm hh (by omega) (by split <;> decide)
    have hlate : z.d + (t.per * if gg = true then 1 else 0) = z.d + (if gg = true then t.per else 0) := by split <;> simp
    have u4 := htu.u4
    have lu : us.length ≤ 4 := u4
    simp [encT, encRs, e1, e2, e7, -cOr_ap, atR g2, encR, i2, encC, hm]
    rw [hlate]
    by_cases p1 : x.p = z.p
    rotate_left
    · simp [atR g1, atR g2, encR, i1, i2, encC, p1, show (x.p == z.p) = false by simpa using p1]
      exact .mk (hJ _ _ ⟨us, b4, _, _, _, _, _, _, _, _, htu, rfl, rfl⟩)
    by_cases p2 : us.length < 4
    rotate_left
    · simp [atR g1, atR g2, encR, i1, i2, encC, p1, show ¬ (us.length : Int) < 4 by omega]
      exact .mk (hJ _ _ ⟨us, b4, _, _, _, _, _, _, _, _, htu, rfl, rfl⟩)
    have p2' : (us.length : Int) < 4 := by omega
    by_cases p3 : x.a ≤ z.d + (if gg = true then t.per else 0)
    rotate_left
    · simp [atR g1, atR g2, encR, i1, i2, encC, p1, p2', p3]
      exact .mk (hJ _ _ ⟨us, b4, _, _, _, _, _, _, _, _, htu, rfl, rfl⟩)
    have c1 : ∀ (F : FEnv) (a b c e f g h2 j k : Option PV) (hh : LH), compL (.name 10) tYes (cOp2 opIx (cVar 10) (cC (.int 0))) F [a, b, c, some (.tup (us.map encU)), e, f, g, h2, j, some (.bl true), none, k] (us.map encU) [] hh = .ok (.lst ((us.map (·.r)).map fun n : Nat => .int n)) hh := by
      intro F a b c e f g h2 j k hh
      rw [compL_a (enc := encU) (g := fun u => .int u.r) (env1 := fun u => [a, b, c, some (.tup (us.map encU)), e, f, g, h2, j, some (.bl true), some (encU u), k]) (by simp) (by intro u hu; simp [encU]) (by omega)]
      simp
    have c2 : ∀ (F : FEnv) (a b c e f g h2 j k : Option PV) (hh : LH), compL (.name 10) tYes (cOp2 opIx (cVar 10) (cC (.int 1))) F [a, b, c, some (.tup (us.map encU)), e, f, g, h2, j, some (.bl true), none, k] (us.map encU) [] hh = .ok (.lst ((us.map (·.r')).map fun n : Nat => .int n)) hh := by
      intro F a b c e f g h2 j k hh
      rw [compL_a (enc := encU) (g := fun u => .int u.r') (env1 := fun u => [a, b, c, some (.tup (us.map encU)), e, f, g, h2, j, some (.bl true), some (encU u), k]) (by simp) (by intro u hu; simp [encU]) (by omega)]
      simp
    by_cases p4 : k1 ∈ us.map (·.r)
    · simp only [atR g1, atR g2]
      simp [-List.map_map, -List.mem_map, atR g1, atR g2, encR, i1, i2, encC, p1, p2', p3, c1, nat_notin, p4]
      exact .mk (hJ _ _ ⟨us, b4, _, _, _, _, _, _, _, _, htu, rfl, rfl⟩)
    by_cases p5 : k2 ∈ us.map (·.r')
    · simp [-List.map_map, -List.mem_map, atR g1, atR g2, encR, i1, i2, encC, p1, p2', p3, c1, c2, nat_notin, p4, p5]
      exact .mk (hJ _ _ ⟨us, b4, _, _, _, _, _, _, _, _, htu, rfl, rfl⟩)
    have hnew : encU ⟨k1, k2, gg⟩ = .tup [.int k1, .int k2, .bl gg] := rfl
    have f0 : Sm (us.map encU) := sm_of (by simp; omega)
    have es : ∀ hh, fSorted hh [.tup (us.map encU ++ [.tup [.int k1, .int k2, .bl gg]])] = some (.lst ((sortK tkey (us ++ [⟨k1, k2, gg⟩])).map encU)) := fun hh => by
      have := fSorted_turns hh (us := us ++ [⟨k1, k2, gg⟩]) (by simp; omega)
      rw [← this, List.map_append]
      rfl
    have perm := sortK_perm' (k := tkey) (us ++ [(⟨k1, k2, gg⟩ : Tn)])
    have nd : (us ++ [(⟨k1, k2, gg⟩ : Tn)]).Nodup := by
      rw [List.nodup_append]
      refine ⟨asc_nodup htu.uasc, by simp, fun a ha b hb e => ?_⟩
      simp at hb
      subst hb; subst e
      exact p4 (List.mem_map.mpr ⟨_, ha, rfl⟩)
    have pre : TbPre (withU t (sortK tkey (us ++ [⟨k1, k2, gg⟩]))) := by
      refine ⟨ht.n1, ht.n4, ht.runs, ht.per0, ht.per1, ht.w4, ht.waits, ht.wasc, ?_, ?_, sortK_asc tkey_inj nd, ?_, ?_, ht.sr, ht.sc⟩
      · show (sortK tkey (us ++ [⟨k1, k2, gg⟩])).length ≤ 4
        rw [sortK_len]
        simp
        omega
      · intro u hu
        rcases List.mem_append.mp (sortK_mem.mp hu) with hu | hu
        · exact htu.turns u hu
        · simp at hu
          subst hu
          exact ⟨hk1', hk2', hgg, x, z, by show callAt t.runs k1 (lenOf t.runs k1 - 1) = _; rw [callAt_eq g1, l1, gx], by show callAt t.runs k2 0 = _; rw [callAt_eq g2, gy], p1, p3⟩
      · show ((sortK tkey (us ++ [⟨k1, k2, gg⟩])).map (·.r)).Nodup
        rw [(perm.map _).nodup_iff, List.map_append, List.nodup_append]
        refine ⟨htu.u1, by simp, fun a ha b hb e => ?_⟩
        simp at hb
        subst hb; subst e
        exact p4 ha
      · show ((sortK tkey (us ++ [⟨k1, k2, gg⟩])).map (·.r')).Nodup
        rw [(perm.map _).nodup_iff, List.map_append, List.nodup_append]
        refine ⟨htu.u2, by simp, fun a ha b hb e => ?_⟩
        simp at hb
        subst hb; subst e
        exact p5 ha
    have e8 := ev_sound hG pre (cl.bagAt n b4) (d + 1)
    generalize hU : sortK tkey (us ++ [⟨k1, k2, gg⟩]) = U at *
    simp only [encT, encRs, withU] at e8
    by_cases p6 : Sound (withU t U)
    · rw [show B (Sound { t with turns := U }) = true from B_true p6] at e8
      simp [-List.map_map, -List.mem_map, atR g1, atR g2, encR, i1, i2, encC, p1, p2', p3, c1, c2, nat_notin, p4, p5, opAdd_tk, f0, es, e8]
      exact .mk (hJ _ _ ⟨U, b4, _, _, _, _, _, _, _, _, ⟨pre, p6⟩, rfl, rfl⟩)
    · rw [show B (Sound { t with turns := U }) = false from B_false p6] at e8
      simp [-List.map_map, -List.mem_map, atR g1, atR g2, encR, i1, i2, encC, p1, p2', p3, c1, c2, nat_notin, p4, p5, opAdd_tk, f0, es, e8]
      exact .mk (hJ _ _ ⟨us, b4, _, _, _, _, _, _, _, _, htu, rfl, rfl⟩)
  · rintro env' h' ⟨us, bag, a, b, c, d', e, f, g, k, htu, rfl, rfl⟩
    simp [encT, encRs, opAdd_tk]
    exact .mk (hJ _ _ ⟨us, bag, rfl, htu, rfl⟩)
end
end G
end
section
set_option Elab.async false
set_option linter.all false
set_option maxRecDepth 100000
/-! E8: _law_table. -/
namespace G
open PySem M
structure GenTb (t : Tb) : Prop where
  ok : TbOk t
  runs : ∀ r ∈ t.runs, GenR r
  per : t.per ≤ 200
def withW (t : Tb) (ws : List Wt) : Tb := { t with waits := ws }
theorem encM_data (ms : List M4) : ∀ x ∈ ms.map encM, x.data = true ∧ x.depth ≤ 59 := fun x hx => by
  obtain ⟨e, _, rfl⟩ := List.mem_map.mp hx
  simp [encM, PV.data, PV.dataL, PV.depth, PV.depthL]
theorem opNe_lst0 (h : LH) {xs : List PV} (hx : xs ≠ []) (ho : ∀ x ∈ xs, x.data = true ∧ x.depth ≤ 59) : opNe h (.lst xs) (.lst []) = some (.bl true) := by
  rw [opNe_ok h (ok_lst ho) rfl]
  cases xs with
  | nil => exact absurd rfl hx
  | cons x xs => simp [pyEq, pyEqL]
section
variable {T : Nat → Option FD} (hG : GenT T) {h : LH} {n : Nat} (hn : n < h.length) (cl : Cl h)
include hG hn cl
theorem ev_table (bag : List Int) (d : Nat) : OK (fenv T (d + 5) n__law_table [.ref n] (bagAt h n bag)) fun v h' => ∃ t bag', GenTb t ∧ v = encT t ∧ h' = bagAt h n bag' := by
  rw [fenv_call hG.table]
  refine runFD_RT rfl (by rintro v h' ⟨r, b, -, -, rfl⟩; simp) (RT.gen fun J hJ => ?_)
  obtain ⟨k0, b1, hk0, e0⟩ := ev_take' hG hn (m := 4) (by omega) bag
  obtain ⟨vs, h1, ec, hvl, hvs, b2, rfl⟩ := compL_heap (F := fenv T (d + 4)) (tg := .name 2) (e := cCall n__law_run (lCons (cVar 0) lNil)) (enc := fun i : Nat => PV.int i) (P := fun v => ∃ r, v = encR r ∧ GenR r) (I := fun h' => ∃ bag, h' = bagAt h n bag) (env := [some (.ref n), none, none, none, none, none, none, none, none]) (ys := List.range (1 + k0)) (acc := []) (h := bagAt h n b1) (by
    rintro y hy h' ⟨bag, rfl⟩
    obtain ⟨v, h', e, r, bag', g, rfl, rfl⟩ := (ev_run hG hn bag (d + 1)).elim
    exact ⟨[some (.ref n), none, some (.int y), none, none, none, none, none, none], encR r, _, by simp, by simp [e], ⟨r, rfl, g⟩, bag', rfl⟩) ⟨b1, rfl⟩ (by simp; omega)
  obtain ⟨rs, rfl, hrs⟩ : ∃ rs : List Rn, vs = rs.map encR ∧ ∀ r ∈ rs, GenR r := by
    clear ec hvl
    induction vs with
    | nil => exact ⟨[], rfl, fun _ z => by cases z⟩
    | cons v vs ih =>
      obtain ⟨r, e, g⟩ := hvs v (by simp)
      obtain ⟨rs, e2, g2⟩ := ih fun z hz => hvs z (by simp [hz])
      refine ⟨r :: rs, by rw [e, e2]; rfl, fun z hz => ?_⟩
      rcases List.mem_cons.mp hz with rfl | hz
      · exact g
      · exact g2 z hz
  have hl : rs.length = 1 + k0 := by simpa using hvl
  have hR : RsOk rs := ⟨by omega, by omega, fun r hr => (hrs r hr).ok⟩
  obtain ⟨k1, b3, hk1, e1⟩ := ev_take' hG hn (m := rs.length) (by omega) b2
  have hk1' : k1 < rs.length := by omega
  obtain ⟨r1, g1, m1, l1⟩ := run_get hk1'
  have R1 := (hrs r1 m1).ok
  have R1lo := R1.lo
  obtain ⟨k2, b4, hk2, e2⟩ := ev_take' hG hn (m := (r1.length : Int) - 1) (by omega) b3
  obtain ⟨w, hw, b5, e3⟩ := ev_choice hG hn (xs := [.str "once", .str "once", .str "each"]) (by simp) b4
  obtain ⟨each, rfl⟩ : ∃ each, w = .str (wordS each) := by
    simp at hw
    rcases hw with rfl | rfl
    · exact ⟨false, rfl⟩
    · exact ⟨true, rfl⟩
  obtain ⟨p, b6, -, hp0, hp1, e4⟩ := ev_ch hG hn [60, 90, 160] (lo := 60) (hi := 160) (by simp) (by simp) b5
  obtain ⟨k3, b7, hk3, e5⟩ := ev_take' hG hn (m := 3) (by omega) b6
  have hm : ∀ hh, opMul hh (.int 20) (.int k3) = some (.int (20 * k3)) := fun hh => opMul_sm hh (by decide) (by omega)
  have em := ev_meets hG (h := bagAt h n b7) hR (cl.bagAt n b7) (d + 3)
  simp only [encRs] at em
  simp at e4 ec
  have ea : iRange1 (cOp2 opAdd (cC (.int 1)) (cCall n__law_take (lCons (cVar 0) (lCons (cC (.int 4)) lNil)))) (fenv T (d + 4)) [some (.ref n), none, none, none, none, none, none, none, none] (bagAt h n bag) = .ok ((List.range (1 + k0)).map fun i : Nat => PV.int i) (bagAt h n b1) := by
    simp [e0, small_int (show -(2 ^ 62) ≤ 1 + (k0 : Int) by omega) (show 1 + (k0 : Int) < 2 ^ 62 by omega), show (1 + (k0 : Int)).toNat = 1 + k0 by omega, intsFrom_0]
  have eb : ∃ (c : Nat) (b8 : List Int), c ≤ 4 ∧ (c ≠ 0 → meets rs ≠ []) ∧ ∀ env : Env, env[0]? = some (some (.ref n)) → env[6]? = some (some (.lst ((meets rs).map encM))) → iRange1 (cIf (tVal (cOp2 opNe (cVar 6) (cLst lNil))) (cCall n__law_choice (lCons (cVar 0) (lCons (cLst (lCons (cC (.int 1)) (lCons (cC (.int 2)) (lCons (cC (.int 3)) (lCons (cC (.int 4)) (lCons (cC (.int 4)) lNil)))))) lNil))) (cC (.int 0))) (fenv T (d + 4)) env (bagAt h n b7) = .ok ((List.range c).map fun i : Nat => PV.int i) (bagAt h n b8) := by
    by_cases hz : meets rs = []
    · refine ⟨0, b7, by omega, by simp, fun env g0 g6 => ?_⟩
      simp [g6, hz, intsFrom_0]
      rfl
    · obtain ⟨t, b8, -, ht0, ht1, e6⟩ := ev_ch hG hn [1, 2, 3, 4, 4] (lo := 1) (hi := 4) (by simp) (by simp) b7
      simp at e6
      refine ⟨t.toNat, b8, by omega, fun _ => hz, fun env g0 g6 => ?_⟩
      simp [g0, g6, opNe_lst0 _ (show (meets rs).map encM ≠ [] by simpa using hz) (encM_data _), e6, small_int (show -(2 ^ 62) ≤ t by omega) (show t < 2 ^ 62 by omega), intsFrom_0]
  obtain ⟨c, b8, hc, hcm, eb⟩ := eb
  simp [-iRange1_ap, fd__law_table, ir__law_table, ea, ec, e1, atR g1, encR, e2, e3, e4, e5, hm, em, eb]
  have run4 : ∀ k, lenOf rs k ≤ 4 := lenOf_le fun r hr => (hrs r hr).ok.hi
  have pre0 : TbPre ⟨rs, [], [], k1, k2, each, p + 20 * k3⟩ := ⟨by show 1 ≤ rs.length; omega, by show rs.length ≤ 4; omega, fun r hr => (hrs r hr).ok, by show 60 ≤ p + 20 * (k3 : Int); omega, by show p + 20 * (k3 : Int) ≤ 480; omega, by simp, fun w hw => by simp at hw, trivial, by simp, fun w hw => by simp at hw, trivial, by simp, by simp, hk1', by show k2 + 1 < lenOf rs k1; omega⟩
  have ok0 : TbOk ⟨rs, [], [], k1, k2, each, p + 20 * k3⟩ := ⟨pre0, sound_bare rfl rfl⟩
  generalize ht0 : (⟨rs, [], [], k1, k2, each, p + 20 * k3⟩ : Tb) = t0 at pre0 ok0
  have tr : t0.runs = rs := by rw [← ht0]
  have et : ∀ ws, encT (withW t0 ws) = .tup [.tup (rs.map encR), .tup (ws.map encW), .tup [], .tup [.int k1, .int k2, .str (wordS each)], .int (p + 20 * k3)] := fun ws => by
    rw [← ht0]; rfl
  refine at_inv (fun r => RT r _) (fun ys env h' => ∃ ws bag a b c, ws.length + ys.length ≤ 4 ∧ (ys ≠ [] → meets rs ≠ []) ∧ TbOk (withW t0 ws) ∧ env = [some (.ref n), some (.tup (rs.map encR)), a, some (.tup [.int k1, .int k2, .str (wordS each)]), some (.int k2), some (encT (withW t0 ws)), some (.lst ((meets rs).map encM)), b, c] ∧ h' = bagAt h n bag) ?_ ⟨[], b8, none, none, none, by simp; omega, by intro q; apply hcm; intro e; subst e; simp at q, by have : withW t0 [] = t0 := (by rw [← ht0]; rfl); rw [this]; exact ok0, by rw [et]; rfl, rfl⟩ ?_
  · rintro y ys env h' ⟨ws, bag, a, b, c, hlen, hne, hok, rfl, rfl⟩
    refine ⟨[some (.ref n), some (.tup (rs.map encR)), some (.int y), some (.tup [.int k1, .int k2, .str (wordS each)]), some (.int k2), some (encT (withW t0 ws)), some (.lst ((meets rs).map encM)), b, c], by simp, NX.gen fun J hJ => ?_⟩
    have hne := hne (by simp)
    obtain ⟨x, hx, b9, e6⟩ := ev_choice hG hn (xs := (meets rs).map encM) (by simpa using hne) bag
    obtain ⟨⟨r, c4, o, th⟩, hm4, rfl⟩ := List.mem_map.mp hx
    obtain ⟨m, b10, -, hm0, hm1, e7⟩ := ev_ch hG hn [0, 2, 5, 9, 20, 45, 60] (lo := 0) (hi := 60) (by simp) (by simp) b9
    simp at e7
    have wok : WtOk rs ⟨r, c4, o, th, m⟩ := wt_of_meet hm4 hm0 hm1
    have f0 : Sm (ws.map encW) := sm_of (by simp; omega)
    have wb : ∀ w, WtOk rs w → w.r < 1048576 ∧ w.c < 1048576 ∧ w.r' < 1048576 ∧ w.c' < 1048576 ∧ 0 ≤ w.m ∧ w.m < 1048576 := fun w ok => by
      have := ok.r
      have := ok.r'
      have := ok.c
      have := ok.c'
      have := run4 w.r
      have := run4 w.r'
      have := ok.m0
      have := ok.m
      omega
    have wall : ∀ w ∈ ws ++ [⟨r, c4, o, th, m⟩], WtOk rs w := fun w hw => by
      rcases List.mem_append.mp hw with hw | hw
      · rw [← tr]
        exact hok.waits w hw
      · simp at hw
        rw [hw]
        exact wok
    have es : ∀ hh, fSetSort hh [.tup (ws.map encW ++ [.tup [.int r, .int c4, .int o, .int th, .int m]])] = some (.lst ((sortK wkey (dedI (ws ++ [⟨r, c4, o, th, m⟩]))).map encW)) := fun hh => by
      have := fSetSort_waits hh (ws := ws ++ [(⟨r, c4, o, th, m⟩ : Wt)]) (by simp) (by simp only [List.length_append, List.length_cons, List.length_nil] at *; omega) (fun w hw => wb w (wall w hw))
      simp only [List.map_append, List.map_cons, List.map_nil] at this
      exact this
    have ll : (sortK wkey (dedI (ws ++ [⟨r, c4, o, th, m⟩]))).length ≤ ws.length + 1 := by
      rw [sortK_len]
      have := (dedI_len (ws ++ [⟨r, c4, o, th, m⟩])).1
      simpa using this
    have pre : TbPre (withW t0 (sortK wkey (dedI (ws ++ [⟨r, c4, o, th, m⟩])))) := by
      refine ⟨pre0.n1, pre0.n4, pre0.runs, pre0.per0, pre0.per1, ?_, ?_, sortK_asc wkey_inj (dedI_nodupT _), pre0.u4, pre0.turns, pre0.uasc, pre0.u1, pre0.u2, pre0.sr, pre0.sc⟩
      · show (sortK wkey (dedI (ws ++ [⟨r, c4, o, th, m⟩]))).length ≤ 4
        simp only [List.length_cons] at hlen
        omega
      · intro w hw
        show WtOk t0.runs w
        rw [tr]
        exact wall w (dedI_memT.mp (sortK_mem.mp hw))
    have e8 := ev_sound hG pre (cl.bagAt n b10) (d + 2)
    generalize hU : sortK wkey (dedI (ws ++ [⟨r, c4, o, th, m⟩])) = U at *
    rw [et] at e8
    simp only [et] at hJ ⊢
    simp only [List.length_cons] at hlen
    by_cases p6 : Sound (withW t0 U)
    · rw [B_true p6] at e8
      simp [e6, e7, encM, opAdd_tk, f0, es, e8]
      exact .mk (hJ _ _ ⟨U, b10, _, _, _, by omega, fun _ => hne, ⟨pre, p6⟩, rfl, rfl⟩)
    · rw [B_false p6] at e8
      simp [e6, e7, encM, opAdd_tk, f0, es, e8]
      exact .mk (hJ _ _ ⟨ws, b10, _, _, _, by omega, fun _ => hne, hok, rfl, rfl⟩)
  · rintro env' h' ⟨ws, bag, a, b, c, -, -, hok, rfl, rfl⟩
    obtain ⟨v, h', e, us, bag', rfl, hok2, rfl⟩ := (ev_with_turns hG hn cl hok (by rw [← ht0]; rfl) bag d).elim
    simp [e]
    refine .mk (hJ _ _ ⟨_, bag', ⟨hok2, fun r hr => hrs r ?_, ?_⟩, rfl, rfl⟩)
    · rw [← tr]; exact hr
    · rw [← ht0]
      show p + 20 * (k3 : Int) ≤ 200
      omega
end
end G
end
section
set_option Elab.async false
set_option linter.all false
set_option maxRecDepth 100000
/-! E9: the bag of draws. -/
namespace G
open PySem M
def primesL : List PV := [.int 2147483647, .int 2147483629, .int 2147483587, .int 2147483579, .int 2147483563, .int 2147483549, .int 2147483543, .int 2147483497]
theorem prime_at {i : Int} (h0 : 0 ≤ i) (h1 : i < 8) : ∃ p : Int, L2.atI primesL i = some (.int p) ∧ 0 < p ∧ p < 2147483648 := by
  have : i = 0 ∨ i = 1 ∨ i = 2 ∨ i = 3 ∨ i = 4 ∨ i = 5 ∨ i = 6 ∨ i = 7 := by omega
  rcases this with rfl | rfl | rfl | rfl | rfl | rfl | rfl | rfl <;> exact ⟨_, rfl, by decide, by decide⟩
theorem abs_sm {i : Int} (h0 : 0 ≤ i) (h1 : i < 18446744073709551616) : i.natAbs < 2 ^ 64 := by omega
theorem mul_lt {a b : Int} {x y : Int} (a0 : 0 ≤ a) (b0 : 0 ≤ b) (ha : a ≤ x) (hb : b ≤ y) : a * b ≤ x * y := Int.mul_le_mul ha hb b0 (by omega)
section
variable {T : Nat → Option FD} (hG : GenT T) {h : LH}
include hG
theorem ev_cell (ns : List Int) {k : Nat} (hk : k < 1000) (d : Nat) : ∃ c : Int, fenv T (d + 1) n__law_cell [.scr (ns.map .int), .int k] h = .ok (.int c) h := by
  rw [fenv_call hG.cell]
  have hl : fLen h [.scr (ns.map .int)] = some (.int ns.length) := by simp [fLen]
  have hi : ∀ {j : Nat} (q : j < ns.length), opIx h (.scr (ns.map .int)) (.int j) = some (.int ns[j]) := fun {j} q => by
    show L2.atI (ns.map PV.int) (j : Int) = _
    rw [atI_nn]
    simp [q]
  have hm : opMul h (.int 7919) (.int k) = some (.int (7919 * k)) := opMul_sm h (by decide) (abs_sm (by omega) (by omega))
  by_cases c1 : k < ns.length
  · refine ⟨ns[k], runFD_ret rfl ?_⟩
    simp [fd__law_cell, ir__law_cell, hl, c1, hi c1]
  · by_cases c2 : ns.length = 0
    · refine ⟨7919 * k + 101, runFD_ret rfl ?_⟩
      simp [fd__law_cell, ir__law_cell, hl, c2, hm, show ¬ (k : Int) < 0 by omega]
    · have q : k % ns.length < ns.length := Nat.mod_lt _ (by omega)
      refine ⟨ns[k % ns.length] % 1000003 + 7919 * k, runFD_ret rfl ?_⟩
      have e1 : opMod h (.int k) (.int ns.length) = some (.int ((k % ns.length : Nat) : Int)) := by
        rw [opMod_pos h (by omega)]
        simp
      have hi2 : opIx h (.scr (ns.map .int)) (.int ((k : Int) % (ns.length : Int))) = some (.int ns[k % ns.length]) := by
        rw [← hi q]
        simp
      have e2 : ∀ i : Int, opMod h (.int i) (.int 1000003) = some (.int (i % 1000003)) := fun i => opMod_pos h (by omega)
      have hne : ns ≠ [] := fun e => c2 (by rw [e]; rfl)
      simp [fd__law_cell, ir__law_cell, hl, c1, hne, show ((ns.length : Int) == 0) = false by simp; omega, e1, hi2, e2, hm]
theorem ev_draws (ns : List Int) {k : Nat} (hk : k < 1000) (cl : Cl h) (d : Nat) : ∃ bag : List Int, fenv T (d + 2) n__law_draws [.scr (ns.map .int), .int k, .int 150, .int 27720] h = .ok (.ref h.length) (h ++ [.lst (bag.map .int)]) := by
  suffices z : RT (fd__law_draws.body (fenv T (d + 1)) ([PV.scr (ns.map .int), .int k, .int 150, .int 27720].map some ++ List.replicate (fd__law_draws.ns - fd__law_draws.np) none) h) fun v h' => v = .ref h.length ∧ ∃ bag : List Int, h' = h ++ [.lst (bag.map .int)] by
    obtain ⟨v, h', e, rfl, bag, rfl⟩ := z.elim
    refine ⟨bag, ?_⟩
    rw [fenv_call hG.draws]
    unfold runFD
    rw [if_pos (show [PV.scr (ns.map .int), .int k, .int 150, .int 27720].length = fd__law_draws.np from rfl), e]
    simp [leave, closedV]
  refine RT.gen fun J hJ => ?_
  obtain ⟨c, ec⟩ := ev_cell hG (h := h) ns hk d
  have ep : opPow h (.int 10) (.int 18) = some (.int 1000000000000000000) := by simp [opPow]
  have s1 : small62 150 = true := by decide +kernel
  have e0 : ∃ rest : Int, (if (1000000000000000000 : Int) ≤ c then SRes.nx [some (PV.scr (ns.map .int)), some (.int k), some (.int 150), some (.int 27720), some (.tup primesL), some (.int c), some (.int c), none, none, none] h else SRes.nx [some (PV.scr (ns.map .int)), some (.int k), some (.int 150), some (.int 27720), some (.tup primesL), some (.int c), some (.int 0), none, none, none] h) = SRes.nx [some (PV.scr (ns.map .int)), some (.int k), some (.int 150), some (.int 27720), some (.tup primesL), some (.int c), some (.int rest), none, none, none] h := by
    by_cases z : (1000000000000000000 : Int) ≤ c
    · exact ⟨c, by rw [if_pos z]⟩
    · exact ⟨0, by rw [if_neg z]⟩
  obtain ⟨rest, e0⟩ := e0
  simp only [primesL] at e0
  simp [fd__law_draws, ir__law_draws, ec, ep, e0, s1]
  rw [intsFrom_0]
  refine at_inv (fun r => RT r _) (fun ys env h' => ∃ bag rest a b, bag.length + ys.length = 150 ∧ h' = h ++ [.lst (bag.map PV.int)] ∧ env = [some (.scr (ns.map .int)), some (.int k), some (.int 150), some (.int 27720), some (.tup primesL), some (.int c), some (.int rest), some (.ref h.length), a, b] ∧ ∀ y ∈ ys, y < 150) ?_ ⟨[], rest, none, none, rfl, rfl, rfl, fun y hy => by simpa using hy⟩ ?_
  · rintro j ys env h' ⟨bag, rest, a, b, hl, rfl, rfl, hj⟩
    refine ⟨[some (.scr (ns.map .int)), some (.int k), some (.int 150), some (.int 27720), some (.tup primesL), some (.int c), some (.int rest), some (.ref h.length), some (.int j), b], by simp, NX.gen fun J hJ => ?_⟩
    have hj0 := hj j (by simp)
    obtain ⟨p1, e1, p10, p11⟩ := prime_at (i := (j : Int) % 8) (by omega) (by omega)
    obtain ⟨p2, e2, p20, p21⟩ := prime_at (i := (3 * (j : Int) + k) % 8) (by omega) (by omega)
    obtain ⟨p3, e3, p30, p31⟩ := prime_at (i := ((j : Int) + 5) % 8) (by omega) (by omega)
    have q1 : 0 ≤ c % p1 ∧ c % p1 < p1 := ⟨Int.emod_nonneg _ (by omega), Int.emod_lt_of_pos _ p10⟩
    have m1 : ∀ hh, opMul hh (.int 2) (.int j) = some (.int (2 * j)) := fun hh => opMul_sm hh (by decide) (abs_sm (by omega) (by omega))
    have jj : (2 * (j : Int)) * j ≤ 300 * 150 := mul_lt (by omega) (by omega) (by omega) (by omega)
    have jj0 : 0 ≤ (2 * (j : Int)) * j := Int.mul_nonneg (by omega) (by omega)
    have m2 : ∀ hh, opMul hh (.int (2 * j)) (.int j) = some (.int (2 * j * j)) := fun hh => opMul_sm hh (abs_sm (by omega) (by omega)) (abs_sm (by omega) (by omega))
    have m3 : ∀ hh, opMul hh (.int (c % p1)) (.int (48271 + 2 * j * j)) = some (.int (c % p1 * (48271 + 2 * j * j))) := fun hh => opMul_sm hh (abs_sm (by omega) (by omega)) (abs_sm (by omega) (by omega))
    have m4 : ∀ hh, opMul hh (.int 7919) (.int (j + 1)) = some (.int (7919 * (j + 1))) := fun hh => opMul_sm hh (by decide) (abs_sm (by omega) (by omega))
    have m5 : ∀ hh, opMul hh (.int (7919 * (j + 1))) (.int (j + 1)) = some (.int (7919 * (j + 1) * (j + 1))) := fun hh => opMul_sm hh (abs_sm (by omega) (by omega)) (abs_sm (by omega) (by omega))
    have m6 : ∀ hh, opMul hh (.int 104729) (.int k) = some (.int (104729 * k)) := fun hh => opMul_sm hh (by decide) (abs_sm (by omega) (by omega))
    have m7 : ∀ hh, opMul hh (.int 3) (.int j) = some (.int (3 * j)) := fun hh => opMul_sm hh (by decide) (abs_sm (by omega) (by omega))
    have n1 : ∀ hh, opMod hh (.int c) (.int p1) = some (.int (c % p1)) := fun hh => opMod_pos hh p10
    generalize hM : c % p1 * (48271 + 2 * (j : Int) * j) + 7919 * (j + 1) * (j + 1) + 104729 * k = M
    have n2 : ∀ hh, opMod hh (.int M) (.int p2) = some (.int (M % p2)) := fun hh => opMod_pos hh p20
    have q2 : 0 ≤ M % p2 ∧ M % p2 < p2 := ⟨Int.emod_nonneg _ (by omega), Int.emod_lt_of_pos _ p20⟩
    have mm : (M % p2) * (M % p2) ≤ 2147483648 * 2147483648 := mul_lt (by omega) (by omega) (by omega) (by omega)
    have mm0 : 0 ≤ (M % p2) * (M % p2) := Int.mul_nonneg (by omega) (by omega)
    have m8 : ∀ hh, opMul hh (.int (M % p2)) (.int (M % p2)) = some (.int (M % p2 * (M % p2))) := fun hh => opMul_sm hh (abs_sm (by omega) (by omega)) (abs_sm (by omega) (by omega))
    have m9 : ∀ hh, opMul hh (.int (M % p2 * (M % p2))) (.int (M % p2)) = some (.int (M % p2 * (M % p2) * (M % p2))) := fun hh => opMul_sm hh (abs_sm (by omega) (by omega)) (abs_sm (by omega) (by omega))
    have n3 : ∀ hh i, opMod hh (.int i) (.int p3) = some (.int (i % p3)) := fun hh i => opMod_pos hh p30
    have n4 : ∀ hh i, opMod hh (.int i) (.int 27720) = some (.int (i % 27720)) := fun hh i => opMod_pos hh (by omega)
    have n5 : ∀ hh i, opFdiv hh (.int i) (.int 27720) = some (.int (i / 27720)) := fun hh i => by
      show (if decide ((0 : Int) < 27720) && bitsOk 27720 then some (PV.int (i / 27720)) else none) = _
      rw [if_pos (by decide +kernel)]
    simp only [primesL] at e1 e2 e3 hJ ⊢
    simp only [List.length_cons] at hl
    have f0 : bag.length < 16777216 := by omega
    by_cases r0 : 0 < rest
    · simp [e1, e2, e3, m1, m2, m3, m4, m5, m6, m7, m8, m9, n1, n2, n3, n4, n5, hM, r0, isLiveL, f0]
      refine .mk (hJ _ _ ⟨bag ++ [rest % 27720], rest / 27720, _, _, by simp; omega, by simp, rfl, fun y hy => hj y (by simp [hy])⟩)
    · simp [e1, e2, e3, m1, m2, m3, m4, m5, m6, m7, m8, m9, n1, n2, n3, n4, n5, hM, r0, isLiveL, f0]
      refine .mk (hJ _ _ ⟨bag ++ [M % p2 * (M % p2) * (M % p2) % p3 % 27720], rest / 27720, _, _, by simp; omega, by simp, rfl, fun y hy => hj y (by simp [hy])⟩)
  · rintro env' h' ⟨bag, rest, a, b, hl, rfl, rfl, -⟩
    simp
    exact .mk (hJ _ _ ⟨rfl, bag, rfl⟩)
theorem ev_bag (ns : List Int) {k : Nat} (hk : k < 1000) (cl : Cl h) (d : Nat) : ∃ bag : List Int, fenv T (d + 3) n__law_bag [.scr (ns.map .int), .int k] h = .ok (.ref h.length) (h ++ [.lst (bag.map .int)]) := by
  obtain ⟨bag, e⟩ := ev_draws hG (h := h) ns hk cl d
  refine ⟨bag, ?_⟩
  rw [fenv_call hG.bag]
  unfold runFD
  rw [if_pos (show [PV.scr (ns.map .int), .int k].length = fd__law_bag.np from rfl)]
  simp [fd__law_bag, ir__law_bag, e, leave, closedV]
end
end G
end
section
set_option Elab.async false
set_option linter.all false
set_option maxRecDepth 100000
/-! E10: plans: is_ride .. is_plan, need_.. -/
namespace G
open PySem M
structure PlanT (T : Nat → Option FD) : Prop extends TabT T where
  is_ride : T n_is_ride = some fd_is_ride
  fits_plan : T n_fits_plan = some fd_fits_plan
  need_table : T n_need_table = some fd_need_table
  need_number : T n_need_number = some fd_need_number
  is_plan : T n_is_plan = some fd_is_plan
def encD (d : Ride) : PV := .tup [.int d.1, .int d.2.1, .int d.2.2]
def encP (place time : Int) (ds : List Ride) : PV := .tup [.int place, .int time, .tup (ds.map encD)]
def isRide (rs : List Rn) (place : Int) (v : PV) : Prop := ∃ d, v = encD d ∧ RideOk rs place d
theorem encD_inj {x y : Ride} (e : encD x = encD y) : x = y := by
  obtain ⟨a, b, c⟩ := x
  obtain ⟨a', b', c'⟩ := y
  simp [encD] at e
  simp
  omega
theorem encD_eq (x y : Ride) : pyEq (encD x) (encD y) = decide (x = y) := by
  obtain ⟨a, b, c⟩ := x
  obtain ⟨a', b', c'⟩ := y
  simp [encD, pyEq, pyEqL]
  by_cases h1 : a = a' <;> by_cases h2 : b = b' <;> by_cases h3 : c = c' <;> simp [h1, h2, h3] <;> omega
theorem runFD_exc2 {fd : FD} {F : FEnv} {args : List PV} {h : LH} {c : Nat} (hn : args.length = fd.np) (e : fd.body F (args.map some ++ List.replicate (fd.ns - fd.np) none) h = .exc c h) : runFD fd F args h = .exc c h := runFD_exc hn e
section
variable {T : Nat → Option FD} (hT : PlanT T) {h : LH}
include hT
theorem ev_need_table {v : PV} (hv : v.data = true) (d : Nat) : fenv T (d + 7) n_need_table [v] h = if B (isTable v) then .ok .non h else .exc 2 h := by
  rw [fenv_call hT.need_table]
  have e := ev_is_table hT.toTabT (h := h) hv d
  cases c : B (isTable v) <;> rw [c] at e
  · rw [if_neg (by simp)]
    apply runFD_exc rfl
    simp [fd_need_table, ir_need_table, e]
  · rw [if_pos rfl]
    apply runFD_nx (env := [some v]) rfl
    simp [fd_need_table, ir_need_table, e]
theorem ev_need_number {v : PV} {lo hi : Int} (hv : v.fz = true) (d : Nat) : fenv T (d + 3) n_need_number [v, .int lo, .int hi] h = if wholeB v lo hi then .ok .non h else .exc 4 h := by
  rw [fenv_call hT.need_number]
  have e := ev_is_whole hT.toTabT (h := h) (lo := lo) (hi := hi) hv d
  cases c : wholeB v lo hi <;> rw [c] at e
  · rw [if_neg (by simp)]
    apply runFD_exc rfl
    simp [fd_need_number, ir_need_number, e]
  · rw [if_pos rfl]
    apply runFD_nx (env := [some v, some (.int lo), some (.int hi)]) rfl
    simp [fd_need_number, ir_need_number, e]
theorem ev_is_ride {t : Tb} (ht : TbPre t) {place : Int} {v : PV} (hv : v.data = true) (d : Nat) : fenv T (d + 3) n_is_ride [encT t, .int place, v] h = .ok (.bl (B (isRide t.runs place v))) h := by
  rw [fenv_call hT.is_ride]
  apply runFD_ret rfl
  have er := ev_is_row hT.toTabT (h := h) (lo := 3) (hi := 3) (data_fz hv) (d + 1)
  have i0 : ∀ h, opIx h (encT t) (.int 0) = some (.tup (t.runs.map encR)) := by simp [encT, encRs]
  cases c : rowB v 3 3
  · have : ¬ isRide t.runs place v := by
      rintro ⟨w, rfl, hw⟩
      simp [rowB, encD] at c
    rw [c] at er
    simp [fd_is_ride, ir_is_ride, er, B_false this]
  · obtain ⟨xs, rfl, hl⟩ := rowB_eq.mp c
    obtain ⟨v0, v1, v2, rfl⟩ := len3 hl
    rw [c] at er
    rw [data_tup] at hv
    have d0 := data_fz (hv v0 (by simp))
    have d1 := data_fz (hv v1 (by simp))
    have d2 := data_fz (hv v2 (by simp))
    have bad : ∀ {p : Prop}, (∀ w, encD w = .tup [v0, v1, v2] → RideOk t.runs place w → p) → ¬ p → B (isRide t.runs place (.tup [v0, v1, v2])) = false := by
      rintro p q n
      apply B_false
      rintro ⟨w, e, hw⟩
      exact n (q w e.symm hw)
    cases c0 : wholeB v0 0 ((t.runs.length : Int) - 1)
    · have := bad (p := wholeB v0 0 ((t.runs.length : Int) - 1) = true) (fun w e hw => by
        simp [encD] at e
        rw [← e.1]
        exact wholeB_nat.mpr ⟨_, rfl, hw.r⟩) (by simp [c0])
      simp [fd_is_ride, ir_is_ride, er, i0, ev_is_whole hT.toTabT d0, c0, this]
    obtain ⟨k0, rfl, l0⟩ := wholeB_nat.mp c0
    obtain ⟨r0, g0, m0, n0⟩ := run_get l0
    cases c1 : wholeB v1 0 ((r0.length : Int) - 2)
    · have := bad (p := wholeB v1 0 ((r0.length : Int) - 2) = true) (fun w e hw => by
        simp [encD] at e
        have hc := hw.b
        rw [show w.1 = k0 by omega, n0] at hc
        rw [← e.2.1]
        exact wholeB_nat2.mpr ⟨_, rfl, hc⟩) (by simp [c1])
      simp [fd_is_ride, ir_is_ride, er, i0, ev_is_whole hT.toTabT d0, c0, atR g0, encR, ev_is_whole hT.toTabT d1, c1, this]
    obtain ⟨k1, rfl, l1⟩ := wholeB_nat2.mp c1
    cases c2 : wholeB v2 ((k1 : Int) + 1) ((r0.length : Int) - 1)
    · have := bad (p := wholeB v2 ((k1 : Int) + 1) ((r0.length : Int) - 1) = true) (fun w e hw => by
        simp [encD] at e
        have h1 := hw.be
        have h2 := hw.e
        rw [show w.1 = k0 by omega, n0] at h2
        rw [← e.2.2]
        exact wholeB_iff.mpr ⟨_, rfl, by omega, by omega⟩) (by simp [c2])
      simp [fd_is_ride, ir_is_ride, er, i0, ev_is_whole hT.toTabT d0, c0, atR g0, encR, ev_is_whole hT.toTabT d1, c1, ev_is_whole hT.toTabT d2, c2, this]
    obtain ⟨i, rfl, l2, l3⟩ := wholeB_iff.mp c2
    obtain ⟨k2, rfl⟩ : ∃ k2 : Nat, i = k2 := ⟨i.toNat, by omega⟩
    have gx : r0[k1]? = some (r0[k1]'(by omega)) := by simp
    generalize r0[k1]'(by omega) = x at gx
    have key : isRide t.runs place (.tup [.int k0, .int k1, .int k2]) ↔ x.p = place := by
      constructor
      · rintro ⟨w, e, hw⟩
        have := encD_inj (x := (k0, k1, k2)) e
        subst this
        obtain ⟨y, a, b⟩ := hw.at_
        rw [callAt_eq g0, gx] at a
        cases a
        exact b
      · intro q
        exact ⟨(k0, k1, k2), rfl, l0, by rw [n0]; exact l1, by show k1 + 1 ≤ k2; omega, by rw [n0]; show k2 < r0.length; omega, x, by rw [callAt_eq g0, gx], q⟩
    rw [B_congr key]
    by_cases q : x.p = place
    · simp [fd_is_ride, ir_is_ride, er, i0, ev_is_whole hT.toTabT d0, c0, atR g0, encR, ev_is_whole hT.toTabT d1, c1, ev_is_whole hT.toTabT d2, c2, atC gx, encC, q, B]
    · simp [fd_is_ride, ir_is_ride, er, i0, ev_is_whole hT.toTabT d0, c0, atR g0, encR, ev_is_whole hT.toTabT d1, c1, ev_is_whole hT.toTabT d2, c2, atC gx, encC, q, B]
end
def isPlan (t : Tb) (v : PV) : Prop := ∃ place time ds, v = encP place time ds ∧ PlanOk t place time ds
def isRides (rs : List Rn) (place : Int) (xs : List PV) : Prop := ∃ ds q, xs = ds.map encD ∧ goes rs place ds q
theorem placeAt_eq {rs : List Rn} {r c : Nat} {x : Call} (h : callAt rs r c = some x) : placeAt rs r c = x.p := by simp [placeAt, h]
section
variable {T : Nat → Option FD} (hT : PlanT T) {h : LH}
include hT
theorem rides_loop {t : Tb} (ht : TbPre t) (v : PV) (d : Nat) : ∀ (xs : List PV) (place : Int) (a : Option PV), (∀ x ∈ xs, x.data = true) →
    (isRides t.runs place xs → NX (forL (.name 3) (denSs (.cons (.ife (.not (.val (.call n_is_ride (lit [.var 0, .var 2, .var 3])))) (.cons (.ret (.bl false)) (.nil)) (.nil)) (.cons (.set 2 (.ix (.ix (.ix (.ix (.var 0) (.int 0)) (.ix (.var 3) (.int 0))) (.ix (.var 3) (.int 2))) (.int 0))) (.nil)))) (fenv T (d + 3)) xs [some (encT t), some v, some (.int place), a] h) fun env' h' => h' = h) ∧
    (¬ isRides t.runs place xs → forL (.name 3) (denSs (.cons (.ife (.not (.val (.call n_is_ride (lit [.var 0, .var 2, .var 3])))) (.cons (.ret (.bl false)) (.nil)) (.nil)) (.cons (.set 2 (.ix (.ix (.ix (.ix (.var 0) (.int 0)) (.ix (.var 3) (.int 0))) (.ix (.var 3) (.int 2))) (.int 0))) (.nil)))) (fenv T (d + 3)) xs [some (encT t), some v, some (.int place), a] h = .ret (.bl false) h)
  | [], place, a, _ => ⟨fun _ => .mk rfl, fun n => absurd ⟨[], place, rfl, rfl⟩ n⟩
  | x :: xs, place, a, hx => by
    have e := ev_is_ride hT (h := h) ht (place := place) (hx x (by simp)) d
    have i0 : ∀ h, opIx h (encT t) (.int 0) = some (.tup (t.runs.map encR)) := by simp [encT, encRs]
    by_cases c : isRide t.runs place x
    · rw [B_true c] at e
      obtain ⟨dd, rfl, ok⟩ := c
      obtain ⟨r0, g0, m0, n0⟩ := run_get ok.r
      have he := ok.e
      rw [n0] at he
      have gx : r0[dd.2.2]? = some (r0[dd.2.2]'he) := by simp
      generalize r0[dd.2.2]'he = y at gx
      have pa : placeAt t.runs dd.1 dd.2.2 = y.p := placeAt_eq (by rw [callAt_eq g0, gx])
      obtain ⟨ih1, ih2⟩ := rides_loop ht v d xs y.p (some (encD dd)) fun z hz => hx z (by simp [hz])
      have st : (denSs (.cons (.ife (.not (.val (.call n_is_ride (lit [.var 0, .var 2, .var 3])))) (.cons (.ret (.bl false)) (.nil)) (.nil)) (.cons (.set 2 (.ix (.ix (.ix (.ix (.var 0) (.int 0)) (.ix (.var 3) (.int 0))) (.ix (.var 3) (.int 2))) (.int 0))) (.nil)))) (fenv T (d + 3)) [some (encT t), some v, some (.int place), some (encD dd)] h = .nx [some (encT t), some v, some (.int y.p), some (encD dd)] h := by
        simp [e, i0]
        simp [encD, atR g0, encR, atC gx, encC]
      have iff : isRides t.runs place (encD dd :: xs) ↔ isRides t.runs y.p xs := by
        constructor
        · rintro ⟨ds, q, e, g⟩
          cases ds with
          | nil => simp at e
          | cons d2 ds =>
            simp only [List.map_cons, List.cons.injEq] at e
            have := encD_inj e.1
            subst this
            exact ⟨ds, q, e.2, by rw [← pa]; exact g.2⟩
        · rintro ⟨ds, q, e, g⟩
          exact ⟨dd :: ds, q, by rw [e]; rfl, ok, by rw [pa]; exact g⟩
      rw [iff, forL]
      simp only [put_name, List.length_cons, List.length_nil, List.set]
      rw [if_pos (by omega)]
      simp only
      rw [st]
      exact ⟨ih1, ih2⟩
    · rw [B_false c] at e
      have st : (denSs (.cons (.ife (.not (.val (.call n_is_ride (lit [.var 0, .var 2, .var 3])))) (.cons (.ret (.bl false)) (.nil)) (.nil)) (.cons (.set 2 (.ix (.ix (.ix (.ix (.var 0) (.int 0)) (.ix (.var 3) (.int 0))) (.ix (.var 3) (.int 2))) (.int 0))) (.nil)))) (fenv T (d + 3)) [some (encT t), some v, some (.int place), some x] h = .ret (.bl false) h := by
        simp [e]
      rw [forL]
      simp only [put_name, List.length_cons, List.length_nil, List.set]
      rw [if_pos (by omega)]
      simp only
      rw [st]
      refine ⟨fun q => absurd ?_ c, fun _ => rfl⟩
      obtain ⟨ds, q, e, g⟩ := q
      cases ds with
      | nil => simp at e
      | cons d2 ds =>
        simp only [List.map_cons, List.cons.injEq] at e
        exact ⟨d2, e.1, g.1⟩
theorem ev_fits_plan {t : Tb} (ht : TbPre t) {v : PV} (hv : v.data = true) (d : Nat) : fenv T (d + 4) n_fits_plan [encT t, v] h = .ok (.bl (B (isPlan t v))) h := by
  rw [fenv_call hT.fits_plan]
  apply runFD_ret rfl
  have er := ev_is_row hT.toTabT (h := h) (lo := 3) (hi := 3) (data_fz hv) (d + 2)
  cases c : rowB v 3 3
  · have : ¬ isPlan t v := by
      rintro ⟨p, q, w, rfl, hw⟩
      simp [rowB, encP] at c
    rw [c] at er
    simp [fd_fits_plan, ir_fits_plan, er, B_false this]
  · obtain ⟨xs, rfl, hl⟩ := rowB_eq.mp c
    obtain ⟨v0, v1, v2, rfl⟩ := len3 hl
    rw [c] at er
    rw [data_tup] at hv
    have d0 := data_fz (hv v0 (by simp))
    have d1 := data_fz (hv v1 (by simp))
    have D2 := hv v2 (by simp)
    have d2 := data_fz D2
    have bad : ∀ {p : Prop}, (∀ a b ds, encP a b ds = .tup [v0, v1, v2] → PlanOk t a b ds → p) → ¬ p → B (isPlan t (.tup [v0, v1, v2])) = false := by
      rintro p q n
      apply B_false
      rintro ⟨a, b, w, e, hw⟩
      exact n (q a b w e.symm hw)
    cases c0 : wholeB v0 0 5
    · have := bad (p := wholeB v0 0 5 = true) (fun a b w e hw => by
        simp [encP] at e
        rw [← e.1]
        exact wholeB_iff.mpr ⟨_, rfl, hw.p0, hw.p5⟩) (by simp [c0])
      simp [fd_fits_plan, ir_fits_plan, er, ev_is_whole hT.toTabT d0, c0, this]
    cases c1 : wholeB v1 0 240
    · have := bad (p := wholeB v1 0 240 = true) (fun a b w e hw => by
        simp [encP] at e
        rw [← e.2.1]
        exact wholeB_iff.mpr ⟨_, rfl, hw.t0, hw.t1⟩) (by simp [c1])
      simp [fd_fits_plan, ir_fits_plan, er, ev_is_whole hT.toTabT d0, c0, ev_is_whole hT.toTabT d1, c1, this]
    have er2 := ev_is_row hT.toTabT (h := h) (lo := 1) (hi := 4) d2 (d + 2)
    cases c2 : rowB v2 1 4
    · have := bad (p := rowB v2 1 4 = true) (fun a b w e hw => by
        simp [encP] at e
        rw [← e.2.2]
        have := hw.n1
        have := hw.n4
        simp [rowB]
        omega) (by simp [c2])
      rw [c2] at er2
      simp [fd_fits_plan, ir_fits_plan, er, er2, ev_is_whole hT.toTabT d0, c0, ev_is_whole hT.toTabT d1, c1, this]
    rw [c2] at er2
    obtain ⟨xs, rfl⟩ : ∃ xs, v2 = .tup xs := by
      unfold rowB at c2; split at c2
      · exact ⟨_, rfl⟩
      · cases c2
    simp [rowB] at c2
    rw [data_tup] at D2
    obtain ⟨p, rfl, p0, p1⟩ := wholeB_iff.mp c0
    obtain ⟨q, rfl, q0, q1⟩ := wholeB_iff.mp c1
    have key : isPlan t (.tup [.int p, .int q, .tup xs]) ↔ isRides t.runs p xs := by
      constructor
      · rintro ⟨a, b, ds, e, ok⟩
        simp [encP] at e
        obtain ⟨g, hg⟩ := ok.goes
        exact ⟨ds, g, e.2.2, by rw [e.1]; exact hg⟩
      · rintro ⟨ds, g, e, hg⟩
        subst e
        simp at c2
        exact ⟨p, q, ds, rfl, p0, p1, q0, q1, by omega, by omega, g, hg⟩
    obtain ⟨l1, l2⟩ := rides_loop hT (h := h) ht (.tup [.int p, .int q, .tup xs]) d xs p none D2
    rw [B_congr key]
    by_cases z : isRides t.runs p xs
    · rw [B_true z]
      obtain ⟨env', h', e, rfl⟩ := (l1 z).elim
      simp at e
      simp [fd_fits_plan, ir_fits_plan, er, er2, ev_is_whole hT.toTabT d0, c0, ev_is_whole hT.toTabT d1, c1, e]
    · rw [B_false z]
      have e := l2 z
      simp at e
      simp [fd_fits_plan, ir_fits_plan, er, er2, ev_is_whole hT.toTabT d0, c0, ev_is_whole hT.toTabT d1, c1, e]
theorem ev_is_plan {t : Tb} (ht : TbOk t) (hd : (encT t).data = true) {v : PV} (hv : v.data = true) (d : Nat) : fenv T (d + 8) n_is_plan [encT t, v] h = .ok (.bl (B (isPlan t v))) h := by
  rw [fenv_call hT.is_plan]
  apply runFD_ret rfl
  have e := ev_need_table hT (h := h) hd d
  rw [B_true ⟨t, rfl, ht⟩] at e
  simp at e
  simp [fd_is_plan, ir_is_plan, e, ev_fits_plan hT ht.toTbPre hv]
end
theorem encT_data (t : Tb) : (encT t).data = true := by
  have h1 : ∀ r : Rn, (encR r).data = true := fun r => by
    unfold encR
    rw [data_tup]
    intro x hx
    obtain ⟨c, _, rfl⟩ := List.mem_map.mp hx
    simp [encC, PV.data, PV.dataL]
  unfold encT encRs
  rw [data_tup]
  intro x hx
  simp at hx
  rcases hx with rfl | rfl | rfl | rfl | rfl
  · rw [data_tup]
    intro x hx
    obtain ⟨c, _, rfl⟩ := List.mem_map.mp hx
    exact h1 c
  · rw [data_tup]
    intro x hx
    obtain ⟨c, _, rfl⟩ := List.mem_map.mp hx
    simp [encW, PV.data, PV.dataL]
  · rw [data_tup]
    intro x hx
    obtain ⟨c, _, rfl⟩ := List.mem_map.mp hx
    simp [encU, PV.data, PV.dataL]
  · simp [PV.data, PV.dataL]
  · rfl
end G
end
section
set_option Elab.async false
set_option linter.all false
set_option maxRecDepth 100000
/-! E11: rides_from, plans_to, _law_due. -/
namespace G
open PySem M
structure AllT (T : Nat → Option FD) : Prop extends PlanT T where
  rides_from : T n_rides_from = some fd_rides_from
  plans_to : T n_plans_to = some fd_plans_to
  need_all : T n_need_all_2 = some fd_need_all_2
  all_plans : T n_all_plans = some fd_all_plans
  due : T n__law_due_1 = some fd__law_due_1
theorem int_eq (x y : Int) : pyEq (.int x) (.int y) = decide (x = y) := by
  rw [pyEq]
  by_cases c : x = y <;> simp [c]
theorem intT_ok (met : List Int) : (PV.tup (met.map .int)).ok = true := ok_tup fun x hx => by
  obtain ⟨e, _, rfl⟩ := List.mem_map.mp hx
  simp [PV.data, PV.depth]
theorem int_notinT (h : LH) (p : Int) (met : List Int) : opNotIn h (.int p) (.tup (met.map .int)) = some (.bl (decide (p ∉ met))) := by
  rw [opNotIn_tup h rfl (intT_ok met), inL_map (f := PV.int) int_eq]
  simp
theorem int_notinL (h : LH) (p : Int) (met : List Int) : opNotIn h (.int p) (.lst (met.map .int)) = some (.bl (decide (p ∉ met))) := by
  rw [opNotIn_lst h rfl (ints_ok met), inL_map (f := PV.int) int_eq]
  simp
theorem met_last {met : List Int} (h : met ≠ []) : L2.atI (met.map PV.int) (-1) = some (.int (met.getLastD 0)) := by
  rw [atI_neg1, List.length_map, List.getElem?_map]
  have : met[met.length - 1]? = some (met.getLastD 0) := by
    rw [← List.getLast?_eq_getElem?]
    cases met with
    | nil => exact absurd rfl h
    | cons a l => simp [List.getLast?_cons]
  rw [this]
  rfl
theorem rds_data (ds : List Ride) : PV.dataL (ds.map encD) = true := by
  rw [dataL_iff]
  intro x hx
  obtain ⟨e, _, rfl⟩ := List.mem_map.mp hx
  simp [encD, PV.data, PV.dataL]
section
variable {T : Nat → Option FD} (hT : AllT T) {h : LH}
include hT
theorem ev_rides_from {t : Tb} (ht : TbPre t) (place : Int) (met : List Int) (cl : Cl h) (d : Nat) : fenv T (d + 1) n_rides_from [encT t, .int place, .tup (met.map .int)] h = .ok (.lst ((rides t.runs place met).map encD)) h := by
  rw [fenv_call hT.rides_from]
  refine runFD_tmp' rfl cl (data_closed _ _ (by rw [PV.data]; exact rds_data _)) (RT.gen fun J hJ => ?_)
  have n4 := ht.n4
  have r4 : ∀ r ∈ t.runs, r.length ≤ 4 := fun r h => (ht.runs r h).hi
  have ml := rides_len n4 r4 place met
  have i0 : ∀ h, opIx h (encT t) (.int 0) = some (.tup (t.runs.map encR)) := by simp [encT, encRs]
  simp [fd_rides_from, ir_rides_from, i0]
  rw [enumFrom_eq]
  refine at_col (fun r => RT r _) (fun q : Rn × Nat => ridesR q.1 place met q.2) (fun s env h' => h' = h ++ [.lst (s.map encD)] ∧ ∃ a b c e, env = [some (encT t), some (.int place), some (.tup (met.map .int)), some (.ref h.length), a, b, c, e]) [] (rides t.runs place met) ?_ (by rfl) ⟨rfl, none, none, none, none, rfl⟩ ?_
  · rintro ⟨calls, r⟩ hq s env h' pre ⟨rfl, a, b, c, e, rfl⟩
    refine ⟨[some (encT t), some (.int place), some (.tup (met.map .int)), some (.ref h.length), some (.int r), some (encR calls), c, e], by simp, NX.gen fun J hJ => ?_⟩
    have hz := List.mem_zipIdx hq
    simp at hz
    have hc : calls ∈ t.runs := hz.2 ▸ List.getElem_mem _
    have c4 := (ht.runs calls hc).hi
    have c2 := (ht.runs calls hc).lo
    have pl := Nat.le_trans pre.length_le ml
    simp [encR, small_int (show -(2 ^ 62) ≤ (calls.length : Int) - 1 by omega) (show (calls.length : Int) - 1 < 2 ^ 62 by omega), show ((calls.length : Int) - 1).toNat = calls.length - 1 by omega, intsFrom_0]
    refine at_col (fun r => NX r _) (ridesRB calls place met r) (fun s env h' => h' = h ++ [.lst (s.map encD)] ∧ ∃ c e, env = [some (encT t), some (.int place), some (.tup (met.map .int)), some (.ref h.length), some (.int r), some (encR calls), c, e]) s (s ++ ridesR calls place met r) ?_ (by rw [ridesR_less]) ⟨rfl, c, e, rfl⟩ ?_
    · rintro b hb s env h' pre1 ⟨rfl, c, e, rfl⟩
      refine ⟨[some (encT t), some (.int place), some (.tup (met.map .int)), some (.ref h.length), some (.int r), some (encR calls), some (.int b), e], by simp, NX.gen fun J hJ => ?_⟩
      have hb := List.mem_range.mp hb
      have pl1 := Nat.le_trans pre1.length_le pl
      simp [encR, small_int (show -(2 ^ 62) ≤ (b : Int) + 1 by omega) (show (b : Int) + 1 < 2 ^ 62 by omega), small_nat (show calls.length < 2 ^ 62 by omega)]
      rw [show (b : Int) + 1 = ((b + 1 : Nat) : Int) by omega, show ((calls.length : Int) - ((b + 1 : Nat) : Int)).toNat = calls.length - (b + 1) by omega, intsFrom_eq]
      refine at_col (fun r => NX r _) (fun e => if fitC calls place met b e then [(r, b, e)] else []) (fun s env h' => h' = h ++ [.lst (s.map encD)] ∧ ∃ e, env = [some (encT t), some (.int place), some (.tup (met.map .int)), some (.ref h.length), some (.int r), some (encR calls), some (.int b), e]) s (s ++ ridesRB calls place met r b) ?_ (by rfl) ⟨rfl, e, rfl⟩ ?_
      · rintro f hf s env h' pre2 ⟨rfl, e, rfl⟩
        refine ⟨[some (encT t), some (.int place), some (.tup (met.map .int)), some (.ref h.length), some (.int r), some (encR calls), some (.int b), some (.int f)], by simp, NX.gen fun J hJ => ?_⟩
        have hf := List.mem_range'_1.mp hf
        have pl2 := Nat.le_trans pre2.length_le pl1
        simp only [List.length_append] at pl2
        have f0 : s.length < 16777216 := by omega
        have gx : calls[b]? = some (calls[b]'(by omega)) := by simp
        have gy : calls[f]? = some (calls[f]'(by omega)) := by simp
        generalize calls[b]'(by omega) = x at gx
        generalize calls[f]'(by omega) = y at gy
        have hm : fitC calls place met b f = (decide (x.p = place) && decide (y.p ∉ met)) := by
          unfold fitC
          rw [gx, gy]
        rw [hm] at hJ
        by_cases p1 : x.p = place
        · by_cases p2 : y.p ∈ met
          · simp [encR, atC gx, atC gy, encC, p1, int_notinT, p2]
            refine .mk (hJ _ _ ⟨by simp [p2], _, rfl⟩)
          · simp [encR, atC gx, atC gy, encC, p1, int_notinT, p2, isLiveL, f0]
            refine .mk (hJ _ _ ⟨by simp [p1, p2, encD], _, rfl⟩)
        · simp [encR, atC gx, atC gy, encC, show (x.p == place) = false by simpa using p1]
          refine .mk (hJ _ _ ⟨by simp [p1], _, rfl⟩)
      · rintro env' h'' ⟨rfl, e, rfl⟩
        exact .mk (hJ _ _ ⟨rfl, _, _, rfl⟩)
    · rintro env' h'' ⟨rfl, c, e, rfl⟩
      exact .mk (hJ _ _ ⟨rfl, _, _, _, _, rfl⟩)
  · rintro env' h' ⟨rfl, a, b, c, e, rfl⟩
    simp [freeze]
    exact .mk (hJ _ _ ⟨rfl, _, rfl⟩)
end
/-! ### the order of plans -/
theorem encDs_lt : ∀ a b : List Ride, pyLtL (a.map encD) (b.map encD) = lexI (pkey a) (pkey b)
  | [], [] => rfl
  | [], y :: b => by simp [pyLtL, pkey, dkey, lexI]
  | x :: a, [] => by simp [pyLtL, pkey, dkey, lexI]
  | x :: a, y :: b => by
    rw [lexI_pkey, List.map_cons, List.map_cons, pyLtL, encD_eq, encDs_lt a b]
    by_cases c : x = y
    · simp [c]
    · simp only [c, decide_false, Bool.false_eq_true, if_false]
      simp [encD, pyLt, pyLtL, pyEq, dkey, lexI]
theorem encP_lt (p q : Int) (a b : List Ride) : pyLt (encP p q a) (encP p q b) = lexI (pkey a) (pkey b) := by
  unfold encP
  rw [pyLt]
  simp only [pyLtL, int_eq, decide_true, if_true]
  have : pyEq (.tup (a.map encD)) (.tup (b.map encD)) = decide (a = b) := pyEq_tup encD_eq a b
  rw [this]
  by_cases c : a = b
  · subst c
    simp [lexI_irr]
  · simp only [c, decide_false, Bool.false_eq_true, if_false]
    rw [pyLt, encDs_lt]
theorem encD_dd (d : Ride) : (encD d).data = true ∧ (encD d).depth = 1 := by
  simp [encD, PV.data, PV.dataL, PV.depth, PV.depthL]
theorem encP_dd (p q : Int) (a : List Ride) : (encP p q a).data = true ∧ (encP p q a).depth ≤ 5 := by
  have h1 := rds_data a
  have h2 : PV.depthL (a.map encD) ≤ 1 := depth_L fun x hx => by
    obtain ⟨d, _, rfl⟩ := List.mem_map.mp hx
    rw [(encD_dd d).2]
    exact Nat.le_refl _
  simp [encP, PV.data, PV.dataL, PV.depth, PV.depthL, h1]
  omega
theorem encP_ok (p q : Int) (a : List Ride) : (encP p q a).ok = true := by
  unfold PV.ok
  rw [(encP_dd p q a).1]
  have := (encP_dd p q a).2
  simp
  omega
theorem alike_ds : ∀ a b : List Ride, W.alikeAll (toDL (a.map encD)) (toDL (b.map encD)) = true
  | [], _ => by rw [List.map_nil, toDL]; simp [W.alikeAll]
  | _ :: _, [] => by simp [toDL, W.alikeAll]
  | x :: a, y :: b => by
    simp only [List.map_cons, toDL, W.alikeAll, alike_ds a b, Bool.and_true]
    simp [encD, toD, toDL, W.alike, W.alikeAll]
theorem plans_sort (h : LH) (p q : Int) {ps : List (List Ride)} (hl : ps.length ≤ 8000000) : fSorted h [.lst (ps.map (encP p q))] = some (.lst ((sortK pkey ps).map (encP p q))) := by
  unfold fSorted
  simp only [view_lst]
  rw [if_pos, isort_mapT (encP_lt p q)]
  have h1 : allOk (ps.map (encP p q)) = true := by
    unfold allOk
    rw [List.all_eq_true]
    intro x hx
    rw [List.all_eq_true]
    intro y hy
    obtain ⟨u, _, rfl⟩ := List.mem_map.mp hx
    obtain ⟨w, _, rfl⟩ := List.mem_map.mp hy
    unfold ltOk
    rw [encP_ok, encP_ok]
    have : W.alike (toD (encP p q u)) (toD (encP p q w)) = true := by
      simp [encP, toD, toDL, W.alike, W.alikeAll, alike_ds]
    rw [this]
    rfl
  have h2 : (ps.map (encP p q)).all isTup1 = true := by
    rw [List.all_eq_true]
    intro x hx
    obtain ⟨u, _, rfl⟩ := List.mem_map.mp hx
    rfl
  have h3 : sizeOk (ps.map (encP p q)).length = true := by
    unfold sizeOk
    simp
    omega
  rw [h1, h2, h3]
  rfl
end G
end
section
set_option Elab.async false
set_option linter.all false
set_option maxRecDepth 100000
/-! E12: plans_to. -/
namespace G
open PySem M
def encSt (s : Stt) : PV := .tup [.tup (s.1.map encD), .tup (s.2.map .int)]
/-- the search in breadth, before k more turns -/
structure Bfs (rs : List Rn) (place goal : Int) (most k : Nat) (found : List (List Ride)) (line : List Stt) : Prop where
  perm : (found ++ line.flatMap (coll rs goal k)).Perm (coll rs goal most ([], [place]))
  not_ : ∀ s ∈ line, there goal s = false
  ok : ∀ s ∈ line, StOk rs place s ∧ s.1.length + k = most ∧ s.2.length = s.1.length + 1
  ll : line.length ≤ 64 ^ (most - k)
  fl : found.length ≤ 2 * 64 ^ (most - k)
section
variable {T : Nat → Option FD} (hT : AllT T) {h : LH}
include hT
theorem ev_plans_to {t : Tb} (ht : TbPre t) {place time goal : Int} (hg : goal ≠ place) {most : Nat} (hm : most ≤ 3) (cl : Cl h) (d : Nat) : ∃ ps : List (List Ride), ps.Perm (coll t.runs goal most ([], [place])) ∧ ps.length ≤ 8000000 ∧
    fenv T (d + 2) n_plans_to [encT t, .int place, .int time, .int goal, .int most] h = .ok (.lst ((sortK pkey ps).map (encP place time))) h := by
  suffices z : RT (fd_plans_to.body (fenv T (d + 1)) ([encT t, PV.int place, .int time, .int goal, .int most].map some ++ List.replicate (fd_plans_to.ns - fd_plans_to.np) none) h) fun v h' => h' = h ∧ ∃ ps : List (List Ride), ps.Perm (coll t.runs goal most ([], [place])) ∧ ps.length ≤ 8000000 ∧ v = .lst ((sortK pkey ps).map (encP place time)) by
    obtain ⟨v, h', e, rfl, ps, hp, hl, rfl⟩ := z.elim
    refine ⟨ps, hp, hl, ?_⟩
    rw [fenv_call hT.plans_to]
    exact runFD_ret rfl e
  refine RT.gen fun J hJ => ?_
  have n4 := ht.n4
  have r4 : ∀ r ∈ t.runs, r.length ≤ 4 := fun r h => (ht.runs r h).hi
  have i0 : ∀ h, opIx h (encT t) (.int 0) = some (.tup (t.runs.map encR)) := by simp [encT, encRs]
  have pow3 : ∀ j, j ≤ 3 → 64 ^ j ≤ 262144 := fun j hj => by
    have : 64 ^ j ≤ 64 ^ 3 := Nat.pow_le_pow_right (by omega) hj
    simpa using this
  simp [fd_plans_to, ir_plans_to, small_nat (show most < 2 ^ 62 by omega), intsFrom_0]
  refine at_inv (fun r => RT r _) (fun ys env h' => h' = h ∧ ∃ found line a b c e f, Bfs t.runs place goal most ys.length found line ∧ ys.length ≤ most ∧ env = [some (encT t), some (.int place), some (.int time), some (.int goal), some (.int most), some (.lst (found.map (encP place time))), some (.lst (line.map encSt)), a, b, c, e, f]) ?_ ⟨rfl, [], [([], [place])], none, none, none, none, none, ⟨by simp, fun s hs => ?_, fun s hs => ?_, by simp, by simp⟩, by simp, by simp [encSt]⟩ ?_
  · rintro y ys env h' ⟨rfl, found, line, a, b, c, e, f, B, hy, rfl⟩
    refine ⟨[some (encT t), some (.int place), some (.int time), some (.int goal), some (.int most), some (.lst (found.map (encP place time))), some (.lst (line.map encSt)), some (.int y), b, c, e, f], by simp, NX.gen fun J hJ => ?_⟩
    simp only [List.length_cons] at B hy
    have ll : line.length ≤ 4096 := by
      have := B.ll
      have : 64 ^ (most - (ys.length + 1)) ≤ 64 ^ 2 := Nat.pow_le_pow_right (by omega) (by omega)
      have : (64 : Nat) ^ 2 = 4096 := by decide
      omega
    have kl : (line.flatMap (kids t.runs)).length ≤ line.length * 64 := flatMap_len_le fun s _ => kids_len n4 r4 s
    simp
    refine at_col (fun r => NX r _) (kids t.runs) (fun s env h'' => h'' = h' ∧ ∃ c e f, env = [some (encT t), some (.int place), some (.int time), some (.int goal), some (.int most), some (.lst (found.map (encP place time))), some (.lst (line.map encSt)), some (.int y), some (.lst (s.map encSt)), c, e, f]) [] (line.flatMap (kids t.runs)) ?_ rfl ⟨rfl, c, e, f, rfl⟩ ?_
    · rintro ⟨rd, met⟩ hs s env h'' pre ⟨rfl, c, e, f, rfl⟩
      refine ⟨[some (encT t), some (.int place), some (.int time), some (.int goal), some (.int most), some (.lst (found.map (encP place time))), some (.lst (line.map encSt)), some (.int y), some (.lst (s.map encSt)), some (.tup (rd.map encD)), some (.tup (met.map .int)), f], by simp [encSt], NX.gen fun J hJ => ?_⟩
      obtain ⟨so, sl, sm⟩ := B.ok _ hs
      obtain ⟨p, hp⟩ : ∃ p, p = here (rd, met) := ⟨_, rfl⟩
      have hl : L2.atI (met.map PV.int) (-1) = some (.int p) := by rw [hp]; exact met_last so.met
      have er := ev_rides_from hT (h := h'') ht p met cl d
      have hk : kids t.runs (rd, met) = (rides t.runs p met).map fun d => ((rd ++ [d], met ++ [placeAt t.runs d.1 d.2.2]) : Stt) := by rw [hp]; rfl
      simp only at sl sm
      simp [hl, er]
      have pl := pre.length_le
      refine at_col (fun r => NX r _) (fun d : Ride => [((rd ++ [d], met ++ [placeAt t.runs d.1 d.2.2]) : Stt)]) (fun s env h => h = h'' ∧ ∃ f, env = [some (encT t), some (.int place), some (.int time), some (.int goal), some (.int most), some (.lst (found.map (encP place time))), some (.lst (line.map encSt)), some (.int y), some (.lst (s.map encSt)), some (.tup (rd.map encD)), some (.tup (met.map .int)), f]) s (s ++ kids t.runs (rd, met)) ?_ (by rw [flatMap_single, hk]) ⟨rfl, f, rfl⟩ ?_
      · rintro d hd s2 env h3 pre2 ⟨rfl, f, rfl⟩
        refine ⟨[some (encT t), some (.int place), some (.int time), some (.int goal), some (.int most), some (.lst (found.map (encP place time))), some (.lst (line.map encSt)), some (.int y), some (.lst (s2.map encSt)), some (.tup (rd.map encD)), some (.tup (met.map .int)), some (encD d)], by simp, NX.gen fun J hJ => ?_⟩
        have ro := rides_mem hd
        obtain ⟨r0, g0, m0, n0⟩ := run_get ro.r
        have he := ro.e
        rw [n0] at he
        have gx : r0[d.2.2]? = some (r0[d.2.2]'he) := by simp
        generalize r0[d.2.2]'he = z at gx
        have pa : placeAt t.runs d.1 d.2.2 = z.p := placeAt_eq (by rw [callAt_eq g0, gx])
        have pl2 := pre2.length_le
        simp only [List.length_append, List.length_cons, List.length_nil] at pl2 pl
        have f0 : Sm (s2.map encSt) := sm_of (by simp; omega)
        have f1 : Sm (rd.map encD) := sm_of (by simp; omega)
        have f2 : Sm (met.map PV.int) := sm_of (by simp; omega)
        obtain ⟨d1, d2, d3⟩ := d
        simp only at g0 gx pa
        simp [i0, encD, atR g0, encR, atC gx, encC, opAdd_lk, opAdd_tk, f0, f1, f2]
        refine .mk (hJ _ _ ⟨rfl, some (encD (d1, d2, d3)), ?_⟩)
        simp [encSt, encD, pa]
      · rintro env' h3 ⟨rfl, f, rfl⟩
        exact .mk (hJ _ _ ⟨rfl, _, _, _, rfl⟩)
    · rintro env' h'' ⟨rfl, c, e, f, rfl⟩
      have kid : ∀ s ∈ line.flatMap (kids t.runs), StOk t.runs place s ∧ s.1.length + ys.length = most ∧ s.2.length = s.1.length + 1 := fun s hs => by
        obtain ⟨s0, h0, h1⟩ := List.mem_flatMap.mp hs
        obtain ⟨q1, q2, q3⟩ := B.ok s0 h0
        obtain ⟨l1, l2, _⟩ := kids_mem h1
        exact ⟨kids_ok q1 h1, by omega, by omega⟩
      have bs := bfs_step (rs := t.runs) (goal := goal) (k := ys.length) (found := found) B.not_
      have hp := B.perm
      have hll := B.ll
      have hfl := B.fl
      have p1 : 64 ^ (most - ys.length) = 64 ^ (most - (ys.length + 1)) * 64 := by
        rw [← Nat.pow_succ]
        congr 1
        omega
      have p2 := pow3 (most - ys.length) (by omega)
      generalize line.flatMap (kids t.runs) = longer at *
      have c1 : ∀ (F : FEnv) (a b c : Option PV), compL (.tup [.name 9, .name 10]) (tVal (cOp2 opEq (cOp2 opIx (cVar 10) (cC (.int (-1)))) (cVar 3))) (cTup (lCons (cVar 1) (lCons (cVar 2) (lCons (cVar 9) lNil)))) F [some (encT t), some (.int place), some (.int time), some (.int goal), some (.int most), some (.lst (found.map (encP place time))), some (.lst (line.map encSt)), a, some (.lst (longer.map encSt)), none, none, c] (longer.map encSt) [] h'' = .ok (.lst ((bfsF goal longer).map (encP place time))) h'' := by
        intro F a b c
        rw [compL_t (p := there goal) (g := fun s => encP place time s.1) (env1 := fun s => [some (encT t), some (.int place), some (.int time), some (.int goal), some (.int most), some (.lst (found.map (encP place time))), some (.lst (line.map encSt)), a, some (.lst (longer.map encSt)), some (.tup (s.1.map encD)), some (.tup (s.2.map .int)), c]) (by intro s hs; simp [encSt]) (by
          intro s hs
          simp [met_last (kid s hs).1.met, -List.getLastD_eq_getLast?]
          unfold there here
          rfl) (by intro s hs _; simp [encP]) (by simp; omega)]
        simp [bfsF]
      have c2 : ∀ (F : FEnv) (a b c : Option PV) (fs : PV), compL (.tup [.name 9, .name 10]) (tVal (cOp2 opNe (cOp2 opIx (cVar 10) (cC (.int (-1)))) (cVar 3))) (cTup (lCons (cVar 9) (lCons (cVar 10) lNil))) F [some (encT t), some (.int place), some (.int time), some (.int goal), some (.int most), some fs, some (.lst (line.map encSt)), a, some (.lst (longer.map encSt)), none, none, c] (longer.map encSt) [] h'' = .ok (.lst ((bfsL goal longer).map encSt)) h'' := by
        intro F a b c fs
        rw [compL_t (p := fun s => !there goal s) (g := encSt) (env1 := fun s => [some (encT t), some (.int place), some (.int time), some (.int goal), some (.int most), some fs, some (.lst (line.map encSt)), a, some (.lst (longer.map encSt)), some (.tup (s.1.map encD)), some (.tup (s.2.map .int)), c]) (by intro s hs; simp [encSt]) (by
          intro s hs
          simp [met_last (kid s hs).1.met, -List.getLastD_eq_getLast?]
          unfold there here
          rfl) (by intro s hs _; simp [encSt]) (by simp; omega)]
        simp [bfsL]
      have fl1 : (bfsF goal longer).length ≤ longer.length := by
        unfold bfsF
        rw [List.length_map]
        exact List.length_filter_le _ _
      have fl2 : (bfsL goal longer).length ≤ longer.length := List.length_filter_le _ _
      have f0 : Sm (found.map (encP place time)) := sm_of (by simp; omega)
      have f1 : Sm ((bfsF goal longer).map (encP place time)) := sm_of (by simp; omega)
      simp [c1 _ _ none, c2 _ _ none, opAdd_lk, f0, f1]
      refine .mk (hJ _ _ ⟨rfl, found ++ bfsF goal longer, bfsL goal longer, _, _, _, _, _, ⟨bs.symm.trans hp, fun s hs => ?_, fun s hs => kid s (List.mem_filter.mp hs).1, by omega, by simp only [List.length_append]; omega⟩, by omega, by rw [List.map_append]⟩)
      have := (List.mem_filter.mp hs).2
      simpa using this
  · simp at hs
    subst hs
    simp [there, here, Ne.symm hg]
  · simp at hs
    subst hs
    exact ⟨⟨by simp, rfl⟩, by simp, by simp⟩
  · rintro env' h' ⟨rfl, found, line, a, b, c, e, f, B, hy, rfl⟩
    have pw := pow3 most hm
    have fl := B.fl
    simp only [List.length_nil, Nat.sub_zero] at fl
    simp [plans_sort h' place time (show found.length ≤ 8000000 by omega)]
    refine .mk (hJ _ _ ⟨rfl, found, ?_, by omega, rfl⟩)
    have := B.perm
    rw [show ([] : List Nat).length = 0 from rfl, coll_nil B.not_, List.append_nil] at this
    exact this
end
end G
end
section
set_option Elab.async false
set_option linter.all false
set_option maxRecDepth 100000
/-! E13: _law_due. -/
namespace G
open PySem M
def encSL (s : Stt) : PV := .tup [.tup (s.1.map encD), .lst (s.2.map .int)]
section
variable (h : LH) (a b a' b' : LO)
@[simp] theorem two_0 : (h ++ [a, b])[h.length]? = some a := by simp
@[simp] theorem two_1 : (h ++ [a, b])[h.length + 1]? = some b := by simp
@[simp] theorem two_s0 : (h ++ [a, b]).set h.length a' = h ++ [a', b] := by simp
@[simp] theorem two_s1 : (h ++ [a, b]).set (h.length + 1) b' = h ++ [a, b'] := by
  rw [List.set_append_right _ _ (by omega)]
  simp
end
theorem encSL_dd (s : Stt) : (encSL s).data = true ∧ (encSL s).depth ≤ 59 := by
  have h1 := rds_data s.1
  have h2 : PV.depthL (s.1.map encD) ≤ 1 := depth_L fun x hx => by
    obtain ⟨d, _, rfl⟩ := List.mem_map.mp hx
    rw [(encD_dd d).2]
    exact Nat.le_refl _
  have h3 : PV.dataL (s.2.map PV.int) = true := by
    rw [dataL_iff]
    intro x hx
    obtain ⟨d, _, rfl⟩ := List.mem_map.mp hx
    rfl
  have h4 : PV.depthL (s.2.map PV.int) ≤ 1 := depth_L fun x hx => by
    obtain ⟨d, _, rfl⟩ := List.mem_map.mp hx
    simp [PV.depth]
  simp [encSL, PV.data, PV.dataL, PV.depth, PV.depthL, h1, h3]
  omega
theorem rds_ne (h : LH) (a : List Ride) : opNe h (.tup (a.map encD)) (.tup []) = some (.bl (decide (a ≠ []))) := by
  have ok : (PV.tup (a.map encD)).ok = true := ok_tup fun x hx => by
    obtain ⟨d, _, rfl⟩ := List.mem_map.mp hx
    have := encD_dd d
    exact ⟨this.1, by omega⟩
  rw [opNe_ok h ok rfl]
  have := pyEq_tup encD_eq a []
  rw [List.map_nil] at this
  rw [this]
  simp
section
variable {T : Nat → Option FD} (hT : AllT T) {h : LH}
include hT
theorem ev_due {t : Tb} (ht : TbPre t) {place time goal : Int} {most : Nat} (hm : most ≤ 3) (cl : Cl h) (d : Nat) : ∃ ps : List (List Ride), ps.Perm (coll t.runs goal most ([], [place])) ∧
    fenv T (d + 1) n__law_due_1 [encT t, .int place, .int time, .int goal, .int most] h = .ok (.lst ((sortK pkey ps).map (encP place time))) h := by
  suffices z : RT (fd__law_due_1.body (fenv T d) ([encT t, PV.int place, .int time, .int goal, .int most].map some ++ List.replicate (fd__law_due_1.ns - fd__law_due_1.np) none) h) fun v h' => (∃ tl, h' = h ++ tl) ∧ ∃ ps : List (List Ride), ps.Perm (coll t.runs goal most ([], [place])) ∧ v = .lst ((sortK pkey ps).map (encP place time)) by
    obtain ⟨v, h', e, ⟨tl, rfl⟩, ps, hp, rfl⟩ := z.elim
    refine ⟨ps, hp, ?_⟩
    rw [fenv_call hT.due]
    refine runFD_tmp rfl rfl cl (data_closed _ _ ?_) e
    rw [data_lst]
    intro x hx
    obtain ⟨d, _, rfl⟩ := List.mem_map.mp hx
    exact (encP_dd _ _ _).1
  refine RT.gen fun J hJ => ?_
  have n4 := ht.n4
  have r4 : ∀ r ∈ t.runs, r.length ≤ 4 := fun r h => (ht.runs r h).hi
  have i0 : ∀ h, opIx h (encT t) (.int 0) = some (.tup (t.runs.map encR)) := by simp [encT, encRs]
  have w3 : ∀ k, k ≤ 3 → wt k ≤ 266305 := fun k hk => by
    have : k = 0 ∨ k = 1 ∨ k = 2 ∨ k = 3 := by omega
    rcases this with rfl | rfl | rfl | rfl <;> decide
  have cl3 := coll_len n4 r4 goal most ([], [place])
  have wm := w3 most hm
  simp [fd__law_due_1, ir__law_due_1]
  refine at_while (fun r => RT r _) (fun n env h' => ∃ F L a b c e f g, weight most L = n ∧ n ≤ 266305 ∧ (F ++ L.flatMap fun s => coll t.runs goal (most - s.1.length) s).Perm (coll t.runs goal most ([], [place])) ∧ (∀ s ∈ L, s.2 ≠ [] ∧ s.1.length ≤ most ∧ s.2.length = s.1.length + 1) ∧
      h' = h ++ [.lst (F.map (encP place time)), .lst (L.map encSL)] ∧ env = [some (encT t), some (.int place), some (.int time), some (.int goal), some (.int most), some (.ref h.length), some (.ref (h.length + 1)), a, b, c, e, f, g]) (weight most [([], [place])]) (by simp [weight, whileFuel]; omega) ⟨[], [([], [place])], none, none, none, none, none, none, rfl, by simp [weight]; omega, by simp, by simp, by simp [encSL], rfl⟩ ?_
  rintro n env h' ⟨F, L, a, b, c, e, f, g, hw, hn, hp, hL, rfl, rfl⟩
  have Lne : opNe (h ++ [.lst (F.map (encP place time)), .lst (L.map encSL)]) (.ref (h.length + 1)) (.lst []) = some (.bl (decide (L ≠ []))) := by
    have : opNe (h ++ [.lst (F.map (encP place time)), .lst (L.map encSL)]) (.ref (h.length + 1)) (.lst []) = opNe h (.lst (L.map encSL)) (.lst []) := by
      simp [opNe, opEq, view]
    rw [this]
    cases L with
    | nil => simp
    | cons x L =>
      rw [opNe_lst0 h (by simp) fun x hx => by
        obtain ⟨s, _, rfl⟩ := List.mem_map.mp hx
        exact encSL_dd s]
      simp
  have Fl : F.length ≤ 266305 := by
    have := hp.length_eq
    simp only [List.length_append] at this
    omega
  by_cases hz : L = []
  · subst hz
    refine .stop (h ++ [.lst (F.map (encP place time)), .lst []]) (by simp at Lne; simp [Lne]) ?_
    have fs : fSorted (h ++ [.lst (F.map (encP place time)), .lst []]) [.ref h.length] = some (.lst ((sortK pkey F).map (encP place time))) := by
      rw [← plans_sort h place time (ps := F) (by omega)]
      simp [fSorted, view]
    simp [fs]
    exact .mk (hJ _ _ ⟨⟨_, rfl⟩, F, by simpa using hp, rfl⟩)
  · obtain ⟨L0, ⟨rd, met⟩, rfl⟩ : ∃ L0 s, L = L0 ++ [s] := ⟨L.dropLast, L.getLast hz, (List.dropLast_concat_getLast hz).symm⟩
    obtain ⟨hm0, hm1, hm2⟩ := hL (rd, met) (by simp)
    simp only at hm0 hm1 hm2
    obtain ⟨p, hp0⟩ : ∃ p, p = here (rd, met) := ⟨_, rfl⟩
    have hl : L2.atI (met.map PV.int) (-1) = some (.int p) := by rw [hp0]; exact met_last hm0
    have hk : kids t.runs (rd, met) = (rides t.runs p met).map fun d => ((rd ++ [d], met ++ [placeAt t.runs d.1 d.2.2]) : Stt) := by rw [hp0]; rfl
    have hw' : weight most L0 < weight most (L0 ++ [(rd, met)]) := by
      rw [weight_snoc]
      have := wt_pos (most - (rd, met).1.length)
      omega
    have Ll := len_weight most (L0 ++ [(rd, met)])
    simp only [List.length_append, List.length_cons, List.length_nil] at Ll
    simp only [List.flatMap_append, List.flatMap_cons, List.flatMap_nil, List.append_nil] at hp
    simp only [List.map_append, List.map_cons, List.map_nil] at Lne
    have Lne : opNe (h ++ [.lst (F.map (encP place time)), .lst (L0.map encSL ++ [encSL (rd, met)])]) (.ref (h.length + 1)) (.lst []) = some (.bl true) := by
      rw [Lne]
      simp
    have etest : ∀ (G : FEnv) (a b c e : Option PV) (h' : LH), tAnd (tVal (cOp2 opEq (cOp2 opIx (cVar 8) (cC (.int (-1)))) (cVar 3))) (tVal (cOp2 opNe (cVar 7) (cTup lNil))) G [some (encT t), some (.int place), some (.int time), some (.int goal), some (.int most), some (.ref h.length), some (.ref (h.length + 1)), some (.tup (rd.map encD)), some (.lst (met.map .int)), a, b, c, e] h' = .ok (decide (p = goal) && decide (rd ≠ [])) h' := by
      intro G a b c e h'
      by_cases c1 : p = goal
      · simp [hl, c1, rds_ne]
      · simp [hl, c1, show (p == goal) = false by simpa using c1]
    have gate : tVal (cOp2 opNe (cVar 6) (cLst lNil)) (fenv T d) [some (encT t), some (.int place), some (.int time), some (.int goal), some (.int most), some (.ref h.length), some (.ref (h.length + 1)), a, b, c, e, f, g] (h ++ [.lst (F.map (encP place time)), .lst ((L0 ++ [(rd, met)]).map encSL)]) = .ok true (h ++ [.lst (F.map (encP place time)), .lst ((L0 ++ [(rd, met)]).map encSL)]) := by simp [Lne]
    by_cases c1 : p = goal ∧ rd ≠ []
    · refine .go _ (weight most L0) gate (by omega) (NX.gen fun K hK => ?_)
      have ec := coll_goal (rs := t.runs) (goal := goal) (k := most - rd.length) (s := (rd, met)) (by simp [there, ← hp0, c1.1]) c1.2
      rw [ec] at hp
      have f0 : F.length < 16777216 := by omega
      simp [-tAnd_ap, encSL, etest, c1.1, c1.2, isLiveL, f0]
      refine .mk (hK _ _ ⟨F ++ [rd], L0, _, _, _, _, _, _, rfl, by omega, ?_, fun s hs => hL s (by simp [hs]), ?_, rfl⟩)
      · refine List.Perm.trans ?_ hp
        rw [List.append_assoc]
        exact List.Perm.append_left _ List.perm_append_comm
      · simp [encP]
    have eb : (decide (p = goal) && decide (rd ≠ [])) = false := by
      simp only [Bool.and_eq_false_iff, decide_eq_false_iff_not]
      by_cases z : p = goal
      · exact .inr fun q => c1 ⟨z, q⟩
      · exact .inl z
    simp only [eb] at etest
    have en : ¬ (there goal (rd, met) = true ∧ (rd, met).1 ≠ []) := fun q => c1 ⟨by rw [hp0]; exact of_decide_eq_true q.1, q.2⟩
    by_cases c2 : rd.length < most
    rotate_left
    · refine .go _ (weight most L0) gate (by omega) (NX.gen fun K hK => ?_)
      have e0 : most - rd.length = 0 := by omega
      rw [e0, coll, if_neg en, List.append_nil] at hp
      simp [-tAnd_ap, encSL, etest, show ¬ (rd.length : Int) < (most : Int) by omega]
      refine .mk (hK _ _ ⟨F, L0, _, _, _, _, _, _, rfl, by omega, hp, fun s hs => hL s (by simp [hs]), ?_, rfl⟩)
      rfl
    · have hwk := weight_kids (rs := t.runs) n4 r4 (most := most) (s := (rd, met)) c2 L0
      refine .go _ (weight most (L0 ++ kids t.runs (rd, met))) gate (by omega) (NX.gen fun K hK => ?_)
      have ek : coll t.runs goal (most - rd.length) (rd, met) = (kids t.runs (rd, met)).flatMap fun s => coll t.runs goal (most - s.1.length) s := by
        rw [show most - rd.length = (most - rd.length - 1) + 1 by omega, coll, if_neg en]
        refine flatMap_cong fun s hs => ?_
        rw [(kids_mem hs).1]
        rfl
      rw [ek] at hp
      have tl := len_weight most (L0 ++ kids t.runs (rd, met))
      have hkl : ∀ s ∈ L0 ++ kids t.runs (rd, met), s.2 ≠ [] ∧ s.1.length ≤ most ∧ s.2.length = s.1.length + 1 := fun s hs => by
        rcases List.mem_append.mp hs with hs | hs
        · exact hL s (by simp [hs])
        · obtain ⟨q1, q2, q3⟩ := kids_mem hs
          simp only at q1 q2
          exact ⟨by intro e; rw [e] at q2; simp at q2, by omega, by omega⟩
      have f1 : Sm (rd.map encD) := sm_of (by simp; omega)
      have f2 : Sm (met.map PV.int) := sm_of (by simp; omega)
      simp [-tAnd_ap, encSL, etest, show (rd.length : Int) < (most : Int) by omega, i0, small_nat (show t.runs.length < 2 ^ 62 by omega), intsFrom_0]
      refine at_col (fun r => NX (andThen (andThen r _) _) _) (fun r => (ridesR (t.runs[r]?.getD []) p met r).map fun d => ((rd ++ [d], met ++ [placeAt t.runs d.1 d.2.2]) : Stt)) (fun s env h' => h' = h ++ [.lst (F.map (encP place time)), .lst (s.map encSL)] ∧ ∃ a b c e, env = [some (encT t), some (.int place), some (.int time), some (.int goal), some (.int most), some (.ref h.length), some (.ref (h.length + 1)), some (.tup (rd.map encD)), some (.lst (met.map .int)), a, b, c, e]) L0 (L0 ++ kids t.runs (rd, met)) ?_ (by rw [hk, rides_range, List.map_flatMap]) ⟨by rfl, _, _, _, _, rfl⟩ ?_
      · rintro r hr s env h' pre ⟨rfl, a, b, c, e, rfl⟩
        refine ⟨[some (encT t), some (.int place), some (.int time), some (.int goal), some (.int most), some (.ref h.length), some (.ref (h.length + 1)), some (.tup (rd.map encD)), some (.lst (met.map .int)), some (.int r), b, c, e], by simp, NX.gen fun J hJ => ?_⟩
        have hr := List.mem_range.mp hr
        obtain ⟨calls, g1, m1, n1⟩ := run_get hr
        have c4 := (ht.runs calls m1).hi
        have pl := Nat.le_trans pre.length_le tl
        rw [g1] at hJ pl
        simp only [Option.getD_some] at hJ pl
        simp [i0, atR g1, encR, small_nat (show calls.length < 2 ^ 62 by omega), intsFrom_0]
        refine at_col (fun r => NX r _) (fun b => (ridesRB calls p met r b).map fun d => ((rd ++ [d], met ++ [placeAt t.runs d.1 d.2.2]) : Stt)) (fun s env h' => h' = h ++ [.lst (F.map (encP place time)), .lst (s.map encSL)] ∧ ∃ c e, env = [some (encT t), some (.int place), some (.int time), some (.int goal), some (.int most), some (.ref h.length), some (.ref (h.length + 1)), some (.tup (rd.map encD)), some (.lst (met.map .int)), some (.int r), some (encR calls), c, e]) s (s ++ (ridesR calls p met r).map fun d => ((rd ++ [d], met ++ [placeAt t.runs d.1 d.2.2]) : Stt)) ?_ (by unfold ridesR; rw [List.map_flatMap]) ⟨rfl, _, _, rfl⟩ ?_
        · rintro b hb s env h' pre1 ⟨rfl, c, e, rfl⟩
          refine ⟨[some (encT t), some (.int place), some (.int time), some (.int goal), some (.int most), some (.ref h.length), some (.ref (h.length + 1)), some (.tup (rd.map encD)), some (.lst (met.map .int)), some (.int r), some (encR calls), some (.int b), e], by simp, NX.gen fun J hJ => ?_⟩
          have hb := List.mem_range.mp hb
          have pl1 := Nat.le_trans pre1.length_le pl
          simp [encR, small_int (show -(2 ^ 62) ≤ (b : Int) + 1 by omega) (show (b : Int) + 1 < 2 ^ 62 by omega), small_nat (show calls.length < 2 ^ 62 by omega)]
          rw [show (b : Int) + 1 = ((b + 1 : Nat) : Int) by omega, show ((calls.length : Int) - ((b + 1 : Nat) : Int)).toNat = calls.length - (b + 1) by omega, intsFrom_eq]
          refine at_col (fun r => NX r _) (fun e => (if fitC calls p met b e then [((r, b, e) : Ride)] else []).map fun d => ((rd ++ [d], met ++ [placeAt t.runs d.1 d.2.2]) : Stt)) (fun s env h' => h' = h ++ [.lst (F.map (encP place time)), .lst (s.map encSL)] ∧ ∃ e, env = [some (encT t), some (.int place), some (.int time), some (.int goal), some (.int most), some (.ref h.length), some (.ref (h.length + 1)), some (.tup (rd.map encD)), some (.lst (met.map .int)), some (.int r), some (encR calls), some (.int b), e]) s (s ++ (ridesRB calls p met r b).map fun d => ((rd ++ [d], met ++ [placeAt t.runs d.1 d.2.2]) : Stt)) ?_ (by unfold ridesRB; rw [List.map_flatMap]) ⟨rfl, _, rfl⟩ ?_
          · rintro f hf s env h' pre2 ⟨rfl, e, rfl⟩
            refine ⟨[some (encT t), some (.int place), some (.int time), some (.int goal), some (.int most), some (.ref h.length), some (.ref (h.length + 1)), some (.tup (rd.map encD)), some (.lst (met.map .int)), some (.int r), some (encR calls), some (.int b), some (.int f)], by simp, NX.gen fun J hJ => ?_⟩
            have hf := List.mem_range'_1.mp hf
            have pl2 := Nat.le_trans pre2.length_le pl1
            simp only [List.length_append] at pl2
            have f0 : s.length < 16777216 := by omega
            have gx : calls[b]? = some (calls[b]'(by omega)) := by simp
            have gy : calls[f]? = some (calls[f]'(by omega)) := by simp
            generalize calls[b]'(by omega) = x at gx
            generalize calls[f]'(by omega) = y at gy
            have hm : fitC calls p met b f = (decide (x.p = p) && decide (y.p ∉ met)) := by
              unfold fitC
              rw [gx, gy]
            have pa : placeAt t.runs r f = y.p := placeAt_eq (by rw [callAt_eq g1, gy])
            rw [hm] at hJ
            by_cases p1 : x.p = p
            · by_cases p2 : y.p ∈ met
              · simp [encR, atC gx, atC gy, encC, p1, hl, int_notinL, p2]
                refine .mk (hJ _ _ ⟨by simp [p2], _, rfl⟩)
              · simp [encR, atC gx, atC gy, encC, p1, hl, int_notinL, p2, isLiveL, f0, opAdd_tk, opAdd_lk, f1, f2]
                refine .mk (hJ _ _ ⟨by simp [p1, p2, encSL, encD, pa], _, rfl⟩)
            · simp [encR, atC gx, atC gy, encC, hl, show (x.p == p) = false by simpa using p1]
              refine .mk (hJ _ _ ⟨by simp [p1], _, rfl⟩)
          · rintro env' h'' ⟨rfl, e, rfl⟩
            exact .mk (hJ _ _ ⟨rfl, _, _, rfl⟩)
        · rintro env' h'' ⟨rfl, c, e, rfl⟩
          exact .mk (hJ _ _ ⟨rfl, _, _, _, _, rfl⟩)
      · rintro env' h' ⟨rfl, a, b, c, e, rfl⟩
        simp
        refine .mk (hK _ _ ⟨F, L0 ++ kids t.runs (rd, met), _, _, _, _, _, _, rfl, by omega, ?_, hkl, by rw [List.map_append], rfl⟩)
        rw [List.flatMap_append]
        exact hp
end
end G
end
section
set_option Elab.async false
set_option linter.all false
set_option maxRecDepth 100000
/-! E14: all_plans. -/
namespace G
open PySem M
theorem encP_inj {p q p' q' : Int} {a b : List Ride} (e : encP p q a = encP p' q' b) : p = p' ∧ q = q' ∧ a = b := by
  simp only [encP, PV.tup.injEq, List.cons.injEq, PV.int.injEq] at e
  exact ⟨e.1, e.2.1, map_inj (fun _ _ => encD_inj) e.2.2.1⟩
theorem encP_eq (p q : Int) (a b : List Ride) : pyEq (encP p q a) (encP p q b) = decide (a = b) := by
  unfold encP
  rw [pyEq]
  simp only [pyEqL, int_eq, decide_true, Bool.true_and, Bool.and_true]
  exact pyEq_tup encD_eq a b
theorem plans_ok (p q : Int) (ps : List (List Ride)) : (PV.lst (ps.map (encP p q))).ok = true := ok_lst fun x hx => by
  obtain ⟨d, _, rfl⟩ := List.mem_map.mp hx
  have := encP_dd p q d
  exact ⟨this.1, by omega⟩
theorem plans_same (h : LH) (p q : Int) (ps : List (List Ride)) : opNe h (.lst (ps.map (encP p q))) (.lst (ps.map (encP p q))) = some (.bl false) := by
  rw [opNe_ok h (plans_ok p q ps) (plans_ok p q ps), pyEq_lst (encP_eq p q)]
  simp
/-- what all_plans asks of its values, the table apart -/
def needB (p ti g m : PV) : Bool := wholeB p 0 5 && (wholeB ti 0 240 && (wholeB g 0 5 && (!pyEq g p && wholeB m 1 3)))
section
variable {T : Nat → Option FD} (hT : AllT T) {h : LH}
include hT
theorem ev_need_all {t : Tb} (ht : TbOk t) {p ti g m : PV} (hp : p.fz = true) (hti : ti.fz = true) (hg : g.fz = true) (hm : m.fz = true) (d : Nat) : fenv T (d + 8) n_need_all_2 [encT t, p, ti, g, m] h = if needB p ti g m then .ok .non h else .exc 4 h := by
  rw [fenv_call hT.need_all]
  have et := ev_need_table hT.toPlanT (h := h) (encT_data t) d
  rw [B_true ⟨t, rfl, ht⟩, if_pos rfl] at et
  have e1 := ev_need_number hT.toPlanT (h := h) (lo := 0) (hi := 5) hp (d + 4)
  have e2 := ev_need_number hT.toPlanT (h := h) (lo := 0) (hi := 240) hti (d + 4)
  have e3 := ev_need_number hT.toPlanT (h := h) (lo := 0) (hi := 5) hg (d + 4)
  have e4 := ev_need_number hT.toPlanT (h := h) (lo := 1) (hi := 3) hm (d + 4)
  unfold needB
  cases c1 : wholeB p 0 5
  · rw [c1, if_neg (by simp)] at e1
    rw [if_neg (by simp)]
    apply runFD_exc rfl
    simp [fd_need_all_2, ir_need_all_2, et, e1]
  rw [c1, if_pos rfl] at e1
  cases c2 : wholeB ti 0 240
  · rw [c2, if_neg (by simp)] at e2
    rw [if_neg (by simp)]
    apply runFD_exc rfl
    simp [fd_need_all_2, ir_need_all_2, et, e1, e2]
  rw [c2, if_pos rfl] at e2
  cases c3 : wholeB g 0 5
  · rw [c3, if_neg (by simp)] at e3
    rw [if_neg (by simp)]
    apply runFD_exc rfl
    simp [fd_need_all_2, ir_need_all_2, et, e1, e2, e3]
  rw [c3, if_pos rfl] at e3
  obtain ⟨ip, rfl, -, -⟩ := wholeB_iff.mp c1
  obtain ⟨ig, rfl, -, -⟩ := wholeB_iff.mp c3
  by_cases c5 : ig = ip
  · rw [if_neg (by simp [c5, int_eq])]
    apply runFD_exc rfl
    rw [c5] at e3
    simp [fd_need_all_2, ir_need_all_2, et, e1, e2, e3, c5]
  have c5' : (ig == ip) = false := by simpa using c5
  cases c4 : wholeB m 1 3
  · rw [c4, if_neg (by simp)] at e4
    rw [if_neg (by simp)]
    apply runFD_exc rfl
    simp [fd_need_all_2, ir_need_all_2, et, e1, e2, e3, c5', e4]
  rw [c4, if_pos rfl] at e4
  rw [if_pos (by simp [int_eq, c5])]
  apply runFD_nx (env := [some (encT t), some (.int ip), some ti, some (.int ig), some m]) rfl
  simp [fd_need_all_2, ir_need_all_2, et, e1, e2, e3, c5', e4]
theorem ev_all_plans_bad {t : Tb} (ht : TbOk t) {p ti g m : PV} (hp : p.fz = true) (hti : ti.fz = true) (hg : g.fz = true) (hm : m.fz = true) (hb : needB p ti g m = false) (d : Nat) : fenv T (d + 9) n_all_plans [encT t, p, ti, g, m] h = .exc 4 h := by
  rw [fenv_call hT.all_plans]
  apply runFD_exc rfl
  have e := ev_need_all hT (h := h) ht hp hti hg hm d
  rw [hb, if_neg (by simp)] at e
  simp [fd_all_plans, ir_all_plans, e]
theorem ev_all_plans_5 (d : Nat) : fenv T (d + 9) n_all_plans [.int 5, .non, .non, .non, .non] h = .exc 2 h := by
  have et := ev_need_table hT.toPlanT (h := h) (v := .int 5) rfl d
  rw [B_false (by rintro ⟨t, e, -⟩; simp [encT] at e), if_neg (by simp)] at et
  have e : fenv T (d + 8) n_need_all_2 [.int 5, .non, .non, .non, .non] h = .exc 2 h := by
    rw [fenv_call hT.need_all]
    apply runFD_exc rfl
    simp [fd_need_all_2, ir_need_all_2, et]
  rw [fenv_call hT.all_plans]
  apply runFD_exc rfl
  simp [fd_all_plans, ir_all_plans, e]
theorem ev_all_plans {t : Tb} (ht : TbOk t) {place time goal : Int} {most : Nat} (p0 : 0 ≤ place) (p5 : place ≤ 5) (t0 : 0 ≤ time) (t1 : time ≤ 240) (g0 : 0 ≤ goal) (g5 : goal ≤ 5) (hg : goal ≠ place) (m0 : 1 ≤ most) (m3 : most ≤ 3) (cl : Cl h) (d : Nat) :
    fenv T (d + 9) n_all_plans [encT t, .int place, .int time, .int goal, .int most] h = .ok (.lst ((sortK pkey (coll t.runs goal most ([], [place]))).map (encP place time))) h := by
  rw [fenv_call hT.all_plans]
  apply runFD_ret rfl
  have e := ev_need_all hT (h := h) ht (p := .int place) (ti := .int time) (g := .int goal) (m := .int most) rfl rfl rfl rfl d
  have hn : needB (.int place) (.int time) (.int goal) (.int most) = true := by
    simp [needB, wholeB, int_eq, hg]
    omega
  rw [hn, if_pos rfl] at e
  obtain ⟨ps, hp, -, e2⟩ := ev_plans_to hT (h := h) ht.toTbPre (time := time) hg m3 cl (d + 6)
  rw [sortK_perm pkey_inj hp] at e2
  simp [fd_all_plans, ir_all_plans, e, e2]
theorem ev_due' {t : Tb} (ht : TbPre t) {place time goal : Int} {most : Nat} (hm : most ≤ 3) (cl : Cl h) (d : Nat) : fenv T (d + 1) n__law_due_1 [encT t, .int place, .int time, .int goal, .int most] h = .ok (.lst ((sortK pkey (coll t.runs goal most ([], [place]))).map (encP place time))) h := by
  obtain ⟨ps, hp, e⟩ := ev_due hT (h := h) ht (time := time) hm cl d
  rw [sortK_perm pkey_inj hp] at e
  exact e
end
theorem plan_good {t : Tb} {place time goal : Int} {most : Nat} (p0 : 0 ≤ place) (p5 : place ≤ 5) (t0 : 0 ≤ time) (t1 : time ≤ 240) (m3 : most ≤ 3) {ds : List Ride} (h : ds ∈ sortK pkey (coll t.runs goal most ([], [place]))) : isPlan t (encP place time ds) := by
  obtain ⟨g, ne, l⟩ := coll_ok (place := place) (s := ([], [place])) ⟨by simp, rfl⟩ (sortK_mem.mp h)
  exact ⟨place, time, ds, rfl, p0, p5, t0, t1, List.length_pos_iff.mpr ne, by simp at l; omega, goal, g⟩
/-! ### the worked table -/
def runs0 : List Rn := [[⟨0, 0, 0, 0⟩, ⟨1, 20, 22, 4⟩, ⟨0, 42, 42, 6⟩], [⟨1, 25, 25, 0⟩, ⟨3, 45, 45, 5⟩]]
def tb0 : Tb := ⟨runs0, [], [], 0, 0, false, 60⟩
theorem tb0_ok : TbOk tb0 := by
  refine ⟨⟨by decide, by decide, ?_, by decide, by decide, by decide, by simp [tb0], trivial, by decide, by simp [tb0], trivial, by simp [tb0], by simp [tb0], by decide, by decide⟩, sound_bare rfl rfl⟩
  intro r hr
  simp [tb0, runs0] at hr
  rcases hr with rfl | rfl
  · refine ⟨by decide, by decide, by decide, fun c hc => ?_, fun c hc => ?_, by decide⟩
    · simp at hc; simp [← hc]
    · simp at hc; simp [← hc]
  · refine ⟨by decide, by decide, by decide, fun c hc => ?_, fun c hc => ?_, by decide⟩
    · simp at hc; simp [← hc]
    · simp at hc; simp [← hc]
theorem tb0_2 : sortK pkey (coll tb0.runs 3 2 ([], [0])) = [[(0, 0, 1), (1, 0, 1)]] := by decide +kernel
theorem tb0_1 : sortK pkey (coll tb0.runs 3 1 ([], [0])) = [] := by decide +kernel
end G
end
section
set_option Elab.async false
set_option linter.all false
set_option maxRecDepth 100000
/-! E15: the law k07 answers True. -/
namespace G
open PySem M
structure K07T (T : Nat → Option FD) : Prop extends AllT T where
  gen : GenT T
  law : T n_law_k07 = some fd_law_k07
theorem runFD_any {fd : FD} {F : FEnv} {args : List PV} {h : LH} {v : PV} (hn : args.length = fd.np) (e : RT (fd.body F (args.map some ++ List.replicate (fd.ns - fd.np) none) h) fun w _ => w = v) : ∃ h'', runFD fd F args h = .ok v h'' := by
  obtain ⟨_, h', e2, rfl⟩ := e.elim
  unfold runFD
  rw [if_pos hn, e2]
  simp only [leave]
  split
  · exact ⟨_, rfl⟩
  · split <;> exact ⟨_, rfl⟩
theorem bag_snoc (h : LH) (bag : List Int) : h ++ [.lst (bag.map .int)] = bagAt (h ++ [.lst []]) h.length bag := by simp [bagAt]
theorem Cl.nil : Cl [] := rfl
theorem words_cl {h : LH} (c : Cl h) (xs : List PV) (hx : PV.dataL xs = true) : Cl (h ++ [.lst xs]) := c.snoc (dataL_closed _ _ hx)
theorem words_ne (h : LH) (s : Str) : opNe (h ++ [.lst [.str s, .str s]]) (.ref h.length) (.lst [.str s, .str s]) = some (.bl false) := by
  simp [opNe, opEq, view, PV.ok, PV.data, PV.dataL, PV.depth, PV.depthL, pyEq, pyEqL]
theorem opMul_2 (h : LH) (x : PV) : opMul h (.lst [x]) (.int 2) = some (.lst [x, x]) := nd rfl
section
variable {T : Nat → Option FD} (hT : K07T T)
include hT
/-- one turn of the inner loop -/
theorem k07_turns {ns : List Int} {k : Nat} {H : LH} {n : Nat} (hn : n < H.length) (cl : Cl H) {t : Tb} (ht : GenTb t) (d : Nat) (bag : List Int) (ys : List Nat) (env : Env) (a b c e f g i j l m o : Option PV)
    (henv : env = [some (.scr (ns.map .int)), some (.int k), some (.ref n), some (encT t), a, b, c, e, f, g, i, j, l, m, o]) {Q : Env → LH → Prop}
    (hQ : ∀ bag a b c e f g i j l m o, Q [some (.scr (ns.map .int)), some (.int k), some (.ref n), some (encT t), a, b, c, e, f, g, i, j, l, m, o] (bagAt H n bag)) :
    NX (forL (.name 4) (denSs (.cons (.tgt (.tup [.name 5, .name 6, .name 7]) (.tup (lit [.call n__law_take (lit [.var 2, .int 5]), .call n__law_choice (lit [.var 2, .lst (lit [.int 0, .int 5, .int 30, .int 240])]), .op .add (.int 1) (.call n__law_take (lit [.var 2, .int 3]))]))) (.cons (.set 8 (.op .mod (.op .add (.op .add (.var 5) (.int 1)) (.call n__law_take (lit [.var 2, .int 5]))) (.int 6))) (.cons (.set 9 (.call n_all_plans (lit [.var 3, .var 5, .var 6, .var 8, .var 7]))) (.cons (.ife (.or (.cons (.cmp .ne (.var 9) (.call n__law_due_1 (lit [.var 3, .var 5, .var 6, .var 8, .var 7]))) (.one (.not (.val (.isi .list (.var 9))))))) (.cons (.ret (.bl false)) (.nil)) (.nil)) (.cons (.ife (.cmp .ne (.comp [("plan", 10)] (.of (.var 9)) (.name 10) (.cmp .isnot (.call n_is_plan (lit [.var 3, .var 10])) (.bl true)) (.var 10)) (.lst (lit []))) (.cons (.ret (.bl false)) (.nil)) (.nil)) (.nil))))))) (fenv T (d + 9)) (ys.map fun i : Nat => PV.int i) env (bagAt H n bag)) Q := by
  subst henv
  refine (forL_inv (I := fun ys env h' => ∃ bag a b c e f g i j l m o, env = [some (.scr (ns.map .int)), some (.int k), some (.ref n), some (encT t), a, b, c, e, f, g, i, j, l, m, o] ∧ h' = bagAt H n bag) ?_ ⟨bag, a, b, c, e, f, g, i, j, l, m, o, rfl, rfl⟩).mono ?_
  rotate_left
  · rintro env h' ⟨bag, a, b, c, e, f, g, i, j, l, m, o, rfl, rfl⟩
    exact hQ bag a b c e f g i j l m o
  · rintro y ys env h' ⟨bag, a, b, c, e, f, g, i, j, l, m, o, rfl, rfl⟩
    refine ⟨[some (.scr (ns.map .int)), some (.int k), some (.ref n), some (encT t), some (.int y), b, c, e, f, g, i, j, l, m, o], by simp, NX.gen fun J hJ => ?_⟩
    obtain ⟨k1, b1, hk1, e1⟩ := ev_take' hT.gen hn (m := 5) (by omega) bag
    obtain ⟨t2, b2, -, ht0, ht1, e2⟩ := ev_ch hT.gen hn [0, 5, 30, 240] (lo := 0) (hi := 240) (by simp) (by simp) b1
    obtain ⟨k3, b3, hk3, e3⟩ := ev_take' hT.gen hn (m := 3) (by omega) b2
    obtain ⟨k4, b4, hk4, e4⟩ := ev_take' hT.gen hn (m := 5) (by omega) b3
    simp at e2
    have cl4 : Cl (bagAt H n b4) := cl.bagAt n b4
    obtain ⟨goal, hgoal⟩ : ∃ goal : Int, goal = ((k1 : Int) + 1 + k4) % 6 := ⟨_, rfl⟩
    have ea := ev_all_plans hT.toAllT (h := bagAt H n b4) ht.ok (place := k1) (time := t2) (goal := goal) (most := 1 + k3) (by omega) (by omega) ht0 ht1 (by omega) (by omega) (by omega) (by omega) (by omega) cl4 d
    have ed := ev_due' hT.toAllT (h := bagAt H n b4) ht.ok.toTbPre (place := k1) (time := t2) (goal := goal) (most := 1 + k3) (by omega) cl4 (d + 8)
    rw [show ((1 + k3 : Nat) : Int) = 1 + (k3 : Int) by omega] at ea ed
    have pg : ∀ ds ∈ sortK pkey (coll t.runs goal (1 + k3) ([], [(k1 : Int)])), isPlan t (encP k1 t2 ds) := fun ds hds => plan_good (by omega) (by omega) ht0 ht1 (by omega) hds
    have pl : (sortK pkey (coll t.runs goal (1 + k3) ([], [(k1 : Int)]))).length ≤ 8000000 := by
      rw [sortK_len]
      have := coll_len ht.ok.n4 (fun r hr => (ht.ok.runs r hr).hi) goal (1 + k3) ([], [(k1 : Int)])
      have : 1 + k3 = 1 ∨ 1 + k3 = 2 ∨ 1 + k3 = 3 := by omega
      have w : wt (1 + k3) ≤ 266305 := by
        rcases this with q | q | q <;> (rw [q]; decide)
      omega
    generalize sortK pkey (coll t.runs goal (1 + k3) ([], [(k1 : Int)])) = ps at *
    have ec : ∀ (a : Option PV), compL (.name 10) (tVal (cOp2 opIsNot (cCall n_is_plan (lCons (cVar 3) (lCons (cVar 10) lNil))) (cC (.bl true)))) (cVar 10) (fenv T (d + 9)) [some (.scr (ns.map .int)), some (.int k), some (.ref n), some (encT t), some (.int y), some (.int k1), some (.int t2), some (.int (1 + k3)), some (.int goal), some (.lst (ps.map (encP k1 t2))), none, j, l, m, o] (ps.map (encP k1 t2)) [] (bagAt H n b4) = .ok (.lst []) (bagAt H n b4) := by
      intro a
      rw [compL_t (p := fun _ => false) (g := encP k1 t2) (env1 := fun ds => [some (.scr (ns.map .int)), some (.int k), some (.ref n), some (encT t), some (.int y), some (.int k1), some (.int t2), some (.int (1 + k3)), some (.int goal), some (.lst (ps.map (encP k1 t2))), some (encP k1 t2 ds), j, l, m, o]) (by simp) (by
        intro ds hds
        have q := ev_is_plan hT.toPlanT (h := bagAt H n b4) ht.ok (encT_data t) (v := encP k1 t2 ds) (encP_dd _ _ _).1 (d + 1)
        rw [B_true (pg ds hds)] at q
        simp [q]) (by simp) (by simp; omega)]
      simp
    simp [e1, e2, e3, e4, ← hgoal, ea, ed, plans_same, fIs, isBT, ec none]
    exact .mk (hJ _ _ ⟨b4, _, _, _, _, _, _, _, _, _, _, _, rfl, rfl⟩)
theorem k07_odds {ns : List Int} {k n : Nat} {t : Tb} (ht : TbOk t) (d : Nat) (odds : List PV) (ho : ∀ v ∈ odds, v.fz = true ∧ wholeB v 0 5 = false) {h : LH} (cl : Cl h) (a b c e f g i j l m o : Option PV) {Q : Env → LH → Prop}
    (hQ : ∀ h', Cl h' → ∀ a b c e f g i j l m o, Q [some (.scr (ns.map .int)), some (.int k), some (.ref n), some (encT t), a, b, c, e, f, g, i, j, l, m, o] h') :
    NX (forL (.name 11) (denSs (.cons (.set 12 (.newL (lit [.lam (.call n_all_plans (lit [.var 3, .var 11, .non, .non, .non]))]))) (.cons (.app (.var 12) (.lam (.call n_all_plans (lit [.var 3, .int 1, .int 0, .var 11, .non])))) (.cons (.ife (.cmp .ne (.var 12) (.op .mul (.lst (lit [.str "number value"])) (.int 2))) (.cons (.ret (.bl false)) (.nil)) (.nil)) (.nil))))) (fenv T (d + 9)) odds [some (.scr (ns.map .int)), some (.int k), some (.ref n), some (encT t), a, b, c, e, f, g, i, j, l, m, o] h) Q := by
  rw [← List.map_id odds]
  refine (forL_inv (enc := id) (I := fun ys env h' => (∀ v ∈ ys, v.fz = true ∧ wholeB v 0 5 = false) ∧ Cl h' ∧ ∃ a b c e f g i j l m o, env = [some (.scr (ns.map .int)), some (.int k), some (.ref n), some (encT t), a, b, c, e, f, g, i, j, l, m, o]) ?_ ⟨ho, cl, a, b, c, e, f, g, i, j, l, m, o, rfl⟩).mono ?_
  rotate_left
  · rintro env h' ⟨-, cl, a, b, c, e, f, g, i, j, l, m, o, rfl⟩
    exact hQ h' cl a b c e f g i j l m o
  · rintro y ys env h' ⟨hy, cl, a, b, c, e, f, g, i, j, l, m, o, rfl⟩
    refine ⟨[some (.scr (ns.map .int)), some (.int k), some (.ref n), some (encT t), a, b, c, e, f, g, i, some y, l, m, o], by simp, NX.gen fun J hJ => ?_⟩
    obtain ⟨y1, y2⟩ := hy y (by simp)
    have e1 : ∀ h, fenv T (d + 9) n_all_plans [encT t, y, .non, .non, .non] h = .exc 4 h := fun h => ev_all_plans_bad hT.toAllT ht y1 rfl rfl rfl (by simp [needB, y2]) d
    have e2 : ∀ h, fenv T (d + 9) n_all_plans [encT t, .int 1, .int 0, y, .non] h = .exc 4 h := fun h => ev_all_plans_bad hT.toAllT ht rfl rfl y1 rfl (by simp [needB, y2]) d
    simp [e1, e2, nmE, isLiveL, opMul_2, words_ne]
    exact .mk (hJ _ _ ⟨fun v hv => hy v (by simp [hv]), words_cl cl [.str "number value", .str "number value"] rfl, _, _, _, _, _, _, _, _, _, _, _, rfl⟩)
theorem k07_rows {ns : List Int} {k n : Nat} {t : Tb} (ht : TbOk t) (d : Nat) (rows : List (PV × PV × PV × PV)) (ho : ∀ v ∈ rows, (v.1.fz = true ∧ v.2.1.fz = true ∧ v.2.2.1.fz = true ∧ v.2.2.2.fz = true) ∧ needB v.1 v.2.1 v.2.2.1 v.2.2.2 = false) {h : LH} (cl : Cl h) (a b c e f g i j l m o : Option PV) {Q : Env → LH → Prop}
    (hQ : ∀ a b c e f g i j l m o, Q [some (.scr (ns.map .int)), some (.int k), some (.ref n), some (encT t), a, b, c, e, f, g, i, j, l, m, o] h) :
    NX (forL (.tup [.name 5, .name 6, .name 8, .name 7]) (denSs (.cons (.ife (.cmp .ne (.lam (.call n_all_plans (lit [.var 3, .var 5, .var 6, .var 8, .var 7]))) (.str "number value")) (.cons (.ret (.bl false)) (.nil)) (.nil)) (.nil))) (fenv T (d + 9)) (rows.map fun v => .tup [v.1, v.2.1, v.2.2.1, v.2.2.2]) [some (.scr (ns.map .int)), some (.int k), some (.ref n), some (encT t), a, b, c, e, f, g, i, j, l, m, o] h) Q := by
  refine (forL_inv (I := fun ys env h' => (∀ v ∈ ys, (v.1.fz = true ∧ v.2.1.fz = true ∧ v.2.2.1.fz = true ∧ v.2.2.2.fz = true) ∧ needB v.1 v.2.1 v.2.2.1 v.2.2.2 = false) ∧ h' = h ∧ ∃ a b c e f g i j l m o, env = [some (.scr (ns.map .int)), some (.int k), some (.ref n), some (encT t), a, b, c, e, f, g, i, j, l, m, o]) ?_ ⟨ho, rfl, a, b, c, e, f, g, i, j, l, m, o, rfl⟩).mono ?_
  rotate_left
  · rintro env h' ⟨-, rfl, a, b, c, e, f, g, i, j, l, m, o, rfl⟩
    exact hQ a b c e f g i j l m o
  · rintro ⟨p, ti, g', mo⟩ ys env h' ⟨hy, rfl, a, b, c, e, f, g, i, j, l, m, o, rfl⟩
    refine ⟨[some (.scr (ns.map .int)), some (.int k), some (.ref n), some (encT t), a, some p, some ti, some mo, some g', g, i, j, l, m, o], by simp, NX.gen fun J hJ => ?_⟩
    obtain ⟨⟨y1, y2, y3, y4⟩, y5⟩ := hy (p, ti, g', mo) (by simp)
    simp only at y1 y2 y3 y4 y5
    have e1 := ev_all_plans_bad hT.toAllT (h := h') ht y1 y2 y3 y4 y5 d
    simp [e1, nmE]
    exact .mk (hJ _ _ ⟨fun v hv => hy v (by simp [hv]), rfl, _, _, _, _, _, _, _, _, _, _, _, rfl⟩)
theorem ev_law_k07 (ns : List Int) (d : Nat) : ∃ h', fenv T (d + 10) n_law_k07 [.scr (ns.map .int)] [] = .ok (.bl true) h' := by
  rw [fenv_call hT.law]
  refine runFD_any rfl (RT.gen fun J hJ => ?_)
  have s7 : small62 7 = true := by decide +kernel
  have s5 : small62 5 = true := by decide +kernel
  simp [fd_law_k07, ir_law_k07, s7]
  rw [intsFrom_0]
  refine at_inv (fun r => RT r _) (fun ys env h' => (∀ y ∈ ys, y < 7) ∧ Cl h' ∧ ∃ a1 a2 a3 a b c e f g i j l m o, env = [some (.scr (ns.map .int)), a1, a2, a3, a, b, c, e, f, g, i, j, l, m, o]) ?_ ⟨fun y hy => by simpa using hy, Cl.nil, none, none, none, none, none, none, none, none, none, none, none, none, none, none, rfl⟩ ?_
  · rintro k ys env h' ⟨hk, cl, a1, a2, a3, a, b, c, e, f, g, i, j, l, m, o, rfl⟩
    refine ⟨[some (.scr (ns.map .int)), some (.int k), a2, a3, a, b, c, e, f, g, i, j, l, m, o], by simp, NX.gen fun J hJ => ?_⟩
    have hk0 := hk k (by simp)
    obtain ⟨bag, eb⟩ := ev_bag hT.gen (h := h') ns (k := k) (by omega) cl (d + 6)
    rw [bag_snoc] at eb
    have cl2 : Cl (h' ++ [.lst []]) := words_cl cl [] rfl
    have hn : h'.length < (h' ++ [LO.lst []]).length := by simp
    obtain ⟨_, _, et, t, bag', gt, rfl, rfl⟩ := (ev_table hT.gen hn cl2 bag (d + 4)).elim
    simp [eb, et, s5]
    rw [intsFrom_0]
    refine then_NX (fun r => NX r _) (k07_turns hT hn cl2 gt d bag' (List.range 5) _ a b c e f g i j l m o rfl (Q := fun env h'' => ∃ bag a b c e f g i j l m o, env = [some (.scr (ns.map .int)), some (.int k), some (.ref h'.length), some (encT t), a, b, c, e, f, g, i, j, l, m, o] ∧ h'' = bagAt (h' ++ [.lst []]) h'.length bag) (fun bag a b c e f g i j l m o => ⟨bag, a, b, c, e, f, g, i, j, l, m, o, rfl, rfl⟩)) ?_
    rintro env h'' ⟨bag, a, b, c, e, f, g, i, j, l, m, o, rfl, rfl⟩
    simp
    refine then_NX (fun r => NX r _) (k07_odds hT (n := h'.length) gt.ok d [.int (-1), .int 6, .bl true, .non] (by simp [PV.fz, wholeB]) (cl2.bagAt h'.length bag) a b c e f g i j l m o (Q := fun env h'' => Cl h'' ∧ ∃ a b c e f g i j l m o, env = [some (.scr (ns.map .int)), some (.int k), some (.ref h'.length), some (encT t), a, b, c, e, f, g, i, j, l, m, o]) (fun h' q a b c e f g i j l m o => ⟨q, a, b, c, e, f, g, i, j, l, m, o, rfl⟩)) ?_
    rintro env h3 ⟨cl3, a, b, c, e, f, g, i, j, l, m, o, rfl⟩
    simp
    refine then_NX (fun r => NX r _) (k07_rows hT (n := h'.length) gt.ok d [(.int 1, .int (-1), .int 2, .int 1), (.int 1, .int 241, .int 2, .int 1), (.int 1, .int 0, .int 1, .int 1), (.int 1, .int 0, .int 2, .int 0), (.int 1, .int 0, .int 2, .int 4), (.int 1, .int 0, .int 2, .bl true)] (by simp [PV.fz, needB, wholeB, int_eq]) cl3 a b c e f g i j l _ o (Q := fun env h'' => h'' = h3 ∧ ∃ a b c e f g i j l m o, env = [some (.scr (ns.map .int)), some (.int k), some (.ref h'.length), some (encT t), a, b, c, e, f, g, i, j, l, m, o]) (fun a b c e f g i j l m o => ⟨rfl, a, b, c, e, f, g, i, j, l, m, o, rfl⟩)) ?_
    rintro env h4 ⟨rfl, a, b, c, e, f, g, i, j, l, m, o, rfl⟩
    simp [ev_all_plans_5 hT.toAllT, nmE]
    exact .mk (hJ _ _ ⟨fun y hy => hk y (by simp [hy]), cl3, _, _, _, _, _, _, _, _, _, _, _, _, _, _, rfl⟩)
  · rintro env' h' ⟨-, cl, a1, a2, a3, a, b, c, e, f, g, i, j, l, m, o, rfl⟩
    have e1 := ev_all_plans hT.toAllT (h := h') tb0_ok (place := 0) (time := 0) (goal := 3) (most := 2) (by omega) (by omega) (by omega) (by omega) (by omega) (by omega) (by omega) (by omega) (by omega) cl d
    have e2 := ev_all_plans hT.toAllT (h := h') tb0_ok (place := 0) (time := 0) (goal := 3) (most := 1) (by omega) (by omega) (by omega) (by omega) (by omega) (by omega) (by omega) (by omega) (by omega) cl d
    rw [tb0_2] at e1
    rw [tb0_1] at e2
    have et : encT tb0 = .tup [.tup [.tup [.tup [.int 0, .int 0, .int 0, .int 0], .tup [.int 1, .int 20, .int 22, .int 4], .tup [.int 0, .int 42, .int 42, .int 6]], .tup [.tup [.int 1, .int 25, .int 25, .int 0], .tup [.int 3, .int 45, .int 45, .int 5]]], .tup [], .tup [], .tup [.int 0, .int 0, .str "once"], .int 60] := by
      simp [encT, encRs, encR, encC, tb0, runs0, wordS]
    rw [et] at e1 e2
    have ep : encP 0 0 [(0, 0, 1), (1, 0, 1)] = .tup [.int 0, .int 0, .tup [.tup [.int 0, .int 0, .int 1], .tup [.int 1, .int 0, .int 1]]] := by simp [encP, encD]
    have eq1 : opEq h' (.lst [encP 0 0 [(0, 0, 1), (1, 0, 1)]]) (.lst [encP 0 0 [(0, 0, 1), (1, 0, 1)]]) = some (.bl true) := by
      have := plans_ok 0 0 [[(0, 0, 1), (1, 0, 1)]]
      rw [List.map_cons, List.map_nil] at this
      rw [opEq_ok h' this this]
      have := pyEq_lst (encP_eq 0 0) [[(0, 0, 1), (1, 0, 1)]] [[(0, 0, 1), (1, 0, 1)]]
      rw [List.map_cons, List.map_nil] at this
      rw [this]
      rfl
    rw [List.map_cons, List.map_nil] at e1
    rw [ep] at e1 eq1
    simp at e1 e2
    simp [e1, e2, eq1]
    exact .mk (hJ _ _ rfl)
end
end G
end
set_option Elab.async false
set_option linter.all false
set_option maxRecDepth 100000
set_option maxHeartbeats 0
theorem K07.inst : G.K07T K07.T :=
  { is_plain := rfl, is_whole := rfl, is_row := rfl, is_call := rfl, is_run := rfl, is_wait := rfl, is_turn := rfl, is_ascending := rfl, are_turns := rfl, is_source := rfl, events_of := rfl, needs_of := rfl, order_of := rfl, is_table := rfl
    is_ride := rfl, fits_plan := rfl, need_table := rfl, need_number := rfl, is_plan := rfl
    rides_from := rfl, plans_to := rfl, need_all := rfl, all_plans := rfl, due := rfl
    gen := { cell := rfl, draws := rfl, bag := rfl, take := rfl, choice := rfl, run := rfl, events := rfl, before := rfl, sound := rfl, meets := rfl, table := rfl, with_turns := rfl }
    law := rfl }
theorem PySem.Challenge.cw_latelines_k07_whole_all_plans_between_tw_holds : PySem.Challenge.rw_latelines_k07_whole_all_plans_between_tw.Holds := by
  exact k07_holds 10 ⟨rfl, by decide, by decide⟩ fun ns _ _ => G.ev_law_k07 K07.inst ns 0
