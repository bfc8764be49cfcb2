import PyProof.Rows.All
import Wide.All
import OpenK.AllK
import Wide.FinOn
import PySem.Challenge.RW_lettergrounds_k45_whole_lines_of_full_st
import PySem.PyData
import KE.SortData
import HandS.ForMost
import HandS.Conv
import HandS.TupLe
import HandS.TupAny
import HandS.Flow
import HandS.TupMul
import HandS.Zip
import HandS.Wide
import HandS.Deep
import HandS.DictComp
import HandS.SetKeys
import HandS.TryOnly
import HandS.Style
import HandS.IsInst
import HandS.RaiseMore
import KE.KRevSl
import PyProof.TupleOfStr
import HandS.Set
import HandS.TupSets
import HandS.SetFor
import HandS.More
import KE.OsSortAny
import HandS.ExcOwn
import HandS.CallSlots
import KE.GoesEnum
import KE.GoesZip
import KE.GoesMore
import HandS.Replace
import HandS.Small
import PyProof.Rows.FactsT2
import PyProof.Rows.FactsT3
import HandS.WordsDict
import HandS.WordsExc
import HandS.HeadHook2
import HandS.HeadEnd
import HandS.Head0
import HandS.Head1
import HandS.Head2
set_option Elab.async false
set_option linter.all false
set_option maxRecDepth 100000
set_option autoImplicit false
section
namespace U
open PySem
abbrev D := PyData
/-- a text by its signs -/
abbrev S (l : List Nat) : D := .str ⟨⟨l⟩⟩
def tx (x : Str) : List Nat := x.cps.toList
def sOk (l : List Nat) : Bool := l.all fun c => decide (c < 1114112)

/-- what one local name alone holds -/
inductive Ow where
  | lst (ds : List D)
  | dic (ds : List (D × D))
def Ow.toD : Ow → D
  | .lst ds => .list ds
  | .dic ds => .dict ds
/-- a slot: nothing (or nothing known), a value that is kept, an object of this name alone (io: the caller's) -/
inductive Slot where
  | no
  | val (d : D)
  | own (io : Bool) (o : Ow)
abbrev Ev := List Slot

inductive Out (α : Type) where
  | ok (a : α)
  | exn (c : Nat) (env : Ev)
  | stuck
def Out.bind {α β : Type} (x : Out α) (f : α → Out β) : Out β := match x with
  | .ok a => f a
  | .exn c e => .exn c e
  | .stuck => .stuck
/-- an expression's value: kept, or new and nobody's -/
inductive R where
  | val (d : D)
  | fr (o : Ow)
def R.toD : R → D
  | .val d => d
  | .fr o => o.toD
/-- an operand that is used at once: a value, or the slot that holds it -/
inductive Opd where
  | val (d : D)
  | slot (i : Nat)
/-- what an operation by values yields: a value that is there (or has no place), a new list or dict, a new tuple -/
inductive Rs where
  | val (d : D)
  | fr (o : Ow)
  | nt (ds : List D)
def Rs.toR : Rs → R
  | .val d => .val d
  | .fr o => .fr o
  | .nt ds => .val (.tuple ds)
/-- a call's end -/
inductive Cr where
  | ret (r : R)
  | exn (c : Nat)
  | stuck
inductive CrM where
  | ret (r : R) (o : Ow)
  | exn (c : Nat) (o : Ow)
  | stuck
structure Fns where
  call : Nat → List D → Cr
  callM : Nat → Ow → List D → CrM

def slotD : Slot → Option D
  | .val d => some d
  | .own _ o => some o.toD
  | .no => none
def res (env : Ev) : Opd → Option D
  | .val d => some d
  | .slot i => env[i]?.bind slotD
def resAll (env : Ev) : List Opd → Option (List D)
  | [] => some []
  | o :: os => (res env o).bind fun d => (resAll env os).bind fun ds => some (d :: ds)

/-! ### data -/
mutual
def noDict : D → Bool
  | .dict _ => false
  | .list ds => noDicts ds
  | .tuple ds => noDicts ds
  | _ => true
def noDicts : List D → Bool
  | [] => true
  | d :: ds => noDict d && noDicts ds
end
mutual
def dep : D → Nat
  | .list xs => deps xs + 1
  | .tuple xs => deps xs + 1
  | _ => 0
def deps : List D → Nat
  | [] => 0
  | x :: xs => max (dep x) (deps xs)
end
def okD (d : D) : Bool := noDict d && decide (dep d ≤ 64)
mutual
/-- == -/
def eqD : D → D → Bool
  | .none, .none => true
  | .bool a, .bool b => a == b
  | .bool a, .int j => decide ((if a then 1 else 0) = j)
  | .int i, .bool b => decide (i = (if b then 1 else 0))
  | .int i, .int j => decide (i = j)
  | .str x, .str y => decide (tx x = tx y)
  | .list xs, .list ys => eqDs xs ys
  | .tuple xs, .tuple ys => eqDs xs ys
  | _, _ => false
def eqDs : List D → List D → Bool
  | [], [] => true
  | x :: xs, y :: ys => eqD x y && eqDs xs ys
  | _, _ => false
end
/-- the order of texts -/
def ltS : List Nat → List Nat → Bool
  | _, [] => false
  | [], _ :: _ => true
  | a :: as, b :: bs => decide (a < b) || (decide (a = b) && ltS as bs)

def line : Nat := 16777216
def isScal : D → Bool
  | .none => true
  | .bool _ => true
  | .int _ => true
  | .str _ => true
  | _ => false

inductive B2 where
  | add | sub | mul | fdiv | mod | pow
  deriving DecidableEq
inductive C2 where
  | eq | ne | lt | le | gt | ge | isin | notin | is | isnot
  deriving DecidableEq
inductive Bi where
  | len | abs | int | str | isinst (ts : List String) | list | tuple | sum | min | max | all | any | sorted | sset | lset | lrng | trng
  deriving DecidableEq
inductive Me where
  | join | count | index
  deriving DecidableEq

def mulOk (i j : Int) : Bool := (decide (-(2 ^ 64) < i) && decide (i < 2 ^ 64)) || (decide (-(2 ^ 64) < j) && decide (j < 2 ^ 64))
def binD : B2 → D → D → Option Rs
  | .add, .int i, .int j => some (.val (.int (i + j)))
  | .add, .str x, .str y => if (tx x).length + (tx y).length ≤ line then some (.val (S (tx x ++ tx y))) else none
  | .add, .list xs, .list ys => if xs.length + ys.length ≤ line then some (.fr (.lst (xs ++ ys))) else none
  | .add, .tuple xs, .tuple ys => if xs.length + ys.length ≤ line then some (match xs, ys with
      | [], ys => .val (.tuple ys)
      | x :: xs, [] => .val (.tuple (x :: xs))
      | x :: xs, y :: ys => .nt ((x :: xs) ++ (y :: ys))) else none
  | .sub, .int i, .int j => some (.val (.int (i - j)))
  | .mul, .int i, .int j => if mulOk i j then some (.val (.int (i * j))) else none
  | .mul, .list xs, .int k => if decide (-(2 ^ 63) ≤ k) && decide (k < 2 ^ 63) && decide (xs.length * k.toNat ≤ line) then some (.fr (.lst (List.replicate k.toNat xs).flatten)) else none
  | .mul, .str x, .int k => if decide (-(2 ^ 63) ≤ k) && decide (k < 2 ^ 63) && decide ((tx x).length * k.toNat ≤ line) then some (.val (S (List.replicate k.toNat (tx x)).flatten)) else none
  | .mul, .tuple xs, .int k => if k = 1 then some (.val (.tuple xs)) else if !xs.isEmpty && decide (2 ≤ k) && decide (k ≤ 1000) && decide (xs.length ≤ 1000) then some (.nt (List.replicate k.toNat xs).flatten) else none
  | .fdiv, .int i, .int j => if decide (0 < j) && decide (j < 1073741824) then some (.val (.int (i / j))) else none
  | .mod, .int i, .int j => if 0 < j then some (.val (.int (i % j))) else none
  | .pow, .int i, .int j => if decide (0 ≤ j) && decide (j ≤ 1000000) && decide (i.natAbs < 2 ^ 64) then some (.val (.int (i ^ j.toNat))) else none
  | _, _, _ => none

def isI : D → Bool
  | .int _ => true
  | _ => false
def isS : D → Bool
  | .str _ => true
  | _ => false
/-- a key of a dict -/
def keyOk (d : D) : Bool := isI d || isS d
def dget (kvs : List (D × D)) (k : D) : Option D := (kvs.find? fun p => eqD p.1 k).map (·.2)
def dput (kvs : List (D × D)) (k v : D) : List (D × D) := if (kvs.any fun p => eqD p.1 k) then kvs.map (fun p => if eqD p.1 k then (p.1, v) else p) else kvs ++ [(k, v)]
/-- a dict that can be seen -/
def dicOk : List (D × D) → Bool
  | (.none, _) :: _ => false
  | _ => true
def cmpD : C2 → D → D → Option Bool
  | .eq, x, y => if isScal x && isScal y then some (eqD x y) else if okD x && okD y then some (eqD x y) else none
  | .ne, x, y => if isScal x && isScal y then some (!eqD x y) else if okD x && okD y then some (!eqD x y) else none
  | .lt, .int i, .int j => some (decide (i < j))
  | .le, .int i, .int j => some (decide (i ≤ j))
  | .gt, .int i, .int j => some (decide (j < i))
  | .ge, .int i, .int j => some (decide (j ≤ i))
  | .lt, .str x, .str y => some (ltS (tx x) (tx y))
  | .le, .str x, .str y => some (!ltS (tx y) (tx x))
  | .gt, .str x, .str y => some (ltS (tx y) (tx x))
  | .ge, .str x, .str y => some (!ltS (tx x) (tx y))
  | .isin, .str x, .str y => (match tx x with | [c] => some ((tx y).contains c) | _ => none)
  | .notin, .str x, .str y => (match tx x with | [c] => some (!(tx y).contains c) | _ => none)
  | .isin, x, .list ys => if okD x && okD (.list ys) then some (ys.any fun y => eqD y x) else none
  | .notin, x, .list ys => if okD x && okD (.list ys) then some (!ys.any fun y => eqD y x) else none
  | .isin, x, .tuple ys => if okD x && okD (.tuple ys) then some (ys.any fun y => eqD y x) else none
  | .notin, x, .tuple ys => if okD x && okD (.tuple ys) then some (!ys.any fun y => eqD y x) else none
  | .isin, x, .dict kvs => if keyOk x && dicOk kvs then some (dget kvs x).isSome else none
  | .notin, x, .dict kvs => if keyOk x && dicOk kvs then some (!(dget kvs x).isSome) else none
  | .is, x, .none => some (match x with | .none => true | _ => false)
  | .isnot, x, .none => some (match x with | .none => false | _ => true)
  | .is, .bool x, .bool y => some (decide (x = y))
  | .isnot, .bool x, .bool y => some (!decide (x = y))
  | _, _, _ => none

def truD : D → Bool
  | .none => false
  | .bool b => b
  | .int i => decide (i ≠ 0)
  | .str x => decide (tx x ≠ [])
  | .list xs => !xs.isEmpty
  | .tuple xs => !xs.isEmpty
  | .dict xs => !xs.isEmpty
/-- truth can be asked -/
def truOk : D → Bool
  | .str x => decide ((tx x).length ≤ line)
  | .dict ((.none, _) :: _) => false
  | _ => true

/-- the place of an index -/
def ixAt (n : Nat) (i : Int) : Option Nat := if 0 ≤ i then (if i < n then some i.toNat else none) else if -(n : Int) ≤ i then some (i + n).toNat else none
def idxD : D → D → Option D
  | .list xs, .int i => (ixAt xs.length i).bind fun j => xs[j]?
  | .tuple xs, .int i => (ixAt xs.length i).bind fun j => xs[j]?
  | .str x, .int i => if (tx x).length ≤ line then (ixAt (tx x).length i).bind fun j => ((tx x)[j]?).map fun c => S [c] else none
  | .dict kvs, k => if keyOk k && dicOk kvs then dget kvs k else none
  | _, _ => none
/-- a slice's bound -/
def bnd (n : Nat) (dflt : Nat) : Option Int → Nat
  | none => dflt
  | some i => if 0 ≤ i then min i.toNat n else (i + n).toNat
def cut {α : Type} (xs : List α) (lo hi : Option Int) : List α := (xs.drop (bnd xs.length 0 lo)).take (bnd xs.length xs.length hi - bnd xs.length 0 lo)
def slD : D → Option Int → Option Int → Option Rs
  | .str x, lo, hi => if (tx x).length ≤ line then some (.val (S (cut (tx x) lo hi))) else none
  | .list xs, lo, hi => some (.fr (.lst (cut xs lo hi)))
  | .tuple xs, lo, hi => some (if bnd xs.length 0 lo = 0 ∧ bnd xs.length xs.length hi = xs.length then .val (.tuple xs) else .nt (cut xs lo hi))
  | _, _, _ => none

/-! ### the text -/
inductive Tx where
  | slot (i : Nat)
  | lit (d : D)
  | glob (d : D)
  | bin (o : B2) (a b : Tx)
  | neg (a : Tx)
  | not (a : Tx)
  | cmp (o : C2) (a b : Tx)
  | chain (o p : C2) (a b c : Tx)
  | and (a b : Tx)
  | or (a b : Tx)
  | ite (c a b : Tx)
  | call (f : Nat) (args : Tx)
  | callM (f : Nat) (i : Nat) (args : Tx)
  | bi (f : Bi) (args : Tx)
  | me (m : Me) (o : Tx) (args : Tx)
  | idx (a i : Tx)
  | sl (a lo hi : Tx)
  | rev (a : Tx)
  | popAt (i : Nat) (k : Tx)
  | pop0 (i : Nat)
  | tup (es : Tx)
  | lst (es : Tx)
  | dict0
  | comp (own : List Nat) (tg : Tx) (it : Tx) (cs : Tx) (e : Tx)
  | comp2 (own : List Nat) (tg : Tx) (it : Tx) (cs : Tx) (tg1 : Tx) (it1 : Tx) (cs1 : Tx) (e : Tx)
  | nil
  | cons (e es : Tx)
  | itR (args : Tx)
  | itZ (a b : Tx)
  | itE (a : Tx)

/-- a text that is no test here -/
def noT : Tx → Bool
  | .ite _ _ _ => true
  | _ => false
/-- a target's names get a value -/
def tgNames : Tx → List Nat
  | .slot i => [i]
  | .tup es => tgNames es
  | .cons e es => tgNames e ++ tgNames es
  | _ => []
def isL : Option Slot → Bool
  | some (.own _ (.lst _)) => true
  | _ => false
def isDc : Option Slot → Bool
  | some (.own _ (.dic _)) => true
  | _ => false
def isIo : Option Slot → Bool
  | some (.own true _) => true
  | _ => false
mutual
def bindT : Tx → D → Ev → Option Ev
  | .slot i, d, env => if isIo env[i]? then none else some (env.set i (.val d))
  | .tup es, .tuple ds, env => bindTs es ds env
  | _, _, _ => none
def bindTs : Tx → List D → Ev → Option Ev
  | .nil, [], env => some env
  | .cons e es, d :: ds, env => (bindT e d env).bind fun env => bindTs es ds env
  | _, _, _ => none
end
def wipeE (env : Ev) : List Nat → Ev
  | [] => env
  | v :: vs => (wipeE env vs).set v .no
/-- the slots of a block's own names as they were ahead of it -/
def backE (env0 env : Ev) : List Nat → Ev
  | [] => env
  | v :: vs => (backE env0 env vs).set v (env0.getD v .no)

/-- a new object is kept -/
def frz (r : Out (R × Ev)) : Out (D × Ev) := r.bind fun p => .ok (p.1.toD, p.2)
/-- an operand: an owned slot stays owned -/
def opd (x : Tx) (f : Ev → Out (R × Ev)) (env : Ev) : Out (Opd × Ev) := match x with
  | .slot i => (match env[i]? with
      | some (.val d) => .ok (.val d, env)
      | some (.own _ _) => .ok (.slot i, env)
      | _ => .stuck)
  | _ => (f env).bind fun p => .ok (.val p.1.toD, p.2)
/-- an operand that is a kept value -/
def opdV : Opd → Option D
  | .val d => some d
  | .slot _ => none
def ofO {α : Type} : Option α → Out α
  | some a => .ok a
  | none => .stuck
/-- a test by an operand -/
def tst (g : Ev → Out (Opd × Ev)) (env : Ev) : Out (Bool × Ev) := (g env).bind fun p => (ofO (res p.2 p.1)).bind fun d => if truOk d then .ok (truD d, p.2) else .stuck

def intsOf : List D → Option (List Int)
  | [] => some []
  | .int i :: ds => (intsOf ds).map fun is => i :: is
  | _ => none
def boolsOf : List D → Option (List Bool)
  | [] => some []
  | .bool i :: ds => (boolsOf ds).map fun is => i :: is
  | _ => none
def strsOf : List D → Option (List (List Nat))
  | [] => some []
  | .str x :: ds => (strsOf ds).map fun is => tx x :: is
  | _ => none
def joinL (sep : List Nat) : List (List Nat) → List Nat
  | [] => []
  | [x] => x
  | x :: y :: r => x ++ sep ++ joinL sep (y :: r)
def rangeT (lo : Int) : Nat → List D
  | 0 => []
  | n + 1 => .int lo :: rangeT (lo + 1) n
/-- the items that sorted and set see -/
def sortIn : D → Option (List D)
  | .list xs => some xs
  | .tuple xs => some xs
  | .str x => if (tx x).length ≤ line then some ((tx x).map fun c => S [c]) else none
  | .dict kvs => if dicOk kvs then some (kvs.map (·.1)) else none
  | _ => none
def setIn : D → Option (List D)
  | .dict _ => none
  | d => sortIn d
def tupNE : D → Bool
  | .tuple (_ :: _) => true
  | _ => false
def notTN : D → Bool
  | .none => false
  | .tuple _ => false
  | _ => true
/-- the items can be sorted -/
def sortOk (xs : List D) : Bool := decide (xs.length ≤ line) && xs.all (fun x => xs.all fun y => PySem.W.alike x y) && (xs.all tupNE || xs.all notTN) && xs.all fun x => noDict x && decide (x.depth ≤ 50)
def sortD (xs : List D) : List D := xs.mergeSort (PySem.W.dataLe false id)
def putD (d : D) (acc : List D) : List D := if acc.any (fun e => eqD e d) then acc else d :: acc
/-- each once -/
def nubD (xs : List D) : List D := xs.foldl (fun acc d => putD d acc) []
def setOk (xs : List D) : Bool := (xs.all isI || xs.all isS) && decide (xs.length < 4000)
def biD : Bi → List D → Option Rs
  | .sorted, [d] => (sortIn d).bind fun xs => if sortOk xs then some (.fr (.lst (sortD xs))) else none
  | .sset, [d] => (setIn d).bind fun xs => if setOk xs then some (.fr (.lst (sortD (nubD xs)))) else none
  | .lset, [d] => (setIn d).bind fun xs => if setOk xs then some (.val (.int (nubD xs).length)) else none
  | .lrng, [.int j] => if decide (0 ≤ j) && decide (j ≤ 16777216) then some (.fr (.lst (rangeT 0 j.toNat))) else none
  | .lrng, [.int i, .int j] => if decide (0 ≤ i) && decide (i ≤ 16777216) && decide (0 ≤ j) && decide (j ≤ 16777216) then some (.fr (.lst (rangeT i (j - i).toNat))) else none
  | .trng, [.int j] => if decide (0 ≤ j) && decide (j ≤ 16777216) then some (.nt (rangeT 0 j.toNat)) else none
  | .trng, [.int i, .int j] => if decide (0 ≤ i) && decide (i ≤ 16777216) && decide (0 ≤ j) && decide (j ≤ 16777216) then some (.nt (rangeT i (j - i).toNat)) else none
  | .len, [.str x] => if (tx x).length ≤ line then some (.val (.int (tx x).length)) else none
  | .len, [.list xs] => some (.val (.int xs.length))
  | .len, [.tuple xs] => some (.val (.int xs.length))
  | .len, [.dict kvs] => (match kvs with | (.none, _) :: _ => none | _ => some (.val (.int kvs.length)))
  | .abs, [.int i] => some (.val (.int (if i < 0 then -i else i)))
  | .int, [.int i] => some (.val (.int i))
  | .int, [.bool b] => some (.val (.int (if b then 1 else 0)))
  | .str, [.str x] => some (.val (.str x))
  | .isinst ts, [d] => (match d with
      | .none => some (.val (.bool false))
      | .bool _ => some (.val (.bool (ts.contains "bool" || ts.contains "int")))
      | .int _ => some (.val (.bool (ts.contains "int")))
      | .str _ => some (.val (.bool (ts.contains "str")))
      | .list _ => some (.val (.bool (ts.contains "list")))
      | .tuple _ => some (.val (.bool (ts.contains "tuple")))
      | .dict ((.none, _) :: _) => none
      | .dict _ => some (.val (.bool (ts.contains "dict"))))
  | .list, [.list xs] => some (.fr (.lst xs))
  | .list, [.tuple xs] => some (.fr (.lst xs))
  | .list, [.dict [(.none, .list xs)]] => some (.fr (.lst xs))
  | .list, [.str x] => if (tx x).length ≤ line then some (.fr (.lst ((tx x).map fun c => S [c]))) else none
  | .tuple, [.list xs] => some (.nt xs)
  | .tuple, [.tuple xs] => some (.val (.tuple xs))
  | .tuple, [.str x] => if (tx x).length ≤ line then some (.nt ((tx x).map fun c => S [c])) else none
  | .sum, [.list xs] => (intsOf xs).map fun ns => .val (.int ns.sum)
  | .all, [.list xs] => (boolsOf xs).map fun bs => .val (.bool (bs.all id))
  | .any, [.list xs] => (boolsOf xs).map fun bs => .val (.bool (bs.any id))
  | .min, [.int i, .int j] => some (.val (.int (if j < i then j else i)))
  | .max, [.int i, .int j] => some (.val (.int (if j > i then j else i)))
  | .min, [.list xs] => (intsOf xs).bind fun ns => match ns with
      | [] => none
      | n :: ns => some (.val (.int (ns.foldl (fun a b => if b < a then b else a) n)))
  | .max, [.list xs] => (intsOf xs).bind fun ns => match ns with
      | [] => none
      | n :: ns => some (.val (.int (ns.foldl (fun a b => if a < b then b else a) n)))
  | _, _ => none
/-- the first place of c -/
def ixS (c : Nat) : List Nat → Option Nat
  | [] => none
  | d :: ds => if d = c then some 0 else (ixS c ds).map (· + 1)
/-- the first place of what is equal to x -/
def ixD (x : D) : List D → Option Nat
  | [] => none
  | d :: ds => if eqD d x then some 0 else (ixD x ds).map (· + 1)
def joinD (s : List Nat) (xs : List D) : Option Rs := (strsOf xs).bind fun ls => if (ls.map (·.length)).sum + ls.length * s.length ≤ line then some (.val (S (joinL s ls))) else none
def meD : Me → D → List D → Option Rs
  | .join, .str s, [.list xs] => joinD (tx s) xs
  | .join, .str s, [.tuple xs] => joinD (tx s) xs
  | .index, .str s, [.str x] => (match tx x with
      | [c] => (ixS c (tx s)).map fun i => .val (.int i)
      | _ => none)
  | .index, .list xs, [d] => if okD d && okD (.list xs) then (ixD d xs).map fun i => .val (.int i) else none
  | .count, .str s, [.str x] => (match tx x with
      | [c] => some (.val (.int ((tx s).countP fun d => decide (d = c))))
      | _ => none)
  | .count, .list xs, [d] => if okD d && okD (.list xs) then some (.val (.int (xs.countP fun z => eqD z d))) else none
  | _, _, _ => none
def knd : D → Nat
  | .none => 0 | .bool _ => 1 | .int _ => 2 | .str _ => 3 | .list _ => 4 | .tuple _ => 5 | .dict _ => 6
/-- a receiver the method is asked of -/
def meR : Me → D → Bool
  | .join, .str _ => true
  | .index, .str _ => true
  | .index, .list _ => true
  | .count, .str _ => true
  | .count, .list _ => true
  | _, _ => false

section
variable (F : Fns)
/-- the comprehension's loop -/
def loopC (bind : D → Ev → Option Ev) (test : Ev → Out (Bool × Ev)) (elt : Ev → Out (D × Ev)) : List D → List D → Ev → Out (List D × Ev)
  | [], acc, env => .ok (acc, env)
  | d :: ds, acc, env => (ofO (bind d env)).bind fun env => (test env).bind fun p =>
      if p.1 then (elt p.2).bind fun q => if acc.length < line then loopC bind test elt ds (acc ++ [q.1]) q.2 else .stuck
      else loopC bind test elt ds acc p.2
/-- the comprehension's inner loop, of two -/
def loopC2 (bind : D → Ev → Option Ev) (test : Ev → Out (Bool × Ev)) (inner : List D → Ev → Out (List D × Ev)) : List D → List D → Ev → Out (List D × Ev)
  | [], acc, env => .ok (acc, env)
  | d :: ds, acc, env => (ofO (bind d env)).bind fun env => (test env).bind fun p =>
      if p.1 then (inner acc p.2).bind fun q => loopC2 bind test inner ds q.1 q.2
      else loopC2 bind test inner ds acc p.2
/-- within a comprehension nothing is raised -/
def noX {α : Type} : Out α → Out α
  | .exn _ _ => .stuck
  | o => o
def zipT : List D → List D → List D
  | x :: xs, y :: ys => .tuple [x, y] :: zipT xs ys
  | _, _ => []
def enumT (i : Nat) : List D → List D
  | x :: xs => .tuple [.int i, x] :: enumT (i + 1) xs
  | _ => []
/-- what a value is walked by -/
def itemsD : D → Option (List D)
  | .list xs => some xs
  | .tuple xs => some xs
  | .str x => some ((tx x).map fun c => S [c])
  | _ => none
mutual
def denE : Tx → Ev → Out (R × Ev)
  | .slot i, env => (match env[i]? with
      | some (.val d) => .ok (.val d, env)
      | some (.own false o) => .ok (.val o.toD, env.set i (.val o.toD))
      | _ => .stuck)
  | .lit d, env => .ok (.val d, env)
  | .glob d, env => .ok (.val d, env)
  | .bin o a b, env => (opd a (denE a) env).bind fun p => (opd b (denE b) p.2).bind fun q =>
      (ofO (res q.2 p.1)).bind fun x => (ofO (res q.2 q.1)).bind fun y => (ofO (binD o x y)).bind fun r => .ok (r.toR, q.2)
  | .neg a, env => (opd a (denE a) env).bind fun p => (match res p.2 p.1 with | some (.int i) => .ok (.val (.int (-i)), p.2) | _ => .stuck)
  | .not a, env => (tst (opd a (denE a)) env).bind fun p => .ok (.val (.bool (!p.1)), p.2)
  | .cmp o a b, env => (opd a (denE a) env).bind fun p => (opd b (denE b) p.2).bind fun q =>
      (ofO (res q.2 p.1)).bind fun x => (ofO (res q.2 q.1)).bind fun y => (ofO (cmpD o x y)).bind fun r => .ok (.val (.bool r), q.2)
  | .chain o1 o2 a b c, env => (opd a (denE a) env).bind fun p => (opd b (denE b) p.2).bind fun q =>
      (ofO (res q.2 p.1)).bind fun x => (ofO (res q.2 q.1)).bind fun y => (ofO (cmpD o1 x y)).bind fun r =>
        if r then (opd c (denE c) q.2).bind fun s => (ofO (res s.2 q.1)).bind fun y => (ofO (res s.2 s.1)).bind fun z => (ofO (cmpD o2 y z)).bind fun r => .ok (.val (.bool r), s.2)
        else .ok (.val (.bool false), q.2)
  | .and a b, env => (opd a (denE a) env).bind fun p => (ofO (res p.2 p.1)).bind fun d => if truOk d then (if truD d then denE b p.2 else (ofO (opdV p.1)).bind fun d => .ok (.val d, p.2)) else .stuck
  | .or a b, env => (opd a (denE a) env).bind fun p => (ofO (res p.2 p.1)).bind fun d => if truOk d then (if truD d then (ofO (opdV p.1)).bind fun d => .ok (.val d, p.2) else denE b p.2) else .stuck
  | .ite c a b, env => (tst (opd c (denE c)) env).bind fun p => if p.1 then denE a p.2 else denE b p.2
  | .call f args, env => (denL args env).bind fun p => (match F.call f p.1 with
      | .ret r => .ok (r, p.2)
      | .exn c => .exn c p.2
      | .stuck => .stuck)
  | .callM f i args, env => (match env[i]? with
      | some (.own _ _) => (denL args env).bind fun p => (match p.2[i]? with
          | some (.own io o) => (match F.callM f o p.1 with
              | .ret r o' => .ok (r, p.2.set i (.own io o'))
              | .exn c o' => .exn c (p.2.set i (.own io o'))
              | .stuck => .stuck)
          | _ => .stuck)
      | _ => .stuck)
  | .bi f args, env => (denOs args env).bind fun p => (ofO (resAll p.2 p.1)).bind fun ds => (ofO (biD f ds)).bind fun r => .ok (r.toR, p.2)
  | .me m o args, env => (opd o (denE o) env).bind fun p => (ofO (res p.2 p.1)).bind fun d0 => if meR m d0 then
      (denOs args p.2).bind fun q => (ofO (res q.2 p.1)).bind fun d => if knd d = knd d0 then (ofO (resAll q.2 q.1)).bind fun ds => (ofO (meD m d ds)).bind fun r => .ok (r.toR, q.2) else .stuck
      else .stuck
  | .idx a i, env => (opd a (denE a) env).bind fun p => (opd i (denE i) p.2).bind fun q =>
      (ofO (res q.2 p.1)).bind fun x => (ofO (res q.2 q.1)).bind fun y => (ofO (idxD x y)).bind fun r => .ok (.val r, q.2)
  | .sl a lo hi, env => (opd a (denE a) env).bind fun p => (denP lo p.2).bind fun q => (denP hi q.2).bind fun s =>
      (ofO (res s.2 p.1)).bind fun x => (ofO (slD x q.1 s.1)).bind fun r => .ok (r.toR, s.2)
  | .rev a, env => (opd a (denE a) env).bind fun p => (match res p.2 p.1 with
      | some (.str x) => if (tx x).length ≤ line then .ok (.val (S (tx x).reverse), p.2) else .stuck
      | some (.list xs) => .ok (.fr (.lst xs.reverse), p.2)
      | some (.tuple xs) => .ok (.val (.tuple xs.reverse), p.2)
      | _ => .stuck)
  | .popAt i k, env => if isL env[i]? then (frz (denE k env)).bind fun p => (match p.2[i]?, p.1 with
      | some (.own io (.lst ds)), .int j => if decide (-(2 ^ 63) ≤ j) && decide (j < 2 ^ 63) then (match ixAt ds.length j with
          | some j => (match ds[j]? with
              | some d => .ok (.val d, p.2.set i (.own io (.lst (ds.eraseIdx j))))
              | none => .stuck)
          | none => .stuck) else .stuck
      | _, _ => .stuck) else .stuck
  | .pop0 i, env => (match env[i]? with
      | some (.own io (.lst ds)) => (match ds[ds.length - 1]? with
          | some d => .ok (.val d, env.set i (.own io (.lst ds.dropLast)))
          | none => .stuck)
      | _ => .stuck)
  | .tup es, env => (denL es env).bind fun p => if p.1.length ≤ line then .ok (.val (.tuple p.1), p.2) else .stuck
  | .lst es, env => (denL es env).bind fun p => if p.1.length ≤ line then .ok (.fr (.lst p.1), p.2) else .stuck
  | .dict0, env => .ok (.fr (.dic []), env)
  | .comp own tg it cs e, env => (denI it env).bind fun p =>
      if (tgNames tg).all own.contains && own.all (fun v => !isIo p.2[v]?) then
        (noX (loopC (fun d env => bindT tg d (wipeE env own)) (denC cs) (fun env => frz (denE e env)) p.1 [] p.2)).bind fun q => .ok (.fr (.lst q.1), backE p.2 q.2 own)
      else .stuck
  | .comp2 own tg it cs tg1 it1 cs1 e, env => (denI it env).bind fun p =>
      if (tgNames tg).all own.contains && (tgNames tg1).all own.contains && own.all (fun v => !isIo p.2[v]?) then
        (noX (loopC2 (fun d env => bindT tg d (wipeE env own)) (denC cs) (fun acc env => (denI it1 env).bind fun q => loopC (fun d env => bindT tg1 d (wipeE env (tgNames tg1))) (denC cs1) (fun env => frz (denE e env)) q.1 acc q.2) p.1 [] p.2)).bind fun q => .ok (.fr (.lst q.1), backE p.2 q.2 own)
      else .stuck
  | _, _ => .stuck
def denL : Tx → Ev → Out (List D × Ev)
  | .nil, env => .ok ([], env)
  | .cons e es, env => (frz (denE e env)).bind fun p => (denL es p.2).bind fun q => .ok (p.1 :: q.1, q.2)
  | _, _ => .stuck
def denOs : Tx → Ev → Out (List Opd × Ev)
  | .nil, env => .ok ([], env)
  | .cons e es, env => (opd e (denE e) env).bind fun p => (denOs es p.2).bind fun q => .ok (p.1 :: q.1, q.2)
  | _, _ => .stuck
/-- a bound of a slice -/
def denP : Tx → Ev → Out (Option Int × Ev)
  | .nil, env => .ok (none, env)
  | .cons e _, env => (opd e (denE e) env).bind fun p => (match res p.2 p.1 with | some (.int i) => .ok (some i, p.2) | _ => .stuck)
  | _, _ => .stuck
/-- a comprehension's tests -/
def denC : Tx → Ev → Out (Bool × Ev)
  | .nil, env => .ok (true, env)
  | .cons e es, env => (tst (opd e (denE e)) env).bind fun p => if p.1 then denC es p.2 else .ok (false, p.2)
  | _, _ => .stuck
/-- what is walked -/
def denI : Tx → Ev → Out (List D × Ev)
  | .itR args, env => (denL args env).bind fun p => (match p.1 with
      | [.int j] => if decide (-(2 ^ 62) ≤ j) && decide (j < 2 ^ 62) then .ok (rangeT 0 j.toNat, p.2) else .stuck
      | [.int i, .int j] => if decide (-(2 ^ 62) ≤ i) && decide (i < 2 ^ 62) && decide (-(2 ^ 62) ≤ j) && decide (j < 2 ^ 62) then .ok (rangeT i (j - i).toNat, p.2) else .stuck
      | _ => .stuck)
  | .itZ a b, env => (frz (denE a env)).bind fun p => (frz (denE b p.2)).bind fun q => (ofO (itemsD p.1)).bind fun xs => (ofO (itemsD q.1)).bind fun ys => .ok (zipT xs ys, q.2)
  | .itE a, env => (frz (denE a env)).bind fun p => (ofO (itemsD p.1)).bind fun xs => .ok (enumT 0 xs, p.2)
  | .cons e _, env => (frz (denE e env)).bind fun p => (ofO (itemsD p.1)).bind fun xs => .ok (xs, p.2)
  | _, _ => .stuck
end

/-! ### statements -/
inductive St' where
  | nop
  | seq (a b : St')
  | ret (e : Tx)
  | expr (e : Tx)
  | asg (tg : Tx) (e : Tx)
  | par (i j : Nat) (a b : Tx)
  | setI (i : Nat) (k e : Tx)
  | set2 (i : Nat) (k : Tx) (j : Nat) (l : Tx) (a b : Tx)
  | app (i : Nat) (e : Tx)
  | ext (i : Nat) (e : Tx)
  | aug (i : Nat) (sub : Bool) (e : Tx)
  | ifs (c : Tx) (a b : St')
  | loop (tg it : Tx) (b : St')
  | whil (c : Tx) (b : St')
  | brk
  | cnt
  | raise (c : Nat)
inductive Fl where
  | next
  | brk
  | cnt
  | ret (r : R)
/-- a name gets a value -/
def asgR (i : Nat) (r : R) (env : Ev) : Out Ev :=
  if isIo env[i]? then .stuck else .ok (env.set i (match r with | .val d => .val d | .fr o => .own false o))
def loopS (bind : D → Ev → Option Ev) (body : Ev → Out (Fl × Ev)) : List D → Ev → Out (Fl × Ev)
  | [], env => .ok (.next, env)
  | d :: ds, env => (ofO (bind d env)).bind fun env => (body env).bind fun p => match p.1 with
      | .brk => .ok (.next, p.2)
      | .ret r => .ok (.ret r, p.2)
      | _ => loopS bind body ds p.2
def whileS (test : Ev → Out (Bool × Ev)) (body : Ev → Out (Fl × Ev)) : Nat → Ev → Out (Fl × Ev)
  | 0, _ => .stuck
  | n + 1, env => (test env).bind fun t => if t.1 then (body t.2).bind fun p => (match p.1 with
      | .brk => .ok (.next, p.2)
      | .ret r => .ok (.ret r, p.2)
      | _ => whileS test body n p.2) else .ok (.next, t.2)
def fuel : Nat := 100000
def denS : St' → Ev → Out (Fl × Ev)
  | .nop, env => .ok (.next, env)
  | .seq a b, env => (denS a env).bind fun p => (match p.1 with
      | .next => denS b p.2
      | f => .ok (f, p.2))
  | .ret e, env => (denE F e env).bind fun p => .ok (.ret p.1, p.2)
  | .expr e, env => (denE F e env).bind fun p => .ok (.next, p.2)
  | .asg tg e, env => (match tg with
      | .slot i => (denE F e env).bind fun p => (asgR i p.1 p.2).bind fun env => .ok (.next, env)
      | tg => (frz (denE F e env)).bind fun p => (ofO (bindT tg p.1 p.2)).bind fun env => .ok (.next, env))
  | .par i j a b, env => (denE F a env).bind fun p => (denE F b p.2).bind fun q => (asgR i p.1 q.2).bind fun env => (asgR j q.1 env).bind fun env => .ok (.next, env)
  | .setI i k e, env => if isL env[i]? then (frz (denE F e env)).bind fun p => (frz (denE F k p.2)).bind fun q => (match q.2[i]?, q.1 with
      | some (.own io (.lst ds)), .int j => (match ixAt ds.length j with
          | some j => .ok (.next, q.2.set i (.own io (.lst (ds.set j p.1))))
          | none => .stuck)
      | _, _ => .stuck) else if isDc env[i]? then (frz (denE F e env)).bind fun p => (frz (denE F k p.2)).bind fun q => (match q.2[i]? with
      | some (.own io (.dic kvs)) => if keyOk q.1 && decide (kvs.length < line) then .ok (.next, q.2.set i (.own io (.dic (dput kvs q.1 p.1)))) else .stuck
      | _ => .stuck) else .stuck
  | .set2 i k j l a b, env => if isL env[i]? && isL env[j]? then (frz (denE F (.tup (.cons a (.cons b .nil))) env)).bind fun p => (match p.1 with
      | .tuple [x, y] => (frz (denE F k p.2)).bind fun q => (match q.2[i]?, q.1 with
          | some (.own io (.lst ds)), .int n => (match ixAt ds.length n with
              | some n => (frz (denE F l (q.2.set i (.own io (.lst (ds.set n x)))))).bind fun r => (match r.2[j]?, r.1 with
                  | some (.own jo (.lst es)), .int m => (match ixAt es.length m with
                      | some m => .ok (.next, r.2.set j (.own jo (.lst (es.set m y))))
                      | none => .stuck)
                  | _, _ => .stuck)
              | none => .stuck)
          | _, _ => .stuck)
      | _ => .stuck) else .stuck
  | .app i e, env => if isL env[i]? then (frz (denE F e env)).bind fun p => (match p.2[i]? with
      | some (.own io (.lst ds)) => if ds.length < line then .ok (.next, p.2.set i (.own io (.lst (ds ++ [p.1])))) else .stuck
      | _ => .stuck) else .stuck
  | .ext i e, env => if isL env[i]? then (frz (denE F e env)).bind fun p => (match p.2[i]?, p.1 with
      | some (.own io (.lst ds)), .list es => if ds.length + es.length ≤ line then .ok (.next, p.2.set i (.own io (.lst (ds ++ es)))) else .stuck
      | _, _ => .stuck) else .stuck
  | .aug i sub e, env => (match env[i]? with
      | some (.val (.int x)) => (frz (denE F e env)).bind fun p => (match p.1 with
          | .int y => .ok (.next, p.2.set i (.val (.int (if sub then x - y else x + y))))
          | _ => .stuck)
      | _ => .stuck)
  | .ifs c a b, env => (tst (opd c (denE F c)) env).bind fun p => if p.1 then denS a p.2 else denS b p.2
  | .loop tg it b, env => (denI F it env).bind fun p => loopS (bindT tg) (denS b) p.1 p.2
  | .whil c b, env => whileS (tst (opd c (denE F c))) (denS b) fuel env
  | .brk, env => .ok (.brk, env)
  | .cnt, env => .ok (.cnt, env)
  | .raise c, env => .exn c env
end

/-! ### defs -/
structure Fn where
  np : Nat
  ns : Nat
  io : Bool
  body : St'
def runF (F : Fns) (f : Fn) (ds : List D) : Cr :=
  if f.io = false ∧ ds.length = f.np then
    match denS F f.body (ds.map .val ++ List.replicate (f.ns - f.np) .no) with
    | .ok (.ret r, _) => .ret r
    | .ok (.next, _) => .ret (.val .none)
    | .exn c _ => .exn c
    | _ => .stuck
  else .stuck
def ioOf (env : Ev) : Option Ow := match (env[0]? : Option Slot) with
  | some (.own true o) => some o
  | _ => none
def runM (F : Fns) (f : Fn) (o : Ow) (ds : List D) : CrM :=
  if f.io = true ∧ ds.length + 1 = f.np then
    match denS F f.body (.own true o :: ds.map .val ++ List.replicate (f.ns - f.np) .no) with
    | .ok (.ret r, env) => (match ioOf env with | some o => .ret r o | none => .stuck)
    | .ok (.next, env) => (match ioOf env with | some o => .ret (.val .none) o | none => .stuck)
    | .exn c env => (match ioOf env with | some o => .exn c o | none => .stuck)
    | _ => .stuck
  else .stuck
/-- the defs, calls nested at most n deep -/
def prog (T : Nat → Option Fn) : Nat → Fns
  | 0 => ⟨fun _ _ => .stuck, fun _ _ _ => .stuck⟩
  | n + 1 => ⟨fun f ds => match T f with | some fn => runF (prog T n) fn ds | none => .stuck,
      fun f o ds => match T f with | some fn => runM (prog T n) fn o ds | none => .stuck⟩
end U
end

section
namespace U
open PySem PySem.Spec PyProof.Rows L2

abbrev St := L2.St
/-- a key as data -/
def keyD : Key → D
  | .inl i => .int i
  | .inr x => .str x

/-- a key's signs -/
def kSok : Key → Bool
  | .inl _ => true
  | .inr x => sOk (tx x)

mutual
/-- the value v stands for the data d, all that is met on the way being in G (or written) -/
inductive Rp (K : PySem.W.Frag) (G : Hp) : V → D → Prop
  | non : Rp K G .non .none
  | bl (b : Bool) : Rp K G (.bl b) (.bool b)
  | int (i : Int) : Rp K G (.int i) (.int i)
  | str (x : Str) (h : sOk (tx x) = true) : Rp K G (.str x) (.str x)
  | lst {a : Addr} {xs : List V} {ds : List D} : G a = some (.lst xs) → Rps K G xs ds → Rp K G (.ref a) (.list ds)
  /-- a list that is locked, or of the module: it can be read by list(..) alone -/
  | lck {a : Addr} {xs : List V} {ds : List D} : SqL K G a xs → Rps K G xs ds → Rp K G (.ref a) (.dict [(.none, .list ds)])
  | tup {a : Addr} {xs : List V} {ds : List D} : SqT K G a xs → Rps K G xs ds → Rp K G (.ref a) (.tuple ds)
  | dic {a : Addr} {kvs : List (Key × V)} {ds : List (D × D)} : G a = some (.dK kvs) → Rpk K G kvs ds → Rp K G (.ref a) (.dict ds)
inductive Rps (K : PySem.W.Frag) (G : Hp) : List V → List D → Prop
  | nil : Rps K G [] []
  | cons {v : V} {vs : List V} {d : D} {ds : List D} : Rp K G v d → Rps K G vs ds → Rps K G (v :: vs) (d :: ds)
inductive Rpk (K : PySem.W.Frag) (G : Hp) : List (Key × V) → List (D × D) → Prop
  | nil : Rpk K G [] []
  | cons {k : Key} {v : V} {kvs : List (Key × V)} {d : D} {ds : List (D × D)} : kSok k = true → Rp K G v d → Rpk K G kvs ds → Rpk K G ((k, v) :: kvs) ((keyD k, d) :: ds)
end

theorem Rd.same {G G' : Hp} (s : Same G G') {a : Addr} {u : HO} (h : Rd G a u) : Rd G' a u := by
  rcases h with h | ⟨o, h⟩
  · exact .inl (s _ _ h)
  · exact .inr ⟨o, s _ _ h⟩
theorem sqt_same {K : PySem.W.Frag} {G G' : Hp} (s : Same G G') {a : Addr} {xs : List V} (h : SqT K G a xs) : SqT K G' a xs := by
  rcases h with h | h
  · exact .inl (Rd.same s h)
  · exact .inr h

mutual
theorem Rp.same {K : PySem.W.Frag} {G G' : Hp} (s : Same G G') : ∀ {v : V} {d : D}, Rp K G v d → Rp K G' v d
  | _, _, .non => .non
  | _, _, .bl b => .bl b
  | _, _, .int i => .int i
  | _, _, .str x h => .str x h
  | _, _, .lst h r => .lst (s _ _ h) (Rps.same s r)
  | _, _, .lck h r => .lck (s.seq h) (Rps.same s r)
  | _, _, .tup h r => .tup (sqt_same s h) (Rps.same s r)
  | _, _, .dic h r => .dic (s _ _ h) (Rpk.same s r)
theorem Rps.same {K : PySem.W.Frag} {G G' : Hp} (s : Same G G') : ∀ {vs : List V} {ds : List D}, Rps K G vs ds → Rps K G' vs ds
  | _, _, .nil => .nil
  | _, _, .cons h r => .cons (Rp.same s h) (Rps.same s r)
theorem Rpk.same {K : PySem.W.Frag} {G G' : Hp} (s : Same G G') : ∀ {vs : List (Key × V)} {ds : List (D × D)}, Rpk K G vs ds → Rpk K G' vs ds
  | _, _, .nil => .nil
  | _, _, .cons hk h r => .cons hk (Rp.same s h) (Rpk.same s r)
end
theorem Rps.length {K : PySem.W.Frag} {G : Hp} : ∀ {vs : List V} {ds : List D}, Rps K G vs ds → vs.length = ds.length
  | _, _, .nil => rfl
  | _, _, .cons _ r => by rw [List.length_cons, List.length_cons, Rps.length r]
theorem Rps.append {K : PySem.W.Frag} {G : Hp} : ∀ {vs ws : List V} {ds es : List D}, Rps K G vs ds → Rps K G ws es → Rps K G (vs ++ ws) (ds ++ es)
  | _, _, _, _, .nil, s => s
  | _, _, _, _, .cons h r, s => .cons h (Rps.append r s)
theorem Rps.get {K : PySem.W.Frag} {G : Hp} : ∀ {vs : List V} {ds : List D} {i : Nat} {d : D}, Rps K G vs ds → ds[i]? = some d → ∃ v, vs[i]? = some v ∧ Rp K G v d
  | _, _, _, _, .nil, e => by simp at e
  | _, _, 0, _, .cons h _, e => by simp at e; subst e; exact ⟨_, rfl, h⟩
  | _, _, i + 1, _, .cons _ r, e => by
    obtain ⟨v, h1, h2⟩ := Rps.get (i := i) r (by simpa using e)
    exact ⟨v, by simpa using h1, h2⟩
theorem Rps.getV {K : PySem.W.Frag} {G : Hp} : ∀ {vs : List V} {ds : List D} {i : Nat} {v : V}, Rps K G vs ds → vs[i]? = some v → ∃ d, ds[i]? = some d ∧ Rp K G v d
  | _, _, _, _, .nil, e => by simp at e
  | _, _, 0, _, .cons h _, e => by simp at e; subst e; exact ⟨_, rfl, h⟩
  | _, _, i + 1, _, .cons _ r, e => by
    obtain ⟨v, h1, h2⟩ := Rps.getV (i := i) r (by simpa using e)
    exact ⟨v, by simpa using h1, h2⟩
theorem Rps.set {K : PySem.W.Frag} {G : Hp} {v : V} {d : D} (h : Rp K G v d) : ∀ {vs : List V} {ds : List D} (i : Nat), Rps K G vs ds → Rps K G (vs.set i v) (ds.set i d)
  | _, _, _, .nil => .nil
  | _, _, 0, .cons _ r => .cons h r
  | _, _, i + 1, .cons q r => .cons q (Rps.set h i r)
theorem Rps.take {K : PySem.W.Frag} {G : Hp} : ∀ {vs : List V} {ds : List D} (i : Nat), Rps K G vs ds → Rps K G (vs.take i) (ds.take i)
  | _, _, 0, _ => .nil
  | _, _, i + 1, .nil => .nil
  | _, _, i + 1, .cons h r => .cons h (Rps.take i r)
theorem Rps.drop {K : PySem.W.Frag} {G : Hp} : ∀ {vs : List V} {ds : List D} (i : Nat), Rps K G vs ds → Rps K G (vs.drop i) (ds.drop i)
  | _, _, 0, r => r
  | _, _, i + 1, .nil => .nil
  | _, _, i + 1, .cons h r => Rps.drop i r
theorem Rps.erase {K : PySem.W.Frag} {G : Hp} : ∀ {vs : List V} {ds : List D} (i : Nat), Rps K G vs ds → Rps K G (vs.eraseIdx i) (ds.eraseIdx i)
  | _, _, _, .nil => .nil
  | _, _, 0, .cons _ r => r
  | _, _, i + 1, .cons h r => .cons h (Rps.erase i r)
theorem Rps.reverse {K : PySem.W.Frag} {G : Hp} : ∀ {vs : List V} {ds : List D}, Rps K G vs ds → Rps K G vs.reverse ds.reverse
  | _, _, .nil => .nil
  | _, _, .cons h r => by rw [List.reverse_cons, List.reverse_cons]; exact (Rps.reverse r).append (.cons h .nil)
theorem Rps.rep {K : PySem.W.Frag} {G : Hp} {vs : List V} {ds : List D} (r : Rps K G vs ds) : ∀ n : Nat, Rps K G (List.replicate n vs).flatten (List.replicate n ds).flatten
  | 0 => .nil
  | n + 1 => by simp only [List.replicate_succ, List.flatten_cons]; exact r.append (Rps.rep r n)
theorem Rps.nil_iff {K : PySem.W.Frag} {G : Hp} {vs : List V} {ds : List D} (r : Rps K G vs ds) : vs = [] ↔ ds = [] := by
  cases r <;> simp

mutual
theorem Rp.dp {K : PySem.W.Frag} {G : Hp} : ∀ {v : V} {d : D}, Rp K G v d → noDict d = true → Dp K G v d
  | _, _, .non, _ => .non
  | _, _, .bl b, _ => .bl b
  | _, _, .int i, _ => .int i
  | _, _, .str x _, _ => .str x
  | _, _, .lst h r, e => .lst (.inl (.inl h)) (Rps.dp r (by simpa [noDict] using e))
  | _, _, .lck h r, e => by simp [noDict] at e
  | _, _, .tup h r, e => .tup h (Rps.dp r (by simpa [noDict] using e))
  | _, _, .dic h r, e => by simp [noDict] at e
theorem Rps.dp {K : PySem.W.Frag} {G : Hp} : ∀ {vs : List V} {ds : List D}, Rps K G vs ds → noDicts ds = true → DpAll K G vs ds
  | _, _, .nil, _ => .nil
  | _, _, .cons h r, e => by
    simp only [noDicts, Bool.and_eq_true] at e
    exact .cons (Rp.dp h e.1) (Rps.dp r e.2)
end

/-- the object at a is what o says; its items are in G -/
def OwAt (K : PySem.W.Frag) (G H : Hp) (a : Addr) : Ow → Prop
  | .lst ds => ∃ vs, H a = some (.lst vs) ∧ Rps K G vs ds
  | .dic ds => ∃ kvs, H a = some (.dK kvs) ∧ Rpk K G kvs ds
/-- what holds of the whole body: the entry -/
structure Bs where
  H0 : Hp
  G0 : Hp
  M : Option Addr

structure Rel (K : PySem.W.Frag) (B : Bs) (env : Ev) (σ : St) (H G : Hp) : Prop where
  len : σ.length = env.length
  val : ∀ (i : Nat) (d : D), env[i]? = some (.val d) → ∃ v, σ[i]? = some (some v) ∧ Rp K G v d
  own : ∀ (i : Nat) (io : Bool) (o : Ow), env[i]? = some (.own io o) → ∃ a, σ[i]? = some (some (.ref a)) ∧ G a = none ∧ OwAt K G H a o ∧ (if io = true then B.M = some a ∧ i = 0 else B.H0 a = none)
  dis : ∀ (i j : Nat) (io jo : Bool) (o p : Ow) (a : Addr), env[i]? = some (.own io o) → env[j]? = some (.own jo p) → σ[i]? = some (some (.ref a)) → σ[j]? = some (some (.ref a)) → i = j
  sub : Same G H
  g0 : Same B.G0 G
  kept : ∀ a o, B.H0 a = some o → B.M ≠ some a → H a = some o ∧ G a = B.G0 a
  m : ∀ a, B.M = some a → σ[0]? = some (some (.ref a)) ∧ ∃ o, env[0]? = some (.own true o)

/-- a is owned by a slot -/
def Owned (env : Ev) (σ : St) (a : Addr) : Prop := ∃ (i : Nat) (io : Bool) (o : Ow), env[i]? = some (.own io o) ∧ σ[i]? = some (some (.ref a))

/-- what an expression leaves as it was -/
structure Keep (env : Ev) (σ : St) (H G : Hp) (env' : Ev) (H' G' : Hp) : Prop where
  heap : ∀ a o, H a = some o → ¬ Owned env σ a → H' a = some o ∧ G' a = G a
  dom : ∀ a, H a ≠ none → H' a ≠ none
  sub : Same G G'
  ownle : ∀ (i : Nat) (io : Bool) (o : Ow), env'[i]? = some (.own io o) → ∃ o', env[i]? = some (.own io o')
  vals : ∀ (i : Nat) (d : D), env[i]? = some (.val d) → env'[i]? = some (.val d)

theorem Owned.le {env env' : Ev} {σ : St} {a : Addr} (k : ∀ (i : Nat) (io : Bool) (o : Ow), env'[i]? = some (.own io o) → ∃ o', env[i]? = some (.own io o')) (h : Owned env' σ a) : Owned env σ a := by
  obtain ⟨i, io, o, e, s⟩ := h
  obtain ⟨o', e'⟩ := k i io o e
  exact ⟨i, io, o', e', s⟩
theorem Keep.refl {env : Ev} {σ : St} {H G : Hp} : Keep env σ H G env H G :=
  ⟨fun _ _ h _ => ⟨h, rfl⟩, fun _ h => h, Same.refl _, fun _ _ o h => ⟨o, h⟩, fun _ _ h => h⟩
theorem Keep.trans {e0 e1 e2 : Ev} {σ : St} {H0 H1 H2 G0 G1 G2 : Hp} (a : Keep e0 σ H0 G0 e1 H1 G1) (b : Keep e1 σ H1 G1 e2 H2 G2) : Keep e0 σ H0 G0 e2 H2 G2 where
  heap := fun c o h n => by
    obtain ⟨h1, g1⟩ := a.heap c o h n
    obtain ⟨h2, g2⟩ := b.heap c o h1 (fun q => n (q.le a.ownle))
    exact ⟨h2, g2.trans g1⟩
  dom := fun c h => b.dom c (a.dom c h)
  sub := a.sub.trans b.sub
  ownle := fun i io o h => by
    obtain ⟨o1, h1⟩ := b.ownle i io o h
    exact a.ownle i io o1 h1
  vals := fun i d h => b.vals i d (a.vals i d h)

theorem same_upd {H : Hp} {p : Addr} {o : HO} (h : H p = none) : Same H (upd H p o) := fun b x e => by
  rw [upd_ne (ne_of_none e h)]; exact e

theorem OwAt.mono {K : PySem.W.Frag} {G G' H H' : Hp} {a : Addr} {o : Ow} (h : OwAt K G H a o) (g : Same G G') (e : ∀ u, H a = some u → H' a = some u) : OwAt K G' H' a o := by
  cases o with
  | lst ds => obtain ⟨vs, h1, h2⟩ := h; exact ⟨vs, e _ h1, h2.same g⟩
  | dic ds => obtain ⟨vs, h1, h2⟩ := h; exact ⟨vs, e _ h1, h2.same g⟩
theorem OwAt.some {K : PySem.W.Frag} {G H : Hp} {a : Addr} {o : Ow} (h : OwAt K G H a o) : ∃ u, H a = some u := by
  cases o with
  | lst ds => obtain ⟨vs, h1, h2⟩ := h; exact ⟨_, h1⟩
  | dic ds => obtain ⟨vs, h1, h2⟩ := h; exact ⟨_, h1⟩
theorem OwAt.rp {K : PySem.W.Frag} {G H : Hp} {a : Addr} {o : Ow} (h : OwAt K G H a o) (g : Same G H) {G' : Hp} (s : Same G G') (e : G' a = H a) : Rp K G' (.ref a) o.toD := by
  cases o with
  | lst ds => obtain ⟨vs, h1, h2⟩ := h; exact .lst (e.trans h1) (h2.same s)
  | dic ds => obtain ⟨vs, h1, h2⟩ := h; exact .dic (e.trans h1) (h2.same s)

section
variable {K : PySem.W.Frag} {B : Bs} {env : Ev} {σ : St} {H G : Hp}
/-- a new object in the heap, not (yet) in G -/
theorem Rel.alloc (r : Rel K B env σ H G) {p : Addr} {u : HO} (hp : H p = none) : Rel K B env σ (upd H p u) G where
  len := r.len
  val := r.val
  own := fun i io o e => by
    obtain ⟨a, h1, h2, h3, h4⟩ := r.own i io o e
    exact ⟨a, h1, h2, h3.mono (Same.refl _) (fun u h => same_upd hp _ _ h), h4⟩
  dis := r.dis
  sub := r.sub.trans (same_upd hp)
  g0 := r.g0
  kept := fun a o h n => by
    obtain ⟨h1, h2⟩ := r.kept a o h n
    exact ⟨same_upd hp _ _ h1, h2⟩
  m := r.m
theorem Keep.alloc {p : Addr} {u : HO} (hp : H p = none) : Keep env σ H G env (upd H p u) G :=
  ⟨fun a o h _ => ⟨same_upd hp _ _ h, rfl⟩, fun a h => by
    cases q : H a with
    | none => exact absurd q h
    | some o => rw [same_upd hp _ _ q]; simp, Same.refl _, fun _ _ o h => ⟨o, h⟩, fun _ _ h => h⟩
/-- an object of the heap that nobody owns goes into G -/
theorem Rel.freeze (r : Rel K B env σ H G) {p : Addr} {u : HO} (hp : H p = some u) (hg : G p = none) (no : ¬ Owned env σ p) (h0 : B.H0 p = none) : Rel K B env σ H (upd G p u) where
  len := r.len
  val := fun i d e => by
    obtain ⟨v, h1, h2⟩ := r.val i d e
    exact ⟨v, h1, h2.same (same_upd hg)⟩
  own := fun i io o e => by
    obtain ⟨a, h1, h2, h3, h4⟩ := r.own i io o e
    have ne : a ≠ p := fun q => no ⟨i, io, o, e, q ▸ h1⟩
    exact ⟨a, h1, by rw [upd_ne ne]; exact h2, h3.mono (same_upd hg) (fun u h => h), h4⟩
  dis := r.dis
  sub := fun b o e => by
    by_cases q : b = p
    · subst q; rw [upd_same] at e; cases e; exact hp
    · rw [upd_ne q] at e; exact r.sub _ _ e
  g0 := r.g0.trans (same_upd hg)
  kept := fun a o h n => by
    obtain ⟨h1, h2⟩ := r.kept a o h n
    have ne : a ≠ p := fun q => by rw [q, h0] at h; cases h
    exact ⟨h1, by rw [upd_ne ne]; exact h2⟩
  m := r.m
/-- both at once: a new object that is kept -/
theorem Rel.put (r : Rel K B env σ H G) {p : Addr} {u : HO} (hp : H p = none) : Rel K B env σ (upd H p u) (upd G p u) := by
  have hg : G p = none := r.sub.free hp
  refine (r.alloc hp).freeze upd_same hg (fun ⟨i, io, o, e, s⟩ => ?_) ?_
  · obtain ⟨a, h1, h2, h3, h4⟩ := r.own i io o e
    rw [s] at h1; cases h1
    obtain ⟨w, hw⟩ := h3.some
    rw [hp] at hw; cases hw
  · cases q : B.H0 p with
    | none => rfl
    | some o =>
      by_cases hm : B.M = some p
      · obtain ⟨h1, o', h2⟩ := r.m p hm
        obtain ⟨a, h3, _, h5, _⟩ := r.own 0 true o' h2
        rw [h1] at h3; cases h3
        obtain ⟨w, hw⟩ := h5.some
        rw [hp] at hw; cases hw
      · have := (r.kept p o q hm).1
        rw [hp] at this; cases this
theorem Keep.put {p : Addr} {u : HO} (hp : H p = none) (hg : G p = none) : Keep env σ H G env (upd H p u) (upd G p u) :=
  ⟨fun a o h _ => ⟨same_upd hp _ _ h, upd_ne (ne_of_none h hp)⟩, fun a h => by
    cases q : H a with
    | none => exact absurd q h
    | some o => rw [same_upd hp _ _ q]; simp, same_upd hg, fun _ _ o h => ⟨o, h⟩, fun _ _ h => h⟩
theorem Rel.h0free (r : Rel K B env σ H G) {p : Addr} (hp : H p = none) : B.H0 p = none := by
  cases q : B.H0 p with
  | none => rfl
  | some o =>
    by_cases hm : B.M = some p
    · obtain ⟨h1, o', h2⟩ := r.m p hm
      obtain ⟨a, h3, _, h5, _⟩ := r.own 0 true o' h2
      rw [h1] at h3; cases h3
      obtain ⟨w, hw⟩ := h5.some
      rw [hp] at hw; cases hw
    · have := (r.kept p o q hm).1
      rw [hp] at this; cases this
/-- an owned slot is given up: its object goes into G -/
theorem Rel.giveup (r : Rel K B env σ H G) {i : Nat} {o : Ow} (e : env[i]? = some (.own false o)) :
    ∃ a G', σ[i]? = some (some (.ref a)) ∧ Rel K B (env.set i (.val o.toD)) σ H G' ∧ Rp K G' (.ref a) o.toD ∧ Keep env σ H G (env.set i (.val o.toD)) H G' := by
  obtain ⟨a, h1, h2, h3, h4⟩ := r.own i false o e
  obtain ⟨u, hu⟩ := h3.some
  have h4 : B.H0 a = none := by simpa using h4
  have hi : i < env.length := (List.getElem?_eq_some_iff.mp e).1
  have sg := same_upd (H := G) (p := a) (o := u) h2
  have rp : Rp K (upd G a u) (.ref a) o.toD := h3.rp r.sub sg (by rw [upd_same, hu])
  have look : ∀ (j : Nat) (x : Slot), (env.set i (.val o.toD))[j]? = some x → (j = i ∧ x = .val o.toD) ∨ (j ≠ i ∧ env[j]? = some x) := fun j x q => by
    by_cases hj : i = j
    · subst hj
      rw [List.getElem?_set_self hi] at q
      exact .inl ⟨rfl, (Option.some.inj q).symm⟩
    · rw [List.getElem?_set_ne hj] at q
      exact .inr ⟨fun z => hj z.symm, q⟩
  refine ⟨a, upd G a u, h1, ⟨?_, ?_, ?_, ?_, ?_, ?_, ?_, ?_⟩, rp, ?_⟩
  · rw [List.length_set]; exact r.len
  · intro j d q
    rcases look j _ q with ⟨rfl, z⟩ | ⟨_, q⟩
    · cases z; exact ⟨_, h1, rp⟩
    · obtain ⟨v, q1, q2⟩ := r.val j d q
      exact ⟨v, q1, q2.same sg⟩
  · intro j jo p q
    rcases look j _ q with ⟨_, z⟩ | ⟨hj, q⟩
    · cases z
    · obtain ⟨b, q1, q2, q3, q4⟩ := r.own j jo p q
      have ne : b ≠ a := fun z => hj (r.dis j i jo false p o a q e (z ▸ q1) h1)
      exact ⟨b, q1, by rw [upd_ne ne]; exact q2, q3.mono sg (fun _ h => h), q4⟩
  · intro j k jo ko p q b e1 e2
    rcases look j _ e1 with ⟨_, z⟩ | ⟨hj, e1⟩
    · cases z
    · rcases look k _ e2 with ⟨_, z⟩ | ⟨hk, e2⟩
      · cases z
      · exact r.dis j k jo ko p q b e1 e2
  · intro b v q
    by_cases z : b = a
    · subst z; rw [upd_same] at q; cases q; exact hu
    · rw [upd_ne z] at q; exact r.sub _ _ q
  · exact r.g0.trans sg
  · intro b v q n
    obtain ⟨q1, q2⟩ := r.kept b v q n
    have ne : b ≠ a := fun z => by rw [z, h4] at q; cases q
    exact ⟨q1, by rw [upd_ne ne]; exact q2⟩
  · intro b q
    obtain ⟨q1, p, q2⟩ := r.m b q
    refine ⟨q1, p, ?_⟩
    have ne : i ≠ 0 := fun z => by
      subst z
      rw [q2] at e; cases e
    rw [List.getElem?_set_ne ne]; exact q2
  · refine ⟨fun b v q n => ⟨q, upd_ne fun z => n ⟨i, false, o, e, z ▸ h1⟩⟩, fun _ h => h, sg, fun j jo p q => ?_, fun j d q => ?_⟩
    · rcases look j _ q with ⟨_, z⟩ | ⟨_, q⟩
      · cases z
      · exact ⟨p, q⟩
    · have ne : i ≠ j := fun z => by subst z; rw [e] at q; cases q
      rw [List.getElem?_set_ne ne]; exact q
/-- an owned object is written -/
theorem Rel.write (r : Rel K B env σ H G) {i : Nat} {io : Bool} {o o' : Ow} {u : HO} {a : Addr} (e : env[i]? = some (.own io o)) (ha : σ[i]? = some (some (.ref a))) (w : OwAt K G (upd H a u) a o') :
    Rel K B (env.set i (.own io o')) σ (upd H a u) G ∧ Keep env σ H G (env.set i (.own io o')) (upd H a u) G := by
  obtain ⟨b, h1, h2, h3, h4⟩ := r.own i io o e
  have hab : b = a := by rw [ha] at h1; cases h1; rfl
  subst hab
  have hi : i < env.length := (List.getElem?_eq_some_iff.mp e).1
  have look : ∀ (j : Nat) (x : Slot), (env.set i (.own io o'))[j]? = some x → (j = i ∧ x = .own io o') ∨ (j ≠ i ∧ env[j]? = some x) := fun j x q => by
    by_cases hj : i = j
    · subst hj
      rw [List.getElem?_set_self hi] at q
      exact .inl ⟨rfl, (Option.some.inj q).symm⟩
    · rw [List.getElem?_set_ne hj] at q
      exact .inr ⟨fun z => hj z.symm, q⟩
  refine ⟨⟨?_, ?_, ?_, ?_, ?_, r.g0, ?_, ?_⟩, ?_⟩
  · rw [List.length_set]; exact r.len
  · intro j d q
    rcases look j _ q with ⟨_, z⟩ | ⟨_, q⟩
    · cases z
    · exact r.val j d q
  · intro j jo p q
    rcases look j _ q with ⟨rfl, z⟩ | ⟨hj, q⟩
    · cases z; exact ⟨b, ha, h2, w, h4⟩
    · obtain ⟨c, q1, q2, q3, q4⟩ := r.own j jo p q
      have ne : c ≠ b := fun z => hj (r.dis j i jo io p o b q e (z ▸ q1) ha)
      exact ⟨c, q1, q2, q3.mono (Same.refl _) (fun _ h => by rw [upd_ne ne]; exact h), q4⟩
  · intro j k jo ko p q c e1 e2
    rcases look j _ e1 with ⟨rfl, z⟩ | ⟨hj, f1⟩
    · rcases look k _ e2 with ⟨rfl, z'⟩ | ⟨hk, f2⟩
      · intros; rfl
      · exact r.dis j k io ko o q c e f2
    · rcases look k _ e2 with ⟨rfl, z'⟩ | ⟨hk, f2⟩
      · exact r.dis j k jo io p o c f1 e
      · exact r.dis j k jo ko p q c f1 f2
  · intro c v q
    have ne : c ≠ b := fun z => by rw [z, h2] at q; cases q
    rw [upd_ne ne]; exact r.sub _ _ q
  · intro c v q n
    obtain ⟨q1, q2⟩ := r.kept c v q n
    have ne : c ≠ b := fun z => by
      subst z
      cases io with
      | true => exact n (by simpa using h4.1)
      | false => simp [q] at h4
    exact ⟨by rw [upd_ne ne]; exact q1, q2⟩
  · intro c q
    obtain ⟨q1, p, q2⟩ := r.m c q
    refine ⟨q1, ?_⟩
    by_cases z : i = 0
    · subst z
      rw [q2] at e; cases e
      exact ⟨o', List.getElem?_set_self hi⟩
    · exact ⟨p, by rw [List.getElem?_set_ne z]; exact q2⟩
  · refine ⟨fun c v q n => ?_, fun c q => ?_, Same.refl _, fun j jo p q => ?_, fun j d q => ?_⟩
    · have ne : c ≠ b := fun z => n ⟨i, io, o, e, z ▸ ha⟩
      exact ⟨by rw [upd_ne ne]; exact q, rfl⟩
    · by_cases z : c = b
      · subst z; rw [upd_same]; simp
      · rw [upd_ne z]; exact q
    · rcases look j _ q with ⟨rfl, z⟩ | ⟨_, q⟩
      · cases z; exact ⟨o, e⟩
      · exact ⟨p, q⟩
    · have ne : i ≠ j := fun z => by subst z; rw [e] at q; cases q
      rw [List.getElem?_set_ne ne]; exact q
end
end U
end

section
namespace U
open PySem PySem.Spec PyProof.Rows L2

/-! ### consequence -/
section
variable {X : Cx} {e : Expr}
theorem pe_imp {t t' : TE} (h : PE X e t) (i : ∀ σ H Q, t' σ H Q → t σ H Q) : PE X e t' := ⟨fun pins s σ H Q I q => h.run pins s σ H Q I (i _ _ _ q)⟩
theorem pt_imp {t t' : TT} (h : PT X e t) (i : ∀ σ H Q, t' σ H Q → t σ H Q) : PT X e t' := ⟨fun pins s σ H Q I q => h.run pins s σ H Q I (i _ _ _ q)⟩
theorem pw_imp {t t' : TT} (h : PW X e t) (i : ∀ σ H Q, t' σ H Q → t σ H Q) : PW X e t' := ⟨fun wh pins s σ H Q I q => h.run wh pins s σ H Q I (i _ _ _ q)⟩
theorem pa_imp {es : List Expr} {t t' : TA} (h : PA X es t) (i : ∀ σ H Q, t' σ H Q → t σ H Q) : PA X es t' := ⟨fun pos pins s σ H Q I q => h.run pos pins s σ H Q I (i _ _ _ q)⟩
theorem pi_imp {tg : Expr} {t t' : TI} (h : PI X tg e t) (i : ∀ σ H Q, t' σ H Q → t σ H Q) : PI X tg e t' := ⟨fun pins s σ H Q I q => h.run pins s σ H Q I (i _ _ _ q)⟩
theorem pg_imp {t t' : TG} (h : PG X e t) (i : ∀ v σ H Q, t' v σ H Q → t v σ H Q) : PG X e t' := ⟨fun pins s σ H v u Q I r q => h.run pins s σ H v u Q I r (i _ _ _ _ q)⟩
theorem pgs_imp {es : List Expr} {t t' : TGs} (h : PGs X es t) (i : ∀ v σ H Q, t' v σ H Q → t v σ H Q) : PGs X es t' := ⟨fun pins s σ H v u Q I r q => h.run pins s σ H v u Q I r (i _ _ _ _ q)⟩
theorem ps_imp {st : Stmt} {t t' : TS} (h : PS X st t) (i : ∀ D σ H, t' D σ H → t D σ H) : PS X st t' := ⟨fun pins s σ H Q I q => h.run pins s σ H Q I (i _ _ _ q)⟩
theorem pss_imp {st : List Stmt} {t t' : TS} (h : PSs X st t) (i : ∀ D σ H, t' D σ H → t D σ H) : PSs X st t' := ⟨fun pins s σ H Q I q => h.run pins s σ H Q I (i _ _ _ q)⟩
theorem pts_imp {es : List Expr} {t t' : TT} (h : PTs X es t) (i : ∀ σ H Q, t' σ H Q → t σ H Q) : PTs X es t' := ⟨fun pins s σ H Q I q => h.run pins s σ H Q I (i _ _ _ q)⟩
end

/-! ### the uniform reading -/
/-- what is wanted of an exception of the class with the number c -/
abbrev XW := Nat → St → Hp → Prop
/-- how a result of the evaluator lies in the heap: the slots, the heap ahead, the heap behind, what is kept of it -/
structure RT (α β : Type) where
  r : St → Hp → Hp → Hp → α → β → Prop
  mono : ∀ {σ : St} {H H1 H' G' : Hp} {a : α} {b : β}, (∀ c, H c ≠ none → H1 c ≠ none) → r σ H1 H' G' a b → r σ H H' G' a b

def End {α β : Type} (K : PySem.W.Frag) (W : XW) (ρ : RT α β) (B : Bs) (env : Ev) (σ : St) (H G : Hp) (Q : β → Hp → Prop) : Out (α × Ev) → Prop
  | .ok p => ∀ b H' G', Rel K B p.2 σ H' G' → Keep env σ H G p.2 H' G' → ρ.r σ H H' G' p.1 b → Q b H'
  | .exn c env' => ∀ H' G', Rel K B env' σ H' G' → Keep env σ H G env' H' G' → W c σ H'
  | .stuck => False
def uG {α β : Type} (K : PySem.W.Frag) (W : XW) (ρ : RT α β) (f : Ev → Out (α × Ev)) : St → Hp → (β → Hp → Prop) → Prop := fun σ H Q =>
  ∃ B env G, Rel K B env σ H G ∧ End K W ρ B env σ H G Q (f env)

theorem End.later {α β : Type} {K : PySem.W.Frag} {W : XW} {ρ : RT α β} {B : Bs} {env env1 : Ev} {σ : St} {H G H1 G1 : Hp} {Q : β → Hp → Prop} {o : Out (α × Ev)}
    (h : End K W ρ B env σ H G Q o) (k : Keep env σ H G env1 H1 G1) : End K W ρ B env1 σ H1 G1 Q o := by
  cases o with
  | ok p => exact fun b H' G' r' k' q => h b H' G' r' (k.trans k') (ρ.mono k.dom q)
  | exn c env' => exact fun H' G' r' k' => h H' G' r' (k.trans k')
  | stuck => exact h
/-- one part, then the rest -/
theorem step {α β γ δ : Type} {K : PySem.W.Frag} {W : XW} {ρ : RT α β} {ρ' : RT γ δ} {B : Bs} {env : Ev} {σ : St} {H G : Hp} {Q : δ → Hp → Prop} {Q1 : β → Hp → Prop} {f : Ev → Out (α × Ev)} {g : α × Ev → Out (γ × Ev)}
    (r : Rel K B env σ H G) (h : End K W ρ' B env σ H G Q ((f env).bind g))
    (next : ∀ p b H1 G1, f env = .ok p → Rel K B p.2 σ H1 G1 → Keep env σ H G p.2 H1 G1 → ρ.r σ H H1 G1 p.1 b → End K W ρ' B p.2 σ H1 G1 Q (g p) → Q1 b H1) : uG K W ρ f σ H Q1 := by
  refine ⟨B, env, G, r, ?_⟩
  cases e : f env with
  | ok p =>
    rw [e] at h
    exact fun b H1 G1 r1 k1 q => next p b H1 G1 e r1 k1 q (End.later h k1)
  | exn c env' => rw [e] at h; exact h
  | stuck => rw [e] at h; exact h

section
variable (K : PySem.W.Frag)
def RV (H H' G' : Hp) : R → V → Prop
  | .val d, v => Rp K G' v d
  | .fr o, v => ∃ a, v = .ref a ∧ H a = none ∧ G' a = none ∧ OwAt K G' H' a o
def rE : RT R V where
  r := fun _ H H' G' a b => RV K H H' G' a b
  mono := fun {σ H H1 H' G' a b} m h => by
    cases a with
    | val d => exact h
    | fr o =>
      obtain ⟨a, h1, h2, h3, h4⟩ := h
      refine ⟨a, h1, ?_, h3, h4⟩
      cases q : H a with
      | none => rfl
      | some u => exact absurd h2 (m a (by rw [q]; simp))
def rV : RT D V := ⟨fun _ _ _ G' a b => Rp K G' b a, fun _ h => h⟩
def OpV (σ : St) (G' : Hp) : Opd → V → Prop
  | .val d, v => Rp K G' v d
  | .slot i, v => σ[i]? = some (some v)
def rO : RT Opd V := ⟨fun σ _ _ G' a b => OpV K σ G' a b, fun _ h => h⟩
def rB {α : Type} : RT α α := ⟨fun _ _ _ _ a b => a = b, fun _ h => h⟩
def rL : RT (List D) (List V) := ⟨fun _ _ _ G' a b => Rps K G' b a, fun _ h => h⟩
def OpVs (σ : St) (G' : Hp) : List Opd → List V → Prop
  | [], vs => vs = []
  | o :: os, vs => ∃ v ws, vs = v :: ws ∧ OpV K σ G' o v ∧ OpVs σ G' os ws
def rOs : RT (List Opd) (List V) := ⟨fun σ _ _ G' a b => OpVs K σ G' a b, fun _ h => h⟩
end

/-! ### views -/
section
variable {K : PySem.W.Frag} {B : Bs} {env : Ev} {σ : St} {H G : Hp}
/-- v is to be read as d now -/
def Vw (K : PySem.W.Frag) (G H : Hp) (v : V) (d : D) : Prop := Rp K G v d ∨ ∃ a o, v = .ref a ∧ OwAt K G H a o ∧ d = o.toD
theorem OpV.keep {σ : St} {G1 : Hp} {o : Opd} {v : V} (h : OpV K σ G o v) (s : Same G G1) : OpV K σ G1 o v := by
  cases o with
  | val d => exact Rp.same s h
  | slot i => exact h
theorem OpVs.keep {σ : St} {G1 : Hp} : ∀ {os : List Opd} {vs : List V}, OpVs K σ G os vs → Same G G1 → OpVs K σ G1 os vs
  | [], _, h, _ => h
  | _ :: _, _, ⟨v, ws, e, h1, h2⟩, s => ⟨v, ws, e, h1.keep s, OpVs.keep h2 s⟩
theorem OpV.view (r : Rel K B env σ H G) {o : Opd} {v : V} {d : D} (h : OpV K σ G o v) (e : res env o = some d) : Vw K G H v d := by
  cases o with
  | val d' => cases e; exact .inl h
  | slot i =>
    have h : σ[i]? = some (some v) := h
    have e : env[i]?.bind slotD = some d := e
    cases q : env[i]? with
    | none => rw [q] at e; cases e
    | some x =>
      rw [q] at e
      cases x with
      | no => cases e
      | val d' =>
        cases e
        obtain ⟨w, h1, h2⟩ := r.val i d q
        rw [h] at h1; cases h1
        exact .inl h2
      | own io p =>
        cases e
        obtain ⟨a, h1, h2, h3, h4⟩ := r.own i io p q
        rw [h] at h1; cases h1
        exact .inr ⟨a, p, rfl, h3, rfl⟩
def Vws (K : PySem.W.Frag) (G H : Hp) : List V → List D → Prop
  | [], ds => ds = []
  | v :: vs, ds => ∃ d es, ds = d :: es ∧ Vw K G H v d ∧ Vws K G H vs es
theorem OpVs.view (r : Rel K B env σ H G) : ∀ {os : List Opd} {vs : List V} {ds : List D}, OpVs K σ G os vs → resAll env os = some ds → Vws K G H vs ds
  | [], _, _, h, e => by
    cases h; cases e; rfl
  | o :: os, _, ds, ⟨v, ws, e1, h1, h2⟩, e => by
    subst e1
    have e : ((res env o).bind fun d => (resAll env os).bind fun ds => some (d :: ds)) = some ds := e
    cases q : res env o with
    | none => rw [q] at e; cases e
    | some d =>
      rw [q] at e
      cases q' : resAll env os with
      | none => simp [q'] at e
      | some es =>
        simp [q'] at e
        exact ⟨d, es, e.symm, h1.view r q, OpVs.view r h2 q'⟩
theorem Vw.list {v : V} {ds : List D} (g : Same G H) (h : Vw K G H v (.list ds)) : ∃ a vs, v = .ref a ∧ H a = some (.lst vs) ∧ Rps K G vs ds := by
  rcases h with h | ⟨a, o, e, h, e2⟩
  · cases h with
    | lst h r => exact ⟨_, _, rfl, g _ _ h, r⟩
  · cases o with
    | lst es => cases e2; obtain ⟨vs, h1, h2⟩ := h; exact ⟨a, vs, e, h1, h2⟩
    | dic es => cases e2
theorem Vw.tup {v : V} {ds : List D} (g : Same G H) (h : Vw K G H v (.tuple ds)) : ∃ a vs, v = .ref a ∧ SqT K H a vs ∧ Rps K G vs ds ∧ Rp K G v (.tuple ds) := by
  rcases h with h | ⟨a, o, e, h, e2⟩
  · cases h with
    | tup h r => exact ⟨_, _, rfl, sqt_same g h, r, .tup h r⟩
  · cases o with
    | lst es => cases e2
    | dic es => cases e2
theorem Vw.int {v : V} {i : Int} (h : Vw K G H v (.int i)) : v = .int i := by
  rcases h with h | ⟨a, o, e, h, e2⟩
  · cases h; rfl
  · cases o <;> cases e2
theorem Vw.bool {v : V} {i : Bool} (h : Vw K G H v (.bool i)) : v = .bl i := by
  rcases h with h | ⟨a, o, e, h, e2⟩
  · cases h; rfl
  · cases o <;> cases e2
theorem Vw.none {v : V} (h : Vw K G H v .none) : v = .non := by
  rcases h with h | ⟨a, o, e, h, e2⟩
  · cases h; rfl
  · cases o <;> cases e2
theorem Vw.str {v : V} {x : Str} (h : Vw K G H v (.str x)) : v = .str x ∧ sOk (tx x) = true := by
  rcases h with h | ⟨a, o, e, h, e2⟩
  · cases h with
    | str _ q => exact ⟨rfl, q⟩
  · cases o <;> cases e2
/-- the whole as data, read in H -/
theorem Vw.dp {v : V} {d : D} (g : Same G H) (h : Vw K G H v d) (nd : noDict d = true) : Dp K H v d := by
  rcases h with h | ⟨a, o, e, h, e2⟩
  · exact (h.same g).dp nd
  · subst e2 e
    cases o with
    | lst es =>
      obtain ⟨vs, h1, h2⟩ := h
      exact .lst (.inl (.inl h1)) ((h2.same g).dp (by simpa [noDict, Ow.toD] using nd))
    | dic es => simp [noDict, Ow.toD] at nd
end

/-! ### what an operation by values makes -/
section
variable {K : PySem.W.Frag} {B : Bs} {env : Ev} {σ : St} {H G : Hp}
/-- the result of an operation by values at H, G: v in H', G' -/
def New (K : PySem.W.Frag) (H G : Hp) (r : Rs) (v : V) (H' G' : Hp) : Prop := match r with
  | .val d => H' = H ∧ G' = G ∧ Rp K G v d
  | .fr o => ∃ p u, v = .ref p ∧ H p = none ∧ H' = upd H p u ∧ G' = G ∧ OwAt K G (upd H p u) p o
  | .nt ds => ∃ p vs, v = .ref p ∧ H p = none ∧ H' = upd H p (.tup vs) ∧ G' = upd G p (.tup vs) ∧ Rps K G vs ds
theorem New.fin {r : Rs} {v : V} {H' G' : Hp} (rl : Rel K B env σ H G) (n : New K H G r v H' G') :
    Rel K B env σ H' G' ∧ Keep env σ H G env H' G' ∧ RV K H H' G' r.toR v := by
  cases r with
  | val d =>
    obtain ⟨rfl, rfl, h⟩ := n
    exact ⟨rl, Keep.refl, h⟩
  | fr o =>
    obtain ⟨p, u, rfl, hp, rfl, rfl, h⟩ := n
    exact ⟨rl.alloc hp, Keep.alloc hp, p, rfl, hp, rl.sub.free hp, h⟩
  | nt ds =>
    obtain ⟨p, vs, rfl, hp, rfl, rfl, h⟩ := n
    have hg := rl.sub.free hp
    exact ⟨rl.put hp, Keep.put hp hg, .tup (.inl (.inl upd_same)) (h.same (same_upd hg))⟩
theorem Keep.frz {env' : Ev} {H' G' : Hp} (k : Keep env σ H G env' H' G') {a : Addr} {u : HO} (ha : H a = none) (hg : G' a = none) : Keep env σ H G env' H' (upd G' a u) :=
  ⟨fun c o h n => by
    obtain ⟨h1, h2⟩ := k.heap c o h n
    exact ⟨h1, by rw [upd_ne (ne_of_none h ha)]; exact h2⟩, k.dom, k.sub.trans (same_upd hg), k.ownle, k.vals⟩
/-- a result is kept -/
theorem RV.keep {env' : Ev} {H' G' : Hp} {r : R} {v : V} (rl : Rel K B env σ H G) (rl' : Rel K B env' σ H' G') (k : Keep env σ H G env' H' G') (h : RV K H H' G' r v) :
    ∃ G'', Rel K B env' σ H' G'' ∧ Keep env σ H G env' H' G'' ∧ Rp K G'' v r.toD := by
  cases r with
  | val d => exact ⟨G', rl', k, h⟩
  | fr o =>
    obtain ⟨a, rfl, ha, hg, w⟩ := h
    obtain ⟨u, hu⟩ := w.some
    refine ⟨upd G' a u, rl'.freeze hu hg ?_ (rl.h0free ha), k.frz ha hg, w.rp rl'.sub (same_upd hg) (by rw [upd_same, hu])⟩
    rintro ⟨i, io, o', e, s⟩
    obtain ⟨o'', e''⟩ := k.ownle i io o' e
    obtain ⟨b, h1, _, h3, _⟩ := rl.own i io o'' e''
    rw [s] at h1; cases h1
    obtain ⟨w, hw⟩ := h3.some
    rw [ha] at hw; cases hw
end

/-! ### the judgements -/
section
variable (X : Cx) (W : XW) (F : Fns)
structure U3 (x : Tx) (e : Expr) : Prop where
  E : PE X e (uG X.K W (rE X.K) (denE F x))
  O : PE X e (uG X.K W (rO X.K) (opd x (denE F x)))
  T : noT x = false → PT X e (uG X.K W rB (tst (opd x (denE F x))))
end
end U
end

section
namespace U
open PySem PySem.Spec PyProof.Rows L2

theorem Rpk.len {K : PySem.W.Frag} {G : Hp} : ∀ {vs : List (Key × V)} {ds : List (D × D)}, Rpk K G vs ds → vs.length = ds.length
  | _, _, .nil => rfl
  | _, _, .cons _ _ r => by rw [List.length_cons, List.length_cons, Rpk.len r]
theorem isEmpty_len {α β : Type} {xs : List α} {ys : List β} (h : xs.length = ys.length) : xs.isEmpty = ys.isEmpty := by
  cases xs <;> cases ys <;> simp_all
theorem line_eq : line = sizeLine := by rw [sizeLine_eq]; rfl
theorem tx_len (x : Str) : (tx x).length = x.length := by
  show x.cps.toList.length = x.cps.size
  simp
section
variable {K : PySem.W.Frag} {G H : Hp}
theorem Vw.dic {v : V} {ds : List (D × D)} (g : Same G H) (h : Vw K G H v (.dict ds)) : (∃ a vs, v = .ref a ∧ H a = some (.dK vs) ∧ Rpk K G vs ds) ∨ ∃ a xs es, v = .ref a ∧ SqL K H a xs ∧ Rps K G xs es ∧ ds = [(.none, .list es)] := by
  rcases h with h | ⟨a, o, e, h, e2⟩
  · cases h with
    | dic h r => exact .inl ⟨_, _, rfl, g _ _ h, r⟩
    | lck h r => exact .inr ⟨_, _, _, rfl, g.seq h, r, rfl⟩
  · cases o with
    | lst es => cases e2
    | dic es => cases e2; obtain ⟨vs, h1, h2⟩ := h; exact .inl ⟨a, vs, e, h1, h2⟩
/-! ### dicts -/
theorem eqD_key (a b : Key) : eqD (keyD a) (keyD b) = decide (a = b) := by
  cases a with
  | inl i =>
    cases b with
    | inl j => simp [keyD, eqD]
    | inr y => simp [keyD, eqD]
  | inr x =>
    cases b with
    | inl j => simp [keyD, eqD]
    | inr y =>
      simp only [keyD, eqD]
      by_cases h : x = y
      · subst h; simp
      · have h2 : ¬ tx x = tx y := fun q => h (by
          obtain ⟨⟨a⟩⟩ := x
          obtain ⟨⟨b⟩⟩ := y
          have q : a = b := q
          rw [q])
        simp [h, h2]
theorem Vw.key {v : V} {d : D} (h : Vw K G H v d) (k : keyOk d = true) : ∃ q : Key, d = keyD q ∧ v = kV q ∧ kSok q = true := by
  cases d with
  | int i => exact ⟨.inl i, rfl, h.int, rfl⟩
  | str x => exact ⟨.inr x, rfl, h.str.1, h.str.2⟩
  | none => cases k
  | bool _ => cases k
  | list _ => cases k
  | tuple _ => cases k
  | dict _ => cases k
theorem Vw.dict {v : V} {ds : List (D × D)} (g : Same G H) (h : Vw K G H v (.dict ds)) (ok : dicOk ds = true) : ∃ a vs, v = .ref a ∧ H a = some (.dK vs) ∧ Rpk K G vs ds := by
  rcases h.dic g with h | ⟨a, xs, es, _, _, _, rfl⟩
  · exact h
  · cases ok
theorem Rpk.get {kvs : List (Key × V)} {ds : List (D × D)} (r : Rpk K G kvs ds) (k : Key) : match dget ds (keyD k) with
    | some d => ∃ v, L2.valV kvs k = some v ∧ Rp K G v d
    | none => L2.valV kvs k = none := by
  induction kvs generalizing ds with
  | nil => cases r; rfl
  | cons p kvs ih =>
    cases r with
    | cons hk0 h r =>
      rename_i k0 v0 d0 ds0
      have ih := ih r
      unfold dget L2.valV at ih ⊢
      rw [List.find?_cons, List.find?_cons]
      simp only [eqD_key]
      by_cases hk : k0 = k
      · simp only [hk, decide_true]
        exact ⟨_, rfl, h⟩
      · simp only [hk, decide_false]
        exact ih
theorem Rpk.any {kvs : List (Key × V)} {ds : List (D × D)} (r : Rpk K G kvs ds) (k : Key) : (ds.any fun p => eqD p.1 (keyD k)) = kvs.any fun kv => decide (kv.1 = k) := by
  induction kvs generalizing ds with
  | nil => cases r; rfl
  | cons p kvs ih =>
    cases r with
    | cons hk0 h r => rw [List.any_cons, List.any_cons, ih r]; simp only [eqD_key]
theorem Rpk.snoc {kvs : List (Key × V)} {ds : List (D × D)} (r : Rpk K G kvs ds) (k : Key) (hs : kSok k = true) {v : V} {d : D} (h : Rp K G v d) : Rpk K G (kvs ++ [(k, v)]) (ds ++ [(keyD k, d)]) := by
  induction kvs generalizing ds with
  | nil => cases r; exact .cons hs h .nil
  | cons p kvs ih =>
    cases r with
    | cons hk0 h r => exact .cons hk0 h (ih r)
theorem Rpk.over {kvs : List (Key × V)} {ds : List (D × D)} (r : Rpk K G kvs ds) (k : Key) (hs : kSok k = true) {v : V} {d : D} (h : Rp K G v d) : Rpk K G (kvs.map fun kv => if kv.1 = k then (kv.1, v) else kv) (ds.map fun p => if eqD p.1 (keyD k) then (p.1, d) else p) := by
  induction kvs generalizing ds with
  | nil => cases r; exact .nil
  | cons p kvs ih =>
    cases r with
    | cons hk0 h' r =>
      rename_i k0 v0 d0 ds0
      rw [List.map_cons, List.map_cons]
      simp only [eqD_key]
      by_cases hk : k0 = k
      · simp only [hk, decide_true, if_true]
        exact .cons hs h (ih r)
      · simp only [hk, decide_false, if_false, Bool.false_eq_true]
        exact .cons hk0 h' (ih r)
theorem Rpk.put {kvs : List (Key × V)} {ds : List (D × D)} (r : Rpk K G kvs ds) (k : Key) (hs : kSok k = true) {v : V} {d : D} (h : Rp K G v d) : Rpk K G (L2.putK kvs k v) (dput ds (keyD k) d) := by
  unfold L2.putK dput
  rw [r.any k]
  split
  · exact r.over k hs h
  · exact r.snoc k hs h
theorem Rpk.len' {kvs : List (Key × V)} {ds : List (D × D)} (r : Rpk K G kvs ds) : kvs.length = ds.length := by
  induction kvs generalizing ds with
  | nil => cases r; rfl
  | cons p kvs ih =>
    cases r with
    | cons hk0 h r => rw [List.length_cons, List.length_cons, ih r]
theorem Vw.tru {v : V} {d : D} (g : Same G H) (h : Vw K G H v d) (ok : truOk d = true) : TruV K v H (truD d) := by
  cases d with
  | none => cases h.none; rfl
  | bool b => cases h.bool; rfl
  | int i =>
    cases h.int
    show decide (i ≠ 0) = (i != 0)
    rw [Bool.eq_iff_iff]; simp
  | str x =>
    cases h.str.1
    have ok : (tx x).length ≤ line := by simpa [truOk] using ok
    rw [tx_len, line_eq] at ok
    refine ⟨ok, ?_⟩
    show decide (tx x ≠ []) = ((x.length : Int) != 0)
    rw [Bool.eq_iff_iff, ← tx_len]
    simp
  | list ds =>
    obtain ⟨a, vs, rfl, h1, r⟩ := h.list g
    refine .inl ⟨vs, .inl (.inl h1), ?_⟩
    show (!ds.isEmpty) = _
    rw [isEmpty_len r.length.symm]
  | tuple ds =>
    obtain ⟨a, vs, rfl, h1, r, _⟩ := h.tup g
    refine .inr (.inl ⟨vs, h1, ?_⟩)
    show (!ds.isEmpty) = _
    rw [isEmpty_len r.length.symm]
  | dict ds =>
    rcases h.dic g with ⟨a, vs, rfl, h1, r⟩ | ⟨a, xs, es, rfl, h1, r, rfl⟩
    · refine .inr (.inr ⟨vs, h1, ?_⟩)
      show (!ds.isEmpty) = _
      rw [isEmpty_len r.len.symm]
    · simp [truOk] at ok
end

section
variable {X : Cx} {W : XW} {F : Fns} {e : Expr}
/-- a value is kept -/
theorem e_of_v {f : Ev → Out (R × Ev)} {σ : St} {H : Hp} {Q : V → Hp → Prop} (h : uG X.K W (rV X.K) (fun env => frz (f env)) σ H Q) : uG X.K W (rE X.K) f σ H Q := by
  obtain ⟨B, env, G, r, h⟩ := h
  refine ⟨B, env, G, r, ?_⟩
  simp only [frz] at h
  cases e : f env with
  | ok p =>
    rw [e] at h
    intro b H' G' r' k' q
    obtain ⟨G'', r2, k2, q2⟩ := RV.keep r r' k' q
    exact h b H' G'' r2 k2 q2
  | exn c env' => rw [e] at h; exact h
  | stuck => rw [e] at h; exact h
theorem U3.V {x : Tx} (h : U3 X W F x e) : PE X e (uG X.K W (rV X.K) (fun env => frz (denE F x env))) := pe_imp h.E fun σ H Q q => e_of_v q
theorem e_of_o {f : Ev → Out (R × Ev)} {σ : St} {H : Hp} {Q : V → Hp → Prop} (h : uG X.K W (rO X.K) (fun env => (f env).bind fun p => .ok (Opd.val p.1.toD, p.2)) σ H Q) : uG X.K W (rE X.K) f σ H Q := by
  obtain ⟨B, env, G, r, h⟩ := h
  refine ⟨B, env, G, r, ?_⟩
  dsimp only at h
  cases e : f env with
  | ok p =>
    rw [e] at h
    intro b H' G' r' k' q
    obtain ⟨G'', r2, k2, q2⟩ := RV.keep r r' k' q
    exact h b H' G'' r2 k2 q2
  | exn c env' => rw [e] at h; exact h
  | stuck => rw [e] at h; exact h
/-- a test by an operand's truth -/
theorem t_of_o {x : Tx} (hO : PE X e (uG X.K W (rO X.K) (opd x (denE F x)))) (he : ∀ whole, isTrue e X.env whole = (do let v ← whole; standAt e.pos; holding [v] (truthy v))) :
    PT X e (uG X.K W rB (tst (opd x (denE F x)))) := by
  refine pt_imp (pt_truth hO he) fun σ H Q h => ?_
  obtain ⟨B, env, G, r, h⟩ := h
  refine step (ρ := rO X.K) (f := opd x (denE F x)) r h fun p v H1 G1 _ r1 k1 o1 h1 => ?_
  cases q : res p.2 p.1 with
  | none => rw [q] at h1; exact h1.elim
  | some d =>
    rw [q] at h1
    simp only [ofO, Out.bind] at h1
    split at h1
    · rename_i ok
      exact ⟨_, (o1.view r1 q).tru r1.sub ok, h1 _ H1 G1 r1 Keep.refl rfl⟩
    · exact h1.elim
theorem U3.mk' {x : Tx} (hE : PE X e (uG X.K W (rE X.K) (denE F x))) (hx : opd x (denE F x) = fun env => (denE F x env).bind fun p => .ok (Opd.val p.1.toD, p.2))
    (he : ∀ whole, isTrue e X.env whole = (do let v ← whole; standAt e.pos; holding [v] (truthy v))) : U3 X W F x e := by
  have hO : PE X e (uG X.K W (rO X.K) (opd x (denE F x))) := by
    rw [hx]
    exact pe_imp hE fun σ H Q q => e_of_o q
  exact ⟨hE, hO, fun _ => t_of_o hO he⟩

/-! ### names, constants -/
theorem u_slot {i : Nat} {x : Str} {pos : Pos} (hN : X.N[i]? = some x) (hv : Vis X.env.scope x) (hd : (x == ("__debug__" : Str)) = false) (hcd : (x == ("__classdict__" : Str)) = false) :
    U3 X W F (.slot i) (.Name x pos) := by
  have hO : PE X (.Name x pos) (uG X.K W (rO X.K) (opd (.slot i) (denE F (.slot i)))) := by
    refine pe_imp (pe_var hN hv hd hcd) fun σ H Q h => ?_
    obtain ⟨B, env, G, r, h⟩ := h
    simp only [opd] at h
    cases q : env[i]? with
    | none => rw [q] at h; exact h.elim
    | some s =>
      rw [q] at h
      cases s with
      | no => exact h.elim
      | val d =>
        obtain ⟨v, h1, h2⟩ := r.val i d q
        exact ⟨v, h1, h v H G r Keep.refl h2⟩
      | own io o =>
        obtain ⟨a, h1, _⟩ := r.own i io o q
        exact ⟨_, h1, h _ H G r Keep.refl h1⟩
  refine ⟨?_, hO, fun _ => t_of_o hO fun _ => rfl⟩
  refine pe_imp (pe_var hN hv hd hcd) fun σ H Q h => ?_
  obtain ⟨B, env, G, r, h⟩ := h
  simp only [denE] at h
  cases q : env[i]? with
  | none => rw [q] at h; exact h.elim
  | some s =>
    rw [q] at h
    cases s with
    | no => exact h.elim
    | val d =>
      obtain ⟨v, h1, h2⟩ := r.val i d q
      exact ⟨v, h1, h v H G r Keep.refl h2⟩
    | own io o =>
      cases io with
      | true => exact h.elim
      | false =>
        obtain ⟨a, G', h1, h2, h3, h4⟩ := r.giveup q
        exact ⟨_, h1, h _ H G' h2 h4 h3⟩
/-- a value that is the same at every heap -/
theorem u_const {d : D} {v : V} {x : Tx} (hv : ∀ G, Rp X.K G v d) (h : PE X e (tC v)) (hx : denE F x = fun env => .ok (.val d, env)) (ho : opd x (denE F x) = fun env => (denE F x env).bind fun p => .ok (Opd.val p.1.toD, p.2))
    (he : ∀ whole, isTrue e X.env whole = (do let v ← whole; standAt e.pos; holding [v] (truthy v))) : U3 X W F x e := by
  refine U3.mk' (pe_imp h fun σ H Q q => ?_) ho he
  obtain ⟨B, env, G, r, q⟩ := q
  rw [hx] at q
  exact q v H G r Keep.refl (hv G)
theorem u_int {i : Int} {j : Nat} {pos : Pos} : U3 X W F (.lit (.int i)) (.Constant (.int i) j pos) := u_const (fun _ => .int i) pe_int (by funext; simp only [denE]) (by funext; rfl) fun _ => rfl
theorem u_bl {b : Bool} {j : Nat} {pos : Pos} : U3 X W F (.lit (.bool b)) (.Constant (.bool b) j pos) := u_const (fun _ => .bl b) pe_bl (by funext; simp only [denE]) (by funext; rfl) fun _ => rfl
theorem u_none {j : Nat} {pos : Pos} : U3 X W F (.lit .none) (.Constant .none j pos) := u_const (fun _ => .non) pe_non (by funext; simp only [denE]) (by funext; rfl) fun _ => rfl
theorem u_str {x : Str} {j : Nat} {pos : Pos} (h : sOk (tx x) = true) : U3 X W F (.lit (.str x)) (.Constant (.str x) j pos) := u_const (fun _ => .str x h) pe_str (by funext; simp only [denE]) (by funext; rfl) fun _ => rfl
theorem u_glob {x : Str} {v : V} {u : Value} {d : D} {pos : Pos} (hg : Gl X x) (hm : X.mg x = some u) (r : RelV v u) (hd : (x == ("__debug__" : Str)) = false) (hv : ∀ G, Rp X.K G v d) : U3 X W F (.glob d) (.Name x pos) :=
  u_const hv (pe_glob hg hm r hd) (by funext; simp only [denE]) (by funext; rfl) fun _ => rfl

/-! ### operations of two operands -/
/-- a rule by values does what the table says -/
def Op2Ok (X : Cx) (r : R2) (t : D → D → Option Rs) : Prop := ∀ (G H : Hp) (x y : V) (a b : D) (s : Rs) (Q : V → Hp → Prop), Same G H → Vw X.K G H x a → Vw X.K G H y b → t a b = some s → (∀ v H' G', New X.K H G s v H' G' → Q v H') → r x y H Q
theorem u_two {r : R2} {t : D → D → Option Rs} {a b : Tx} {ea eb : Expr} (ok : Op2Ok X r t) (ha : U3 X W F a ea) (hb : U3 X W F b eb) {σ : St} {H : Hp} {Q : V → Hp → Prop}
    (h : uG X.K W (rE X.K) (fun env => (opd a (denE F a) env).bind fun p => (opd b (denE F b) p.2).bind fun q => (ofO (res q.2 p.1)).bind fun x => (ofO (res q.2 q.1)).bind fun y => (ofO (t x y)).bind fun r => .ok (r.toR, q.2)) σ H Q) :
    tOp r (uG X.K W (rO X.K) (opd a (denE F a))) (uG X.K W (rO X.K) (opd b (denE F b))) σ H Q := by
  obtain ⟨B, env, G, rl, h⟩ := h
  refine step (ρ := rO X.K) (f := opd a (denE F a)) rl h fun p v H1 G1 _ r1 k1 o1 h1 => ?_
  refine step (ρ := rO X.K) (f := opd b (denE F b)) r1 h1 fun q w H2 G2 _ r2 k2 o2 h2 => ?_
  cases e1 : res q.2 p.1 with
  | none => rw [e1] at h2; exact h2.elim
  | some x =>
    cases e2 : res q.2 q.1 with
    | none => rw [e1, e2] at h2; exact h2.elim
    | some y =>
      rw [e1, e2] at h2
      simp only [ofO, Out.bind] at h2
      cases e3 : t x y with
      | none => rw [e3] at h2; exact h2.elim
      | some s =>
        rw [e3] at h2
        refine ok G2 H2 v w x y s Q r2.sub ((OpV.keep o1 k2.sub).view r2 e1) (o2.view r2 e2) e3 fun u H' G' n => ?_
        obtain ⟨r3, k3, n3⟩ := n.fin r2
        exact h2 u H' G' r3 k3 n3
end
end U
end

section
namespace U
open PySem PySem.Spec PyProof.Rows L2
theorem tup_mul1 (l : Addr) (items : Array Value) (n : Nat) (dd : Option Addr) (sl : Array (Option Value)) (u : Tok) :
    Meets (Builtin.«tuple.__mul__» ⟨[.ref l, .int 1 u], []⟩) (fun _ R s => s.heap.get? l = some { cls := .type "tuple", dict := dd, data := .seq items n, slots := sl } ∧ R (.ok (.ret (Value.ref l))) s) :=
  .of_wp fun prog w A R s h => by
    obtain ⟨hp, g, d, tk, os⟩ := s
    obtain ⟨hl, h⟩ := h
    have f1 := AutoSeq1.idx_int
    wp_walk using wpAny_loadPart' hl
    exact ⟨_, rfl, h⟩
/-- a tuple, once: itself -/
def rOnce (K : PySem.W.Frag) : R2 := fun x y H Q => ∃ l xs, x = .ref l ∧ y = .int 1 ∧ SqT K H l xs ∧ Q (.ref l) H
theorem op_once {X : Cx} : OpR X (binaryOp .Mult) (rOnce X.K) := by
  intro pins s σ H x y v u Q I rx ry h
  obtain ⟨l, xs, rfl, rfl, hT, q⟩ := h
  cases rx
  obtain ⟨t, rfl⟩ := ry
  obtain ⟨its, r, ⟨⟨cls, dd, data, sl⟩, ho, hc, n, hd⟩, hs⟩ := I.tuple hT
  simp only at hc hd
  subst hc hd
  exact wpAny_binaryOp_repeat_ref (T := "tuple") (U := "int") (by decide) ⟨_, ho, rfl⟩ (fun s' => typeIs_int s' 1 t) noFill_tuple_mul F.fills_int_mul F.slot_int_rmul repeat_tuple F.slot_int_index.lookup
    (call_meets F.slot_int_rmul (typeIs_int s 1 t) F.entry_int_rmul (F.args_int_rmul_2 _ _) (int_rmul_tuple 1 t l its.toArray n dd sl)
      ⟨ho, rfl, ⟨_, ho, rfl⟩, call_meets F.slot_tuple_mul ⟨_, ho, rfl⟩ F.entry_tuple_mul (F.args_tuple_mul_2 _ _) (tup_mul1 l its.toArray n dd sl t) ⟨ho, .ref l, H, I, rfl, q⟩⟩)
end U
end

section
namespace U
open PySem PySem.Spec PyProof.Rows L2

theorem S_app (i j : Str) : i ++ j = ⟨⟨tx i ++ tx j⟩⟩ := by
  show Str.append i j = _
  obtain ⟨⟨a⟩⟩ := i
  obtain ⟨⟨b⟩⟩ := j
  simp [Str.append, tx]
theorem sOk_app {a b : List Nat} (h1 : sOk a = true) (h2 : sOk b = true) : sOk (a ++ b) = true := by
  simp only [sOk, List.all_append, Bool.and_eq_true] at *
  exact ⟨h1, h2⟩
theorem sOk_sub {a b : List Nat} (h : sOk a = true) (s : ∀ c ∈ b, c ∈ a) : sOk b = true := by
  simp only [sOk, List.all_eq_true] at *
  exact fun c hc => h c (s c hc)
theorem S_tx (x : Str) : (⟨⟨tx x⟩⟩ : Str) = x := rfl

def opB : B2 → Operator
  | .add => .Add | .sub => .Sub | .mul => .Mult | .fdiv => .FloorDiv | .mod => .Mod | .pow => .Pow
def rMulS : R2 := fun x y H Q => ∃ a n, x = .str a ∧ y = .int n ∧ MulOk a n ∧ Q (.str (Txt.mul a n)) H
theorem op_mulS {X : Cx} : OpR X (binaryOp .Mult) rMulS := by
  intro pins s σ H x y v u Q I rx ry h
  obtain ⟨a, n, rfl, rfl, hok, q⟩ := h
  obtain ⟨t, rfl⟩ := rx
  obtain ⟨t', rfl⟩ := ry
  exact SB.mul hok fun t' k => ⟨.str _, H, I.tok _, ⟨_, rfl⟩, q⟩
theorem foldl_arr : ∀ (k : Nat) (l acc : List Nat), List.foldl (fun x1 x2 => x1 ++ x2) acc.toArray (List.replicate k l.toArray) = (acc ++ (List.replicate k l).flatten).toArray
  | 0, l, acc => by simp
  | k + 1, l, acc => by
    rw [List.replicate_succ, List.foldl_cons, List.append_toArray, foldl_arr k l (acc ++ l), List.replicate_succ, List.flatten_cons, List.append_assoc]
theorem mul_tx (a : Str) (n : Int) : Txt.mul a n = ⟨⟨(List.replicate n.toNat (tx a)).flatten⟩⟩ := by
  unfold Txt.mul
  by_cases h1 : n < 1
  · rw [if_pos h1]
    have : n.toNat = 0 := by omega
    rw [this]; rfl
  · rw [if_neg h1]
    by_cases h2 : (n == 1 || a.length == 0) = true
    · rw [if_pos h2]
      simp only [Bool.or_eq_true, beq_iff_eq] at h2
      rcases h2 with h2 | h2
      · subst h2
        show a = ⟨⟨(List.replicate 1 (tx a)).flatten⟩⟩
        simp [tx]
      · have e : tx a = [] := List.eq_nil_of_length_eq_zero (by rw [tx_len]; exact h2)
        rw [e]
        have : (List.replicate n.toNat ([] : List Nat)).flatten = [] := by simp
        rw [this]
        obtain ⟨⟨l⟩⟩ := a
        have e : l = [] := e
        rw [e]
    · rw [if_neg h2]
      have h := foldl_arr n.toNat (tx a) []
      rw [List.nil_append] at h
      have e : (tx a).toArray = a.cps := by simp [tx]
      rw [e] at h
      exact congrArg Str.mk h
theorem mulS_ok {a : Str} {n : Int} (h1 : -(2 ^ 63) ≤ n) (h2 : n < 2 ^ 63) (h3 : (tx a).length * n.toNat ≤ line) : MulOk a n := by
  rw [tx_len] at h3
  have hl : line = 16777216 := rfl
  refine ⟨?_, fun g _ => ?_, fun _ _ => ?_⟩
  · have e1 : decide (n < -(2 ^ 63 : Int)) = false := decide_eq_false (by omega)
    have e2 : decide (n ≥ 2 ^ 63) = false := decide_eq_false (by omega)
    rw [e1, e2]; rfl
  · have hn : 0 < n := by omega
    have key : (a.length : Int) * n ≤ 2 ^ 63 - 1 := by
      have e : ((a.length * n.toNat : Nat) : Int) = (a.length : Int) * n := by
        rw [Int.natCast_mul, Int.toNat_of_nonneg (by omega)]
      rw [← e]
      omega
    have := Int.le_ediv_of_mul_le hn key
    omega
  · unfold Builtin.Str.tooLong
    rw [line_eq] at h3
    exact decide_eq_false (by omega)
theorem rep_mem {α : Type} {l : List α} {n : Nat} {c : α} (h : c ∈ (List.replicate n l).flatten) : c ∈ l := by
  obtain ⟨m, h1, h2⟩ := List.mem_flatten.mp h
  rw [List.eq_of_mem_replicate h1] at h2
  exact h2
/-- y in d -/
theorem op_dIn {X : Cx} (hu : X.A.units + 1 < cLine) : OpR X (compareOp .In) (fun y x H Q => ∃ a o, x = .ref a ∧ DGet H a y o ∧ Q (.bl o.isSome) H) := by
  intro pins s σ H y x v u Q I ry rx h
  obtain ⟨a, o, rfl, g, q⟩ := h
  obtain rfl : u = Value.ref a := rx
  exact d_in hu I g ry fun s3 I3 => ⟨.bl o.isSome, H, I3, rfl, q⟩
theorem op_dNotIn {X : Cx} (hu : X.A.units + 1 < cLine) : OpR X (compareOp .NotIn) (fun y x H Q => ∃ a o, x = .ref a ∧ DGet H a y o ∧ Q (.bl (!o.isSome)) H) := by
  intro pins s σ H y x v u Q I ry rx h
  obtain ⟨a, o, rfl, g, q⟩ := h
  obtain rfl : u = Value.ref a := rx
  exact d_notIn hu I g ry fun s3 I3 => ⟨.bl (!o.isSome), H, I3, rfl, q⟩
theorem bin_ok (X : Cx) (o : B2) : ∃ r, OpR X (binaryOp (opB o)) r ∧ Op2Ok X r (binD o) := by
  cases o with
  | add =>
    refine ⟨_, OpR.or (OpR.or op_add op_add_str) (OpR.or op_cat op_catA), ?_⟩
    intro G H x y a b s Q g va vb e q
    cases a <;> cases b <;> simp only [binD, reduceCtorEq] at e
    case int.int i j =>
      cases e
      rw [va.int, vb.int]
      exact .inl (.inl ⟨i, j, rfl, rfl, q _ H G ⟨rfl, rfl, .int _⟩⟩)
    case str.str i j =>
      split at e
      · rename_i hl
        cases e
        rw [va.str.1, vb.str.1]
        refine .inl (.inr ⟨i, j, rfl, rfl, ?_, ?_⟩)
        · rw [← tx_len, ← tx_len, ← line_eq]; exact hl
        · rw [S_app]
          exact q _ H G ⟨rfl, rfl, .str _ (sOk_app va.str.2 vb.str.2)⟩
      · cases e
    case list.list xs ys =>
      split at e
      · rename_i hl
        cases e
        obtain ⟨a1, vs, rfl, h1, r1⟩ := va.list g
        obtain ⟨a2, ws, rfl, h2, r2⟩ := vb.list g
        refine .inr (.inl ⟨a1, a2, vs, ws, rfl, rfl, h1, h2, by rw [r1.length, r2.length, ← line_eq]; exact hl, fun p hp => ?_⟩)
        exact q _ _ G ⟨p, _, rfl, hp, rfl, rfl, _, upd_same, r1.append r2⟩
      · cases e
    case tuple.tuple xs ys =>
      split at e
      · rename_i hl
        obtain ⟨a1, vs, rfl, h1, r1, t1⟩ := va.tup g
        obtain ⟨a2, ws, rfl, h2, r2, t2⟩ := vb.tup g
        refine .inr (.inr ⟨a1, a2, vs, ws, rfl, rfl, h1, h2, by rw [r1.length, r2.length, ← line_eq]; exact hl, fun z => ?_, fun z z2 => ?_, fun z z2 p hp => ?_⟩)
        · have := r1.nil_iff.mp z
          subst this
          cases e
          exact q _ H G ⟨rfl, rfl, t2⟩
        · have e1 : ys = [] := r2.nil_iff.mp z2
          have e2 : xs ≠ [] := fun w => z (r1.nil_iff.mpr w)
          subst e1
          cases xs with
          | nil => exact absurd rfl e2
          | cons c cs => cases e; exact q _ H G ⟨rfl, rfl, t1⟩
        · have e1 : ys ≠ [] := fun w => z2 (r2.nil_iff.mpr w)
          have e2 : xs ≠ [] := fun w => z (r1.nil_iff.mpr w)
          cases xs with
          | nil => exact absurd rfl e2
          | cons c cs =>
            cases ys with
            | nil => exact absurd rfl e1
            | cons d ds => cases e; exact q _ _ _ ⟨p, _, rfl, hp, rfl, rfl, r1.append r2⟩
      · cases e
  | sub =>
    refine ⟨_, op_sub, ?_⟩
    intro G H x y a b s Q g va vb e q
    cases a <;> cases b <;> simp only [binD, reduceCtorEq] at e
    case int.int i j =>
      cases e
      rw [va.int, vb.int]
      exact ⟨i, j, rfl, rfl, q _ H G ⟨rfl, rfl, .int _⟩⟩
  | mul =>
    refine ⟨_, OpR.or (OpR.or op_mul op_rep) (OpR.or op_mulS (OpR.or op_repT op_once)), ?_⟩
    intro G H x y a b s Q g va vb e q
    cases a <;> cases b <;> simp only [binD, reduceCtorEq] at e
    case int.int i j =>
      split at e
      · rename_i hl
        cases e
        rw [va.int, vb.int]
        refine .inl (.inl ⟨i, j, rfl, rfl, ?_, q _ H G ⟨rfl, rfl, .int _⟩⟩)
        simp only [mulOk, Bool.or_eq_true, Bool.and_eq_true, decide_eq_true_eq] at hl
        exact hl
      · cases e
    case list.int xs k =>
      split at e
      · rename_i hl
        cases e
        obtain ⟨a1, vs, rfl, h1, r1⟩ := va.list g
        rw [vb.int]
        simp only [Bool.and_eq_true, decide_eq_true_eq] at hl
        refine .inl (.inr ⟨a1, k, vs, rfl, rfl, h1, hl.1.1, hl.1.2, by rw [r1.length, ← line_eq]; exact hl.2, fun p hp => ?_⟩)
        exact q _ _ G ⟨p, _, rfl, hp, rfl, rfl, _, upd_same, r1.rep _⟩
      · cases e
    case str.int z k =>
      split at e
      · rename_i hl
        cases e
        obtain ⟨rfl, hz⟩ := va.str
        rw [vb.int]
        simp only [Bool.and_eq_true, decide_eq_true_eq] at hl
        refine .inr (.inl ⟨z, k, rfl, rfl, mulS_ok hl.1.1 hl.1.2 hl.2, ?_⟩)
        rw [mul_tx]
        exact q _ H G ⟨rfl, rfl, .str _ (sOk_sub hz fun c hc => rep_mem hc)⟩
      · cases e
    case tuple.int xs k =>
      by_cases hk : k = 1
      · subst hk
        rw [if_pos rfl] at e
        cases e
        obtain ⟨a1, vs, rfl, h1, r1, h2⟩ := va.tup g
        rw [vb.int]
        exact .inr (.inr (.inr ⟨a1, vs, rfl, rfl, h1, q _ H G ⟨rfl, rfl, h2⟩⟩))
      rw [if_neg hk] at e
      split at e
      · rename_i hl
        cases e
        obtain ⟨a1, vs, rfl, h1, r1, _⟩ := va.tup g
        rw [vb.int]
        simp only [Bool.and_eq_true, decide_eq_true_eq, Bool.not_eq_true', List.isEmpty_eq_false_iff] at hl
        refine .inr (.inr (.inl ⟨a1, k, vs, rfl, rfl, h1, fun z => hl.1.1.1 (r1.nil_iff.mp z), hl.1.1.2, hl.1.2, by rw [r1.length]; exact hl.2, fun p hp => ?_⟩))
        exact q _ _ _ ⟨p, _, rfl, hp, rfl, rfl, r1.rep _⟩
      · cases e
  | fdiv =>
    refine ⟨_, op_fdiv, ?_⟩
    intro G H x y a b s Q g va vb e q
    cases a <;> cases b <;> simp only [binD, reduceCtorEq] at e
    case int.int i j =>
      split at e
      · rename_i hl
        cases e
        rw [va.int, vb.int]
        simp only [Bool.and_eq_true, decide_eq_true_eq] at hl
        exact ⟨i, j, rfl, rfl, hl, q _ H G ⟨rfl, rfl, .int _⟩⟩
      · cases e
  | mod =>
    refine ⟨_, op_mod, ?_⟩
    intro G H x y a b s Q g va vb e q
    cases a <;> cases b <;> simp only [binD, reduceCtorEq] at e
    case int.int i j =>
      split at e
      · rename_i hl
        cases e
        rw [va.int, vb.int]
        exact ⟨i, j, rfl, rfl, hl, q _ H G ⟨rfl, rfl, .int _⟩⟩
      · cases e
  | pow =>
    refine ⟨_, op_pow, ?_⟩
    intro G H x y a b s Q g va vb e q
    cases a <;> cases b <;> simp only [binD, reduceCtorEq] at e
    case int.int i j =>
      split at e
      · rename_i hl
        cases e
        rw [va.int, vb.int]
        simp only [Bool.and_eq_true, decide_eq_true_eq] at hl
        exact ⟨i, j, rfl, rfl, ⟨hl.1.1, hl.1.2, hl.2⟩, q _ H G ⟨rfl, rfl, .int _⟩⟩
      · cases e

/-! ### == -/
mutual
theorem eqD_eqv : ∀ a b : D, eqD a b = PyData.eqv a b
  | .none, b => by cases b <;> simp [eqD, PyData.eqv]
  | .bool x, b => by cases b <;> simp [eqD, PyData.eqv] <;> (rw [Bool.eq_iff_iff]; simp)
  | .int x, b => by cases b <;> simp [eqD, PyData.eqv] <;> (rw [Bool.eq_iff_iff]; simp)
  | .str x, b => by
    cases b <;> simp [eqD, PyData.eqv]
    rename_i y
    rw [Bool.eq_iff_iff]
    obtain ⟨⟨x⟩⟩ := x
    obtain ⟨⟨y⟩⟩ := y
    simp [tx]
    exact decide_eq_true_iff
  | .list xs, b => by cases b <;> simp [eqD, PyData.eqv, eqDs_eqv]
  | .tuple xs, b => by cases b <;> simp [eqD, PyData.eqv, eqDs_eqv]
  | .dict xs, b => by cases b <;> simp [eqD, PyData.eqv]
theorem eqDs_eqv : ∀ as bs : List D, eqDs as bs = PyData.eqvAll as bs
  | [], bs => by cases bs <;> simp [eqDs, PyData.eqvAll]
  | a :: as, bs => by cases bs <;> simp [eqDs, PyData.eqvAll, eqD_eqv, eqDs_eqv]
end
mutual
theorem dep_eq : ∀ d : D, noDict d = true → dep d = PyData.depth d
  | .none, _ => by simp [dep, PyData.depth]
  | .bool _, _ => by simp [dep, PyData.depth]
  | .int _, _ => by simp [dep, PyData.depth]
  | .str _, _ => by simp [dep, PyData.depth]
  | .list xs, h => by simp [dep, PyData.depth, deps_eq xs (by simpa [noDict] using h)]
  | .tuple xs, h => by simp [dep, PyData.depth, deps_eq xs (by simpa [noDict] using h)]
  | .dict _, h => by simp [noDict] at h
theorem deps_eq : ∀ ds : List D, noDicts ds = true → deps ds = PyData.depthAll ds
  | [], _ => by simp [deps, PyData.depthAll]
  | d :: ds, h => by
    simp only [noDicts, Bool.and_eq_true] at h
    simp [deps, PyData.depthAll, dep_eq d h.1, deps_eq ds h.2]
end
mutual
theorem Dp.lay {K : PySem.W.Frag} {G : Hp} : ∀ {v : V} {d : D}, Rp K G v d → noDict d = true → d.canLay0 = true
  | _, _, .non, _ => by simp [PyData.canLay0]
  | _, _, .bl b, _ => by simp [PyData.canLay0]
  | _, _, .int i, _ => by simp [PyData.canLay0]
  | _, _, .str x h, _ => by
    simp only [PyData.canLay0, PyData.strOk, Array.all_eq_true]
    simp only [sOk, List.all_eq_true, decide_eq_true_eq] at h
    intro i hi
    have := h (x.cps[i]) (by simp [tx])
    simpa using this
  | _, _, .lst h r, e => by simpa [PyData.canLay0] using Dps.lay r (by simpa [noDict] using e)
  | _, _, .tup h r, e => by simpa [PyData.canLay0] using Dps.lay r (by simpa [noDict] using e)
  | _, _, .lck h r, e => by simp [noDict] at e
  | _, _, .dic h r, e => by simp [noDict] at e
theorem Dps.lay {K : PySem.W.Frag} {G : Hp} : ∀ {vs : List V} {ds : List D}, Rps K G vs ds → noDicts ds = true → PyData.canLayAll0 ds = true
  | _, _, .nil, _ => by simp [PyData.canLayAll0]
  | _, _, .cons h r, e => by
    simp only [noDicts, Bool.and_eq_true] at e
    simp [PyData.canLayAll0, Dp.lay h e.1, Dps.lay r e.2]
end
theorem Vw.shaped {K : PySem.W.Frag} {G H : Hp} {v : V} {d : D} (h : Vw K G H v d) (ok : okD d = true) : SeqAt.shaped d = true := by
  simp only [okD, Bool.and_eq_true, decide_eq_true_eq] at ok
  have e := dep_eq d ok.1
  have hl : d.canLay0 = true := by
    rcases h with h | ⟨a, o, e, h, e2⟩
    · exact Dp.lay h ok.1
    · subst e2
      cases o with
      | lst es =>
        obtain ⟨vs, h1, h2⟩ := h
        simpa [PyData.canLay0, Ow.toD] using Dps.lay h2 (by simpa [noDict, Ow.toD] using ok.1)
      | dic es => simp [noDict, Ow.toD] at ok
  simp only [SeqAt.shaped, hl, Bool.true_and, decide_eq_true_eq]
  omega

theorem ltS_lt : ∀ a b : List Nat, ltS a b = decide (a < b)
  | [], [] => by simp [ltS]
  | [], _ :: _ => by simp [ltS]
  | _ :: _, [] => by simp [ltS]
  | x :: xs, y :: ys => by
    rw [ltS, ltS_lt xs ys, Bool.eq_iff_iff]
    simp [List.cons_lt_cons_iff]

def opC : C2 → CmpOp
  | .eq => .Eq | .ne => .NotEq | .lt => .Lt | .le => .LtE | .gt => .Gt | .ge => .GtE | .isin => .In | .notin => .NotIn | .is => .Is | .isnot => .IsNot
def boolT (t : D → D → Option Bool) : D → D → Option Rs := fun x y => (t x y).map fun b => .val (.bool b)
theorem okD_nd {d : D} (ok : okD d = true) : noDict d = true := by
  simp only [okD, Bool.and_eq_true] at ok; exact ok.1
theorem scal_okD {d : D} (h : isScal d = true) : okD d = true := by
  cases d <;> simp [isScal] at h <;> simp [okD, noDict, dep]
theorem contains_mem {c : Nat} {l : List Nat} : l.contains c = decide (c ∈ l) := by
  rw [Bool.eq_iff_iff]; simp
theorem one_sign {x : Str} {c : Nat} (h : tx x = [c]) : x = ⟨#[c]⟩ := by
  obtain ⟨⟨l⟩⟩ := x
  have h : l = [c] := h
  subst h; rfl
def rInT (K : PySem.W.Frag) : R2 := fun x y H Q => ∃ d ds, Dp K H x d ∧ Dp K H y (.tuple ds) ∧ SeqAt.shaped d = true ∧ SeqAt.shaped (.tuple ds) = true ∧ Q (.bl (ds.any fun z => PyData.eqv z d)) H
def rNotInT (K : PySem.W.Frag) : R2 := fun x y H Q => ∃ d ds, Dp K H x d ∧ Dp K H y (.tuple ds) ∧ SeqAt.shaped d = true ∧ SeqAt.shaped (.tuple ds) = true ∧ Q (.bl (!ds.any fun z => PyData.eqv z d)) H
theorem op_inT {X : Cx} (hu : X.A.units + 65 < cLine) : OpR X (compareOp .In) (rInT X.K) := by
  intro pins s σ H x y v u Q I rx ry h
  obtain ⟨d, ds, hd, he, sd, se, q⟩ := h
  obtain ⟨as, r1⟩ := Dp.reads I d x v hd rx
  obtain ⟨bs, r2⟩ := Dp.reads I (.tuple ds) y u he ry
  exact SeqAt.in_tuple_reads r2 r1 (SeqAt.canLay_of_shaped se) (SeqAt.canLay_of_shaped sd) (room_in_shaped sd hu) ⟨.bl _, H, I, rfl, q⟩
theorem op_notInT {X : Cx} (hu : X.A.units + 65 < cLine) : OpR X (compareOp .NotIn) (rNotInT X.K) := by
  intro pins s σ H x y v u Q I rx ry h
  obtain ⟨d, ds, hd, he, sd, se, q⟩ := h
  obtain ⟨as, r1⟩ := Dp.reads I d x v hd rx
  obtain ⟨bs, r2⟩ := Dp.reads I (.tuple ds) y u he ry
  exact SeqAt.notIn_tuple_reads r2 r1 (SeqAt.canLay_of_shaped se) (SeqAt.canLay_of_shaped sd) (room_in_shaped sd hu) ⟨.bl _, H, I, rfl, q⟩
theorem any_eqv (ys : List D) (x : D) : (ys.any fun y => eqD y x) = ys.any fun y => PyData.eqv y x := by
  congr 1; funext y; exact eqD_eqv y x

theorem cmp_ok (X : Cx) (hu : X.A.units + 65 < cLine) (o : C2) : ∃ r, OpR X (compareOp (opC o)) r ∧ Op2Ok X r (boolT (cmpD o)) := by
  have fin : ∀ {b : Bool} {s : Rs} {G H : Hp} {Q : V → Hp → Prop}, some (Rs.val (.bool b)) = some s → (∀ v H' G', New X.K H G s v H' G' → Q v H') → Q (.bl b) H := fun {b s G H Q} e q => by
    cases e; exact q _ H G ⟨rfl, rfl, .bl _⟩
  cases o with
  | eq =>
    refine ⟨_, op_eqD (by omega), ?_⟩
    intro G H x y a b s Q g va vb e q
    have key : okD a = true ∧ okD b = true ∧ some (Rs.val (.bool (eqD a b))) = some s := by
      simp only [boolT, cmpD] at e
      split at e
      · rename_i h
        simp only [Bool.and_eq_true] at h
        exact ⟨scal_okD h.1, scal_okD h.2, e⟩
      · split at e
        · rename_i h
          simp only [Bool.and_eq_true] at h
          exact ⟨h.1, h.2, e⟩
        · cases e
    obtain ⟨h1, h2, e⟩ := key
    refine ⟨a, b, va.dp g (okD_nd h1), vb.dp g (okD_nd h2), va.shaped h1, vb.shaped h2, ?_⟩
    rw [← eqD_eqv]
    exact fin e q
  | ne =>
    refine ⟨_, op_neD (by omega), ?_⟩
    intro G H x y a b s Q g va vb e q
    have key : okD a = true ∧ okD b = true ∧ some (Rs.val (.bool (!eqD a b))) = some s := by
      simp only [boolT, cmpD] at e
      split at e
      · rename_i h
        simp only [Bool.and_eq_true] at h
        exact ⟨scal_okD h.1, scal_okD h.2, e⟩
      · split at e
        · rename_i h
          simp only [Bool.and_eq_true] at h
          exact ⟨h.1, h.2, e⟩
        · cases e
    obtain ⟨h1, h2, e⟩ := key
    refine ⟨a, b, va.dp g (okD_nd h1), vb.dp g (okD_nd h2), va.shaped h1, vb.shaped h2, ?_⟩
    rw [← eqD_eqv]
    exact fin e q
  | lt =>
    refine ⟨_, OpR.or op_lt op_lt_str, ?_⟩
    intro G H x y a b s Q g va vb e q
    cases a <;> cases b <;> simp only [boolT, cmpD, reduceCtorEq, Option.map_none, Option.map_some] at e
    case int.int i j => rw [va.int, vb.int]; exact .inl ⟨i, j, rfl, rfl, fin e q⟩
    case str.str i j => rw [va.str.1, vb.str.1]; refine .inr ⟨i, j, rfl, rfl, ?_⟩; rw [ltS_lt] at e; exact fin e q
  | le =>
    refine ⟨_, OpR.or op_le op_le_str, ?_⟩
    intro G H x y a b s Q g va vb e q
    cases a <;> cases b <;> simp only [boolT, cmpD, reduceCtorEq, Option.map_none, Option.map_some] at e
    case int.int i j => rw [va.int, vb.int]; exact .inl ⟨i, j, rfl, rfl, fin e q⟩
    case str.str i j => rw [va.str.1, vb.str.1]; refine .inr ⟨i, j, rfl, rfl, ?_⟩; rw [ltS_lt] at e; exact fin e q
  | gt =>
    refine ⟨_, OpR.or op_gt op_gt_str, ?_⟩
    intro G H x y a b s Q g va vb e q
    cases a <;> cases b <;> simp only [boolT, cmpD, reduceCtorEq, Option.map_none, Option.map_some] at e
    case int.int i j => rw [va.int, vb.int]; exact .inl ⟨i, j, rfl, rfl, fin e q⟩
    case str.str i j => rw [va.str.1, vb.str.1]; refine .inr ⟨i, j, rfl, rfl, ?_⟩; rw [ltS_lt] at e; exact fin e q
  | ge =>
    refine ⟨_, OpR.or op_ge op_ge_str, ?_⟩
    intro G H x y a b s Q g va vb e q
    cases a <;> cases b <;> simp only [boolT, cmpD, reduceCtorEq, Option.map_none, Option.map_some] at e
    case int.int i j => rw [va.int, vb.int]; exact .inl ⟨i, j, rfl, rfl, fin e q⟩
    case str.str i j => rw [va.str.1, vb.str.1]; refine .inr ⟨i, j, rfl, rfl, ?_⟩; rw [ltS_lt] at e; exact fin e q
  | isin =>
    refine ⟨_, OpR.or (op_dIn (by omega)) (OpR.or (OpR.or op_in_sign (op_inD (by omega))) (op_inT (by omega))), ?_⟩
    intro G H x y a b s Q g va vb e q
    cases b
    case dict kvs =>
      have key : keyOk a = true ∧ dicOk kvs = true ∧ some (Rs.val (.bool ((dget kvs a).isSome))) = some s := by
        have e : boolT (cmpD .isin) a (.dict kvs) = some s := e
        have e2 : cmpD .isin a (.dict kvs) = if keyOk a && dicOk kvs then some ((dget kvs a).isSome) else none := by cases a <;> rfl
        simp only [boolT, e2] at e
        split at e
        · rename_i h
          simp only [Bool.and_eq_true] at h
          exact ⟨h.1, h.2, e⟩
        · cases e
      obtain ⟨h1, h2, e⟩ := key
      obtain ⟨k, rfl, rfl, _⟩ := va.key h1
      obtain ⟨p, vs, rfl, h3, r⟩ := vb.dict g h2
      refine .inl ⟨p, L2.valV vs k, rfl, L2.DGet.k h3, ?_⟩
      have := r.get k
      cases hg : dget kvs (keyD k) with
      | none => rw [hg] at this e; rw [this]; exact fin e q
      | some d => rw [hg] at this e; obtain ⟨v, h4, _⟩ := this; rw [h4]; exact fin e q
    all_goals right
    case str j =>
      cases a <;> simp only [boolT, cmpD, reduceCtorEq, Option.map_none] at e
      rename_i i
      rw [va.str.1, vb.str.1]
      split at e
      · rename_i c hc
        refine .inl (.inl ⟨c, j, by rw [one_sign hc], rfl, ?_⟩)
        rw [contains_mem] at e
        exact fin e q
      · cases e
    case list ys =>
      have e : (boolT (cmpD .isin) a (.list ys)) = some s := e
      have key : okD a = true ∧ okD (.list ys) = true ∧ some (Rs.val (.bool (ys.any fun y => eqD y a))) = some s := by
        cases a <;> simp only [boolT, cmpD] at e <;> split at e <;> first | (rename_i h; simp only [Bool.and_eq_true] at h; exact ⟨h.1, h.2, e⟩) | cases e
      obtain ⟨h1, h2, e⟩ := key
      refine .inl (.inr ⟨a, ys, va.dp g (okD_nd h1), vb.dp g (okD_nd h2), va.shaped h1, vb.shaped h2, ?_⟩)
      rw [any_eqv] at e
      exact fin e q
    case tuple ys =>
      have e : (boolT (cmpD .isin) a (.tuple ys)) = some s := e
      have key : okD a = true ∧ okD (.tuple ys) = true ∧ some (Rs.val (.bool (ys.any fun y => eqD y a))) = some s := by
        cases a <;> simp only [boolT, cmpD] at e <;> split at e <;> first | (rename_i h; simp only [Bool.and_eq_true] at h; exact ⟨h.1, h.2, e⟩) | cases e
      obtain ⟨h1, h2, e⟩ := key
      refine .inr ⟨a, ys, va.dp g (okD_nd h1), vb.dp g (okD_nd h2), va.shaped h1, vb.shaped h2, ?_⟩
      rw [any_eqv] at e
      exact fin e q
    all_goals (cases a <;> simp only [boolT, cmpD, reduceCtorEq, Option.map_none] at e)
  | notin =>
    refine ⟨_, OpR.or (op_dNotIn (by omega)) (OpR.or (OpR.or op_notIn_sign (op_notInD (by omega))) (op_notInT (by omega))), ?_⟩
    intro G H x y a b s Q g va vb e q
    cases b
    case dict kvs =>
      have key : keyOk a = true ∧ dicOk kvs = true ∧ some (Rs.val (.bool (!(dget kvs a).isSome))) = some s := by
        have e : boolT (cmpD .notin) a (.dict kvs) = some s := e
        have e2 : cmpD .notin a (.dict kvs) = if keyOk a && dicOk kvs then some (!(dget kvs a).isSome) else none := by cases a <;> rfl
        simp only [boolT, e2] at e
        split at e
        · rename_i h
          simp only [Bool.and_eq_true] at h
          exact ⟨h.1, h.2, e⟩
        · cases e
      obtain ⟨h1, h2, e⟩ := key
      obtain ⟨k, rfl, rfl, _⟩ := va.key h1
      obtain ⟨p, vs, rfl, h3, r⟩ := vb.dict g h2
      refine .inl ⟨p, L2.valV vs k, rfl, L2.DGet.k h3, ?_⟩
      have := r.get k
      cases hg : dget kvs (keyD k) with
      | none => rw [hg] at this e; rw [this]; exact fin e q
      | some d => rw [hg] at this e; obtain ⟨v, h4, _⟩ := this; rw [h4]; exact fin e q
    all_goals right
    case str j =>
      cases a <;> simp only [boolT, cmpD, reduceCtorEq, Option.map_none] at e
      rename_i i
      rw [va.str.1, vb.str.1]
      split at e
      · rename_i c hc
        refine .inl (.inl ⟨c, j, by rw [one_sign hc], rfl, ?_⟩)
        rw [contains_mem] at e
        exact fin e q
      · cases e
    case list ys =>
      have e : (boolT (cmpD .notin) a (.list ys)) = some s := e
      have key : okD a = true ∧ okD (.list ys) = true ∧ some (Rs.val (.bool (!ys.any fun y => eqD y a))) = some s := by
        cases a <;> simp only [boolT, cmpD] at e <;> split at e <;> first | (rename_i h; simp only [Bool.and_eq_true] at h; exact ⟨h.1, h.2, e⟩) | cases e
      obtain ⟨h1, h2, e⟩ := key
      refine .inl (.inr ⟨a, ys, va.dp g (okD_nd h1), vb.dp g (okD_nd h2), va.shaped h1, vb.shaped h2, ?_⟩)
      rw [any_eqv] at e
      exact fin e q
    case tuple ys =>
      have e : (boolT (cmpD .notin) a (.tuple ys)) = some s := e
      have key : okD a = true ∧ okD (.tuple ys) = true ∧ some (Rs.val (.bool (!ys.any fun y => eqD y a))) = some s := by
        cases a <;> simp only [boolT, cmpD] at e <;> split at e <;> first | (rename_i h; simp only [Bool.and_eq_true] at h; exact ⟨h.1, h.2, e⟩) | cases e
      obtain ⟨h1, h2, e⟩ := key
      refine .inr ⟨a, ys, va.dp g (okD_nd h1), vb.dp g (okD_nd h2), va.shaped h1, vb.shaped h2, ?_⟩
      rw [any_eqv] at e
      exact fin e q
    all_goals (cases a <;> simp only [boolT, cmpD, reduceCtorEq, Option.map_none] at e)
  | is =>
    refine ⟨_, OpR.or op_isN op_is_bl, ?_⟩
    intro G H x y a b s Q g va vb e q
    cases b
    case none =>
      refine .inl ⟨vb.none, ?_⟩
      have : some (Rs.val (.bool (decide (x = .non)))) = some s := by
        rw [← e]
        simp only [boolT, cmpD, Option.map_some]
        congr 3
        cases a
        case none => rw [va.none]; simp
        case bool z => rw [va.bool]; simp
        case int z => rw [va.int]; simp
        case str z => rw [va.str.1]; simp
        case list z => obtain ⟨_, _, e, _⟩ := va.list g; rw [e]; simp
        case tuple z => obtain ⟨_, _, e, _⟩ := va.tup g; rw [e]; simp
        case dict z => rcases va.dic g with ⟨_, _, e, _⟩ | ⟨_, _, _, e, _⟩ <;> (rw [e]; simp)
      exact fin this q
    case bool z =>
      cases a <;> simp only [boolT, cmpD, reduceCtorEq, Option.map_none, Option.map_some] at e
      rw [va.bool, vb.bool]
      exact .inr ⟨_, _, rfl, rfl, fin e q⟩
    all_goals (cases a <;> simp only [boolT, cmpD, reduceCtorEq, Option.map_none] at e)
  | isnot =>
    refine ⟨_, OpR.or op_notN op_isnot_bl, ?_⟩
    intro G H x y a b s Q g va vb e q
    cases b
    case none =>
      refine .inl ⟨vb.none, ?_⟩
      have : some (Rs.val (.bool (!decide (x = .non)))) = some s := by
        rw [← e]
        simp only [boolT, cmpD, Option.map_some]
        congr 3
        cases a
        case none => rw [va.none]; simp
        case bool z => rw [va.bool]; simp
        case int z => rw [va.int]; simp
        case str z => rw [va.str.1]; simp
        case list z => obtain ⟨_, _, e, _⟩ := va.list g; rw [e]; simp
        case tuple z => obtain ⟨_, _, e, _⟩ := va.tup g; rw [e]; simp
        case dict z => rcases va.dic g with ⟨_, _, e, _⟩ | ⟨_, _, _, e, _⟩ <;> (rw [e]; simp)
      exact fin this q
    case bool z =>
      cases a <;> simp only [boolT, cmpD, reduceCtorEq, Option.map_none, Option.map_some] at e
      rw [va.bool, vb.bool]
      exact .inr ⟨_, _, rfl, rfl, fin e q⟩
    all_goals (cases a <;> simp only [boolT, cmpD, reduceCtorEq, Option.map_none] at e)
end U
end

section
namespace U
open PySem PySem.Spec PyProof.Rows L2

section
variable {X : Cx} {W : XW} {F : Fns} {e ea eb ec : Expr} {a b c : Tx} {pos : Pos}

/-- a test by a value that is a bool -/
theorem t_of_bool {x : Tx} {te : TE} (i : ∀ σ H Q, uG X.K W (rE X.K) (denE F x) σ H Q → te σ H Q) (hT : PT X e (tTest te)) (hx : opd x (denE F x) = fun env => (denE F x env).bind fun p => .ok (Opd.val p.1.toD, p.2))
    (bl : ∀ env p, denE F x env = .ok p → ∃ b, p.1 = .val (.bool b)) : PT X e (uG X.K W rB (tst (opd x (denE F x)))) := by
  refine pt_imp hT fun σ H Q h => ?_
  refine i _ _ _ ?_
  obtain ⟨B, env, G, r, h⟩ := h
  refine ⟨B, env, G, r, ?_⟩
  simp only [tst, hx] at h
  cases e : denE F x env with
  | ok p =>
    rw [e] at h
    obtain ⟨b, eb⟩ := bl env p e
    intro v H' G' r' k' q
    rw [eb] at q
    simp only [Out.bind, eb, R.toD, res, ofO, truOk, truD, if_true] at h
    refine ⟨b, ?_, h b H' G' r' k' rfl⟩
    cases q
    rfl
  | exn c env' => rw [e] at h; exact h
  | stuck => rw [e] at h; exact h

theorem u_bin {o : B2} (ha : U3 X W F a ea) (hb : U3 X W F b eb) : U3 X W F (.bin o a b) (.BinOp ea (opB o) eb pos) := by
  obtain ⟨r, h1, h2⟩ := bin_ok X o
  refine U3.mk' (pe_imp (pe_op h1 ha.O hb.O) fun σ H Q q => u_two h2 ha hb ?_) (by funext; rfl) fun _ => rfl
  obtain ⟨B, env, G, r, q⟩ := q
  simp only [denE] at q
  exact ⟨B, env, G, r, q⟩
theorem opd_of {x : Tx} {f : Ev → Out (R × Ev)} (hx : ∀ i, x ≠ .slot i) : opd x f = fun env => (f env).bind fun p => .ok (Opd.val p.1.toD, p.2) := by
  funext env
  cases x <;> first | rfl | exact absurd rfl (hx _)
theorem nomark' (o : C2) (h : o ≠ .isin) (h2 : o ≠ .notin) (b : Expr) : behindInMarks (opC o) b = false := by
  refine nomark b ?_ ?_ <;> cases o <;> simp_all [opC]
theorem u_cmp (hu : X.A.units + 65 < cLine) {o : C2} (ha : U3 X W F a ea) (hb : U3 X W F b eb) (hm : behindInMarks (opC o) eb = false) : U3 X W F (.cmp o a b) (.Compare ea [opC o] [eb] pos) := by
  obtain ⟨r, h1, h2⟩ := cmp_ok X hu o
  have hx : opd (.cmp o a b) (denE F (.cmp o a b)) = fun env => (denE F (.cmp o a b) env).bind fun p => .ok (Opd.val p.1.toD, p.2) := by funext; rfl
  have i : ∀ (σ : St) (H : Hp) (Q : V → Hp → Prop), uG X.K W (rE X.K) (denE F (.cmp o a b)) σ H Q → tOp r (uG X.K W (rO X.K) (opd a (denE F a))) (uG X.K W (rO X.K) (opd b (denE F b))) σ H Q := fun σ H Q q => by
    refine u_two h2 ha hb ?_
    obtain ⟨B, env, G, r, q⟩ := q
    simp only [denE] at q
    refine ⟨B, env, G, r, ?_⟩
    have e : ∀ x y, (ofO (boolT (cmpD o) x y)).bind (fun r : Rs => Out.ok (α := R) r.toR) = (ofO (cmpD o x y)).bind fun r => .ok (.val (.bool r)) := fun x y => by
      unfold boolT
      cases cmpD o x y <;> rfl
    have e2 : ∀ x y (w : Ev), (ofO (boolT (cmpD o) x y)).bind (fun r : Rs => Out.ok (α := R × Ev) (r.toR, w)) = (ofO (cmpD o x y)).bind fun r => .ok (.val (.bool r), w) := fun x y w => by
      unfold boolT
      cases cmpD o x y <;> rfl
    simp only [e2]
    exact q
  have hE := pe_imp (pe_cmpR (pos := pos) h1 ha.O hb.O hm) i
  refine ⟨hE, by rw [hx]; exact pe_imp hE fun σ H Q q => e_of_o q, fun _ => t_of_bool i (pt_cmpR h1 ha.O hb.O hm) hx fun env p e => ?_⟩
  simp only [denE, Out.bind] at e
  repeat' split at e
  all_goals first | cases e; done | (cases e; exact ⟨_, rfl⟩)
theorem lastM {o p : C2} (h : p ≠ .isin) (h2 : p ≠ .notin) (b c : Expr) : lastMarks [opC o, opC p] [b, c] = false := by
  show lastMarks [opC p] [c] = false
  exact nomark' p h h2 c
theorem u_chain (hu : X.A.units + 65 < cLine) {o p : C2} (ha : U3 X W F a ea) (hb : U3 X W F b eb) (hc : U3 X W F c ec) (hp : p ≠ .isin) (hp2 : p ≠ .notin) : U3 X W F (.chain o p a b c) (.Compare ea [opC o, opC p] [eb, ec] pos) := by
  obtain ⟨r, h1, h2⟩ := cmp_ok X hu o
  obtain ⟨r', h1', h2'⟩ := cmp_ok X hu p
  have hm := lastM (o := o) hp hp2 eb ec
  have hx : opd (.chain o p a b c) (denE F (.chain o p a b c)) = fun env => (denE F (.chain o p a b c) env).bind fun p => .ok (Opd.val p.1.toD, p.2) := by funext; rfl
  have i : ∀ (σ : St) (H : Hp) (Q : V → Hp → Prop), uG X.K W (rE X.K) (denE F (.chain o p a b c)) σ H Q → tChain r r' (uG X.K W (rO X.K) (opd a (denE F a))) (uG X.K W (rO X.K) (opd b (denE F b))) (uG X.K W (rO X.K) (opd c (denE F c))) σ H Q := fun σ H Q q => by
    obtain ⟨B, env, G, rl, h⟩ := q
    simp only [denE] at h
    refine step (ρ := rO X.K) (f := opd a (denE F a)) rl h fun s v H1 G1 _ r1 k1 o1 h1 => ?_
    refine step (ρ := rO X.K) (f := opd b (denE F b)) r1 h1 fun t w H2 G2 _ r2 k2 o2 h2_ => ?_
    cases e1 : res t.2 s.1 with
    | none => rw [e1] at h2_; exact h2_.elim
    | some x =>
      cases e2 : res t.2 t.1 with
      | none => rw [e1, e2] at h2_; exact h2_.elim
      | some y =>
        rw [e1, e2] at h2_
        simp only [ofO, Out.bind] at h2_
        cases e3 : cmpD o x y with
        | none => rw [e3] at h2_; exact h2_.elim
        | some k =>
          rw [e3] at h2_
          refine h2 G2 H2 v w x y (.val (.bool k)) _ r2.sub ((OpV.keep o1 k2.sub).view r2 e1) (o2.view r2 e2) (by rw [boolT, e3]; rfl) fun u H' G' n => ?_
          obtain ⟨rfl, rfl, n⟩ := n
          cases n
          refine ⟨k, rfl, ?_⟩
          cases k with
          | false =>
            rw [if_neg (by decide)]
            simp only [Bool.false_eq_true, if_false] at h2_
            exact h2_ _ _ _ r2 Keep.refl (.bl false)
          | true =>
            rw [if_pos rfl]
            simp only [if_true] at h2_
            refine step (ρ := rO X.K) (f := opd c (denE F c)) r2 h2_ fun z v3 H3 G3 _ r3 k3 o3 h3 => ?_
            cases e4 : res z.2 t.1 with
            | none => rw [e4] at h3; exact h3.elim
            | some y' =>
              cases e5 : res z.2 z.1 with
              | none => rw [e4, e5] at h3; exact h3.elim
              | some z' =>
                rw [e4, e5] at h3
                simp only [ofO, Out.bind] at h3
                cases e6 : cmpD p y' z' with
                | none => rw [e6] at h3; exact h3.elim
                | some k' =>
                  rw [e6] at h3
                  refine h2' G3 H3 w v3 y' z' (.val (.bool k')) _ r3.sub ((OpV.keep o2 k3.sub).view r3 e4) (o3.view r3 e5) (by rw [boolT, e6]; rfl) fun u H' G' n => ?_
                  obtain ⟨rfl, rfl, n⟩ := n
                  exact h3 _ _ _ r3 Keep.refl n
  have hE := pe_imp (pe_chain (pos := pos) h1 h1' ha.O hb.O hc.O hm) i
  refine ⟨hE, by rw [hx]; exact pe_imp hE fun σ H Q q => e_of_o q, fun _ => t_of_bool i (pt_chain h1 h1' ha.O hb.O hc.O hm) hx fun env p e => ?_⟩
  simp only [denE, Out.bind] at e
  repeat' split at e
  all_goals first | cases e; done | (cases e; exact ⟨_, rfl⟩)

/-! ### and, or, not, if else -/
structure UB (X : Cx) (W : XW) (F : Fns) (x : Tx) (op : BoolOp) (es : List Expr) (pos : Pos) : Prop where
  E : PE X (.BoolOp op es pos) (uG X.K W (rE X.K) (denE F x))
  W : PW X (.BoolOp op es pos) (uG X.K W rB (tst (opd x (denE F x))))
theorem ub_and1 (ha : U3 X W F a ea) (ta : noT a = false) : UB X W F a .And [ea] pos := ⟨pe_one ha.E, pw_and1 (ha.T ta)⟩
theorem ub_or1 (ha : U3 X W F a ea) (ta : noT a = false) : UB X W F a .Or [ea] pos := ⟨pe_one ha.E, pw_or1 (ha.T ta)⟩
theorem ub_and {es : List Expr} (ha : U3 X W F a ea) (ta : noT a = false) (hb : UB X W F b .And (eb :: es) pos) (sb : ∀ i, b ≠ .slot i) : UB X W F (.and a b) .And (ea :: eb :: es) pos := by
  refine ⟨pe_imp (pe_andT ha.O hb.E) fun σ H Q q => ?_, pw_imp (pw_and (ha.T ta) hb.W) fun σ H Q q => ?_⟩
  · obtain ⟨B, env, G, rl, h⟩ := q
    simp only [denE] at h
    refine step (ρ := rO X.K) (f := opd a (denE F a)) rl h fun s v H1 G1 _ r1 k1 o1 h1 => ?_
    cases e1 : res s.2 s.1 with
    | none => rw [e1] at h1; exact h1.elim
    | some d =>
      rw [e1] at h1
      simp only [ofO, Out.bind] at h1
      split at h1
      · rename_i ok
        refine ⟨_, (o1.view r1 e1).tru r1.sub ok, ?_⟩
        cases e2 : truD d with
        | true =>
          rw [e2] at h1
          rw [if_pos rfl]
          exact ⟨B, _, G1, r1, h1⟩
        | false =>
          rw [e2] at h1
          rw [if_neg (by decide)]
          simp only [Bool.false_eq_true, if_false] at h1
          obtain ⟨o, w⟩ := s
          cases o with
          | val d => exact h1 _ _ _ r1 Keep.refl o1
          | slot i => exact h1.elim
      · exact h1.elim
  · obtain ⟨B, env, G, rl, h⟩ := q
    have hx : opd (.and a b) (denE F (.and a b)) = fun env => (denE F (.and a b) env).bind fun p => .ok (Opd.val p.1.toD, p.2) := by funext; rfl
    simp only [tst] at h; rw [hx] at h; simp only [denE] at h
    have key : End X.K W rB B env σ H G Q ((tst (opd a (denE F a)) env).bind fun p => if p.1 = true then tst (opd b (denE F b)) p.2 else .ok (false, p.2)) := by
      rw [opd_of sb]
      simp only [tst]
      cases e0 : opd a (denE F a) env with
      | stuck => rw [e0] at h; exact h
      | exn c w => rw [e0] at h; exact h
      | ok s =>
        rw [e0] at h
        simp only [Out.bind] at h ⊢
        cases e1 : res s.2 s.1 with
        | none => rw [e1] at h; exact h
        | some d =>
          rw [e1] at h
          simp only [ofO] at h ⊢
          cases ok : truOk d with
          | false => rw [ok] at h; exact h.elim
          | true =>
            rw [ok] at h
            simp only [if_true] at h ⊢
            cases e2 : truD d with
            | true =>
              rw [e2] at h
              simp only [if_true] at h ⊢
              exact h
            | false =>
              rw [e2] at h
              simp only [Bool.false_eq_true, if_false] at h ⊢
              obtain ⟨o, w⟩ := s
              cases o with
              | val d' =>
                have : d' = d := by
                  have e1 : some d' = some d := e1
                  exact Option.some.inj e1
                subst this
                simp only [opdV, R.toD, res, ofO, ok, e2, if_true] at h
                exact h
              | slot i => exact h.elim
    refine step (ρ := rB) (f := tst (opd a (denE F a))) rl key fun s v H1 G1 _ r1 k1 o1 h1 => ?_
    cases o1
    cases e2 : s.1 with
    | true =>
      simp only [e2, if_true] at h1 ⊢
      exact ⟨B, _, G1, r1, h1⟩
    | false =>
      simp only [e2, Bool.false_eq_true, if_false] at h1 ⊢
      exact h1 _ _ _ r1 Keep.refl rfl
theorem ub_or {es : List Expr} (ha : U3 X W F a ea) (ta : noT a = false) (hb : UB X W F b .Or (eb :: es) pos) (sb : ∀ i, b ≠ .slot i) : UB X W F (.or a b) .Or (ea :: eb :: es) pos := by
  refine ⟨pe_imp (pe_orT ha.O hb.E) fun σ H Q q => ?_, pw_imp (pw_or (ha.T ta) hb.W) fun σ H Q q => ?_⟩
  · obtain ⟨B, env, G, rl, h⟩ := q
    simp only [denE] at h
    refine step (ρ := rO X.K) (f := opd a (denE F a)) rl h fun s v H1 G1 _ r1 k1 o1 h1 => ?_
    cases e1 : res s.2 s.1 with
    | none => rw [e1] at h1; exact h1.elim
    | some d =>
      rw [e1] at h1
      simp only [ofO, Out.bind] at h1
      split at h1
      · rename_i ok
        refine ⟨_, (o1.view r1 e1).tru r1.sub ok, ?_⟩
        cases e2 : truD d with
        | false =>
          rw [e2] at h1
          rw [if_neg (by decide)]
          simp only [Bool.false_eq_true, if_false] at h1
          exact ⟨B, _, G1, r1, h1⟩
        | true =>
          rw [e2] at h1
          rw [if_pos rfl]
          simp only [if_true] at h1
          obtain ⟨o, w⟩ := s
          cases o with
          | val d => exact h1 _ _ _ r1 Keep.refl o1
          | slot i => exact h1.elim
      · exact h1.elim
  · obtain ⟨B, env, G, rl, h⟩ := q
    have hx : opd (.or a b) (denE F (.or a b)) = fun env => (denE F (.or a b) env).bind fun p => .ok (Opd.val p.1.toD, p.2) := by funext; rfl
    simp only [tst] at h; rw [hx] at h; simp only [denE] at h
    have key : End X.K W rB B env σ H G Q ((tst (opd a (denE F a)) env).bind fun p => if p.1 = true then .ok (true, p.2) else tst (opd b (denE F b)) p.2) := by
      rw [opd_of sb]
      simp only [tst]
      cases e0 : opd a (denE F a) env with
      | stuck => rw [e0] at h; exact h
      | exn c w => rw [e0] at h; exact h
      | ok s =>
        rw [e0] at h
        simp only [Out.bind] at h ⊢
        cases e1 : res s.2 s.1 with
        | none => rw [e1] at h; exact h
        | some d =>
          rw [e1] at h
          simp only [ofO] at h ⊢
          cases ok : truOk d with
          | false => rw [ok] at h; exact h.elim
          | true =>
            rw [ok] at h
            simp only [if_true] at h ⊢
            cases e2 : truD d with
            | false =>
              rw [e2] at h
              simp only [Bool.false_eq_true, if_false] at h ⊢
              exact h
            | true =>
              rw [e2] at h
              simp only [if_true] at h ⊢
              obtain ⟨o, w⟩ := s
              cases o with
              | val d' =>
                have : d' = d := by
                  have e1 : some d' = some d := e1
                  exact Option.some.inj e1
                subst this
                simp only [opdV, R.toD, res, ofO, ok, e2, if_true] at h
                exact h
              | slot i => exact h.elim
    refine step (ρ := rB) (f := tst (opd a (denE F a))) rl key fun s v H1 G1 _ r1 k1 o1 h1 => ?_
    cases o1
    cases e2 : s.1 with
    | false =>
      simp only [e2, Bool.false_eq_true, if_false] at h1 ⊢
      exact ⟨B, _, G1, r1, h1⟩
    | true =>
      simp only [e2, if_true] at h1 ⊢
      exact h1 _ _ _ r1 Keep.refl rfl
theorem UB.u {x : Tx} {op : BoolOp} {es : List Expr} (h : UB X W F x op es pos) (hx : ∀ i, x ≠ .slot i) : U3 X W F x (.BoolOp op es pos) := by
  refine ⟨h.E, ?_, fun _ => h.W.pt⟩
  rw [opd_of hx]
  exact pe_imp h.E fun σ H Q q => e_of_o q
theorem u_not (ha : U3 X W F a ea) (ta : noT a = false) : U3 X W F (.not a) (.UnaryOp .Not ea pos) := by
  have hx : opd (.not a) (denE F (.not a)) = fun env => (denE F (.not a) env).bind fun p => .ok (Opd.val p.1.toD, p.2) := by funext; rfl
  have hE : PE X (.UnaryOp .Not ea pos) (uG X.K W (rE X.K) (denE F (.not a))) := by
    refine pe_imp (pe_notT ha.O) fun σ H Q q => ?_
    obtain ⟨B, env, G, rl, h⟩ := q
    simp only [denE, tst] at h
    refine step (ρ := rO X.K) (ρ' := rE X.K) (Q := Q) (f := opd a (denE F a)) (g := fun p => ((ofO (res p.2 p.1)).bind fun d => if truOk d then .ok (truD d, p.2) else .stuck).bind fun p => .ok (.val (.bool (!p.1)), p.2)) rl ?_ fun s v H1 G1 _ r1 k1 o1 h1 => ?_
    · cases e0 : opd a (denE F a) env with
      | stuck => rw [e0] at h; exact h
      | exn c w => rw [e0] at h; exact h
      | ok s => rw [e0] at h; exact h
    · cases e1 : res s.2 s.1 with
      | none => rw [e1] at h1; exact h1.elim
      | some d =>
        rw [e1] at h1
        simp only [ofO, Out.bind] at h1
        cases ok : truOk d with
        | false => rw [ok] at h1; exact h1.elim
        | true =>
          rw [ok] at h1
          exact ⟨_, (o1.view r1 e1).tru r1.sub ok, h1 _ _ _ r1 Keep.refl (.bl _)⟩
  refine ⟨hE, by rw [hx]; exact pe_imp hE fun σ H Q q => e_of_o q, fun _ => pt_imp (pt_not (ha.T ta)) fun σ H Q q => ?_⟩
  obtain ⟨B, env, G, rl, h⟩ := q
  simp only [tst] at h; rw [hx] at h; simp only [denE, tst] at h
  refine ⟨B, env, G, rl, ?_⟩
  simp only [tst]
  cases e0 : opd a (denE F a) env with
  | stuck => rw [e0] at h; exact h
  | exn c w => rw [e0] at h; exact h
  | ok s =>
    rw [e0] at h
    simp only [Out.bind] at h ⊢
    cases e1 : res s.2 s.1 with
    | none => rw [e1] at h; exact h
    | some d =>
      rw [e1] at h
      simp only [ofO] at h ⊢
      cases ok : truOk d with
      | false => rw [ok] at h; exact h.elim
      | true =>
        rw [ok] at h
        simp only [if_true] at h ⊢
        intro v H' G' r' k' q
        cases q
        exact h _ H' G' r' k' rfl
theorem u_ite (hc : U3 X W F c ec) (tc : noT c = false) (ha : U3 X W F a ea) (hb : U3 X W F b eb) : U3 X W F (.ite c a b) (.IfExp ec ea eb pos) := by
  have hx : opd (.ite c a b) (denE F (.ite c a b)) = fun env => (denE F (.ite c a b) env).bind fun p => .ok (Opd.val p.1.toD, p.2) := by funext; rfl
  have hE : PE X (.IfExp ec ea eb pos) (uG X.K W (rE X.K) (denE F (.ite c a b))) := by
    refine pe_imp (pe_ifExp (hc.T tc) ha.E hb.E) fun σ H Q q => ?_
    obtain ⟨B, env, G, rl, h⟩ := q
    simp only [denE] at h
    refine step (ρ := rB) (f := tst (opd c (denE F c))) rl h fun s v H1 G1 _ r1 k1 o1 h1 => ?_
    cases o1
    cases e2 : s.1 with
    | true =>
      simp only [e2, if_true] at h1 ⊢
      exact ⟨B, _, G1, r1, h1⟩
    | false =>
      simp only [e2, Bool.false_eq_true, if_false] at h1 ⊢
      exact ⟨B, _, G1, r1, h1⟩
  exact ⟨hE, by rw [hx]; exact pe_imp hE fun σ H Q q => e_of_o q, fun q => by simp [noT] at q⟩
end
end U
end

section
namespace U
open PySem PySem.Spec PyProof.Rows L2

/-! ### arguments -/
def nst : Expr → Bool
  | .Starred _ _ => false
  | _ => true
theorem star_of {e : Expr} {es : List Expr} {env : PySem.Env} (h : nst e = true) : starEach (e :: es) env = (false, eval e env) :: starEach es env := by
  cases e <;> first | rfl | simp [nst] at h
theorem stars_of {env : PySem.Env} : ∀ {es : List Expr}, es.all nst = true → ∀ x ∈ starEach es env, x.1 = false
  | [], _, x, h => by simp [starEach] at h
  | e :: es, a, x, h => by
    simp only [List.all_cons, Bool.and_eq_true] at a
    rw [star_of a.1] at h
    rcases List.mem_cons.mp h with rfl | h
    · rfl
    · exact stars_of a.2 x h
theorem plain_of {env : PySem.Env} {es : List Expr} {pos : Pos} (h : es.all nst = true) : (backTo pos (starEach es env)).any (·.1) = false := by
  rw [List.any_eq_false]
  intro x hx
  unfold backTo at hx
  obtain ⟨⟨s, t⟩, h1, rfl⟩ := List.mem_map.mp hx
  have := stars_of h _ h1
  simp only at this
  simp [this]

section
variable {X : Cx} {W : XW} {F : Fns} {e ea eb ec : Expr} {a b c : Tx} {es : List Expr} {pos p : Pos}
structure UA (X : Cx) (W : XW) (F : Fns) (x : Tx) (es : List Expr) : Prop where
  O : PA X es (uG X.K W (rOs X.K) (denOs F x))
  V : PA X es (uG X.K W (rL X.K) (denL F x))
  ns : es.all nst = true
theorem ua_nil : UA X W F .nil [] := by
  refine ⟨pa_imp pa_nil fun σ H Q q => ?_, pa_imp pa_nil fun σ H Q q => ?_, rfl⟩
  · obtain ⟨B, env, G, rl, h⟩ := q
    simp only [denOs] at h
    exact h [] H G rl Keep.refl rfl
  · obtain ⟨B, env, G, rl, h⟩ := q
    simp only [denL] at h
    exact h [] H G rl Keep.refl .nil
theorem ua_cons {x y : Tx} (ha : U3 X W F x e) (hs : UA X W F y es) (n : nst e = true) : UA X W F (.cons x y) (e :: es) := by
  refine ⟨pa_imp (pa_cons ha.O hs.O (star_of n)) fun σ H Q q => ?_, pa_imp (pa_cons ha.V hs.V (star_of n)) fun σ H Q q => ?_, by simp [n, hs.ns]⟩
  · obtain ⟨B, env, G, rl, h⟩ := q
    simp only [denOs] at h
    refine step (ρ := rO X.K) (f := opd x (denE F x)) rl h fun s v H1 G1 _ r1 k1 o1 h1 => ?_
    refine step (ρ := rOs X.K) (f := denOs F y) r1 h1 fun t ws H2 G2 _ r2 k2 o2 h2 => ?_
    exact h2 _ H2 G2 r2 Keep.refl ⟨v, ws, rfl, OpV.keep o1 k2.sub, o2⟩
  · obtain ⟨B, env, G, rl, h⟩ := q
    simp only [denL] at h
    refine step (ρ := rV X.K) (f := fun env => frz (denE F x env)) rl h fun s v H1 G1 _ r1 k1 o1 h1 => ?_
    refine step (ρ := rL X.K) (f := denL F y) r1 h1 fun t ws H2 G2 _ r2 k2 o2 h2 => ?_
    exact h2 _ H2 G2 r2 Keep.refl (.cons (Rp.same k2.sub o1) o2)

/-! ### displays -/
theorem tup_new {K : PySem.W.Frag} {H G : Hp} {p : Addr} {vs : List V} {ds : List D} (hp : H p = none) (g : Same G H) (r : Rps K G vs ds) : Rp K (upd G p (.tup vs)) (.ref p) (.tuple ds) :=
  .tup (.inl (.inl upd_same)) (r.same (same_upd (g.free hp)))
theorem u_tup {x : Tx} {k : Nat} (h : UA X W F x es) : U3 X W F (.tup x) (.Tuple es k pos) := by
  refine U3.mk' (pe_imp (pe_tup h.V) fun σ H Q q => ?_) (by funext; rfl) fun _ => rfl
  obtain ⟨B, env, G, rl, h⟩ := q
  simp only [denE] at h
  refine step (ρ := rL X.K) (f := denL F x) rl h fun s vs H1 G1 _ r1 k1 o1 h1 => ?_
  split at h1
  · rename_i hl
    have hr : Rps X.K G1 vs s.1 := o1
    refine ⟨by rw [hr.length, ← line_eq]; exact hl, fun q hq => ?_⟩
    exact h1 _ _ _ (r1.put hq) (Keep.put hq (r1.sub.free hq)) (tup_new hq r1.sub hr)
  · exact h1.elim
theorem u_lst {x : Tx} (h : UA X W F x es) : U3 X W F (.lst x) (.List es pos) := by
  refine U3.mk' (pe_imp (pe_lst h.V) fun σ H Q q => ?_) (by funext; rfl) fun _ => rfl
  obtain ⟨B, env, G, rl, h⟩ := q
  simp only [denE] at h
  refine step (ρ := rL X.K) (f := denL F x) rl h fun s vs H1 G1 _ r1 k1 o1 h1 => ?_
  split at h1
  · rename_i hl
    have hr : Rps X.K G1 vs s.1 := o1
    refine ⟨by rw [hr.length, ← line_eq]; exact hl, fun q hq => ?_⟩
    exact h1 _ _ _ (r1.alloc hq) (Keep.alloc hq) ⟨q, rfl, hq, r1.sub.free hq, vs, upd_same, hr⟩
  · exact h1.elim
theorem u_dict0 : U3 X W F .dict0 (.Dict [] [] pos) := by
  refine U3.mk' (pe_imp pe_dnewK fun σ H Q q => ?_) (by funext; rfl) fun _ => rfl
  obtain ⟨B, env, G, rl, h⟩ := q
  simp only [denE] at h
  exact fun q hq => h _ _ _ (rl.alloc hq) (Keep.alloc hq) ⟨q, rfl, hq, rl.sub.free hq, [], upd_same, .nil⟩

/-! ### -x, x[i], x[i:j], x[::-1] -/
theorem u_neg (ha : U3 X W F a ea) : U3 X W F (.neg a) (.UnaryOp .USub ea pos) := by
  refine U3.mk' (pe_imp (pe_un un_neg ha.O) fun σ H Q q => ?_) (by funext; rfl) fun _ => rfl
  obtain ⟨B, env, G, rl, h⟩ := q
  simp only [denE] at h
  refine step (ρ := rO X.K) (f := opd a (denE F a)) rl h fun s v H1 G1 _ r1 k1 o1 h1 => ?_
  split at h1
  · rename_i i e1
    refine ⟨i, (o1.view r1 e1).int, h1 _ _ _ r1 Keep.refl (.int _)⟩
  · exact h1.elim
theorem ixAt_ixN {n : Nat} {i : Int} : ixAt n i = ixN n i := rfl
/-- d[k] -/
def rIxD : R2 := fun x y H Q => ∃ a v, x = .ref a ∧ DGet H a y (some v) ∧ Q v H
theorem ix_dict (hu : X.A.units + 1 < cLine) : IxR X rIxD := by
  intro value slice pins s σ H x y v u Q I rx ry h hs
  obtain ⟨a, w, rfl, g, q⟩ := h
  obtain rfl : v = Value.ref a := rx
  have hT := dict_typeIs I g
  unfold subscriptTail
  refine wpAny_bind ?_
  rw [getitemInPython_of_ne hT.not_modules]
  refine wpAny_bind (wpAny_specialOf hT PySem.F.slot_dict_getitem.lookup ?_)
  have fin : wpAny (model X.prog X.w) X.A (subscripted slice false (.ref a) u) (fun r s₃ => wpAny (model X.prog X.w) X.A (letTemporaryGo value (.ref a) r >>= fun _ => pure r) (EP X pins σ Q) X.xe s₃) X.xe s := by
    rw [hs]
    exact wpAny_operating (d_getItem hu I g ry fun w' s3 I3 rw' => wpAny_bind (wpAny_letTemporaryGo (wpAny_pure ⟨w, H, I3, rw', q⟩)))
  first
    | exact wpAny_pure (wpAny_bind fin)
    | exact wpAny_bind (wpAny_pure (wpAny_bind fin))
    | exact wpAny_bind fin
theorem idx_ok : Op2Ok X (fun x y H Q => rIx X.K x y H Q ∨ rIxD x y H Q) (fun x y => (idxD x y).map .val) := by
  intro G H x y a b s Q g va vb e q
  by_cases hd : ∃ kvs, a = .dict kvs
  · obtain ⟨kvs, rfl⟩ := hd
    right
    have key : keyOk b = true ∧ dicOk kvs = true ∧ (dget kvs b).map Rs.val = some s := by
      have e2 : idxD (.dict kvs) b = if keyOk b && dicOk kvs then dget kvs b else none := by cases b <;> rfl
      have e : (idxD (.dict kvs) b).map Rs.val = some s := e
      rw [e2] at e
      split at e
      · rename_i h
        simp only [Bool.and_eq_true] at h
        exact ⟨h.1, h.2, e⟩
      · cases e
    obtain ⟨h1, h2, e⟩ := key
    obtain ⟨k, rfl, rfl, _⟩ := vb.key h1
    obtain ⟨p, vs, rfl, h3, r⟩ := va.dict g h2
    have := r.get k
    cases hg : dget kvs (keyD k) with
    | none => rw [hg] at e; cases e
    | some d =>
      rw [hg] at this e
      cases e
      obtain ⟨v, h4, h5⟩ := this
      exact ⟨p, v, rfl, by rw [← h4]; exact DGet.k h3, q v H G ⟨rfl, rfl, h5⟩⟩
  have nd : ∀ kvs, a ≠ .dict kvs := fun kvs h => hd ⟨kvs, h⟩
  left
  cases a <;> cases b <;> first | exact absurd rfl (nd _) | skip
  all_goals simp only [idxD, reduceCtorEq, Option.map_none] at e
  case str.int z i =>
    rw [va.str.1, vb.int]
    split at e
    · rename_i hl
      rw [tx_len, line_eq] at hl
      cases e1 : ixAt (tx z).length i with
      | none => simp [e1] at e
      | some j =>
        cases e2 : (tx z)[j]? with
        | none => simp [e1, e2] at e
        | some c =>
          simp [e1, e2] at e
          subst e
          refine .inr (.inr ⟨z, i, c, rfl, rfl, hl, ?_, ?_⟩)
          · show (ixN z.cps.toList.length i).bind _ = _
            have : ixN z.cps.toList.length i = some j := e1
            rw [this]; exact e2
          · refine q _ H G ⟨rfl, rfl, .str _ ?_⟩
            exact sOk_sub va.str.2 fun d hd => by
              have : d = c := by simpa [tx] using hd
              subst this
              exact List.mem_of_getElem? e2
    · cases e
  case list.int xs i =>
    obtain ⟨a1, vs, rfl, h1, r1⟩ := va.list g
    rw [vb.int]
    cases e1 : ixAt xs.length i with
    | none => simp [e1] at e
    | some j =>
      cases e2 : xs[j]? with
      | none => simp [e1, e2] at e
      | some d =>
        simp [e1, e2] at e
        subst e
        obtain ⟨v, h3, h4⟩ := r1.get e2
        refine .inl ⟨a1, vs, i, v, rfl, rfl, .inl (.inl h1), ?_, q v H G ⟨rfl, rfl, h4⟩⟩
        show (ixN vs.length i).bind _ = _
        rw [r1.length]
        have : ixN xs.length i = some j := e1
        rw [this]; exact h3
  case tuple.int xs i =>
    obtain ⟨a1, vs, rfl, h1, r1, _⟩ := va.tup g
    rw [vb.int]
    cases e1 : ixAt xs.length i with
    | none => simp [e1] at e
    | some j =>
      cases e2 : xs[j]? with
      | none => simp [e1, e2] at e
      | some d =>
        simp [e1, e2] at e
        subst e
        obtain ⟨v, h3, h4⟩ := r1.get e2
        refine .inr (.inl ⟨a1, vs, i, v, rfl, rfl, h1, ?_, q v H G ⟨rfl, rfl, h4⟩⟩)
        show (ixN vs.length i).bind _ = _
        rw [r1.length]
        have : ixN xs.length i = some j := e1
        rw [this]; exact h3
theorem u_idx (hu : X.A.units + 65 < cLine) (ha : U3 X W F a ea) (hb : U3 X W F b eb) (hs : PlainIx eb) : U3 X W F (.idx a b) (.Subscript ea eb pos) := by
  refine U3.mk' (pe_imp (pe_ix (ix_seq.or (ix_dict (by omega))) ha.O hb.O hs) fun σ H Q q => u_two idx_ok ha hb ?_) (by funext; rfl) fun _ => rfl
  obtain ⟨B, env, G, r, q⟩ := q
  simp only [denE] at q
  refine ⟨B, env, G, r, ?_⟩
  have e2 : ∀ x y (w : Ev), (ofO ((idxD x y).map Rs.val)).bind (fun r : Rs => Out.ok (α := R × Ev) (r.toR, w)) = (ofO (idxD x y)).bind fun r => .ok (.val r, w) := fun x y w => by
    cases idxD x y <;> rfl
  simp only [e2]
  exact q

/-- a bound -/
structure UPo (X : Cx) (W : XW) (F : Fns) (x : Tx) (e : Option Expr) : Prop where
  P : PO X e (uG X.K W rB (denP F x))
theorem po_imp {e : Option Expr} {t t' : TO} (h : PO X e t) (i : ∀ σ H Q, t' σ H Q → t σ H Q) : PO X e t' := ⟨fun pins s σ H Q I q => h.run pins s σ H Q I (i _ _ _ q)⟩
theorem upo_none : UPo X W F .nil none := by
  refine ⟨po_imp po_none fun σ H Q q => ?_⟩
  obtain ⟨B, env, G, rl, h⟩ := q
  simp only [denP] at h
  exact h none H G rl Keep.refl rfl
theorem upo_some (ha : U3 X W F a ea) : UPo X W F (.cons a .nil) (some ea) := by
  refine ⟨po_imp (po_some ha.O) fun σ H Q q => ?_⟩
  obtain ⟨B, env, G, rl, h⟩ := q
  simp only [denP] at h
  refine step (ρ := rO X.K) (f := opd a (denE F a)) rl h fun s v H1 G1 _ r1 k1 o1 h1 => ?_
  split at h1
  · rename_i i e1
    exact ⟨i, (o1.view r1 e1).int, h1 _ _ _ r1 Keep.refl rfl⟩
  · exact h1.elim
theorem bnd_sIx (n d : Nat) (o : Option Int) : bnd n d o = HT.sIx n d o := by
  cases o with
  | none => rfl
  | some i =>
    show (if 0 ≤ i then min i.toNat n else (i + n).toNat) = if i < 0 then (i + (n : Int)).toNat else min i.toNat n
    split <;> split <;> first | rfl | omega
theorem cut_V {xs : List V} {ds : List D} (h : xs.length = ds.length) (lo hi : Option Int) : cutV xs lo hi = cut xs lo hi := by
  unfold cutV cut
  simp only [bnd_sIx]
theorem Rps.cut {K : PySem.W.Frag} {G : Hp} {vs : List V} {ds : List D} (r : Rps K G vs ds) (lo hi : Option Int) : Rps K G (cut vs lo hi) (cut ds lo hi) := by
  unfold U.cut
  rw [r.length]
  exact (r.drop _).take _
theorem cut_mem {α : Type} {xs : List α} {lo hi : Option Int} {c : α} (h : c ∈ cut xs lo hi) : c ∈ xs := List.mem_of_mem_drop (List.mem_of_mem_take h)
theorem cutS_eq (z : Str) (lo hi : Option Int) : cutS z lo hi = ⟨⟨cut (tx z) lo hi⟩⟩ := by
  unfold cutS cut
  simp only [bnd_sIx]
  rfl
theorem u_sl {lo hi : Tx} {el eh : Option Expr} {p2 : Pos} (ha : U3 X W F a ea) (hl : UPo X W F lo el) (hh : UPo X W F hi eh) : U3 X W F (.sl a lo hi) (.Subscript ea (.Slice el eh none p2) pos) := by
  refine U3.mk' (pe_imp (pe_slice (SlR.or (SlR.or sl_list sl_str) sl_tupA) ha.O hl.P hh.P) fun σ H Q q => ?_) (by funext; rfl) fun _ => rfl
  obtain ⟨B, env, G, rl, h⟩ := q
  simp only [denE] at h
  refine step (ρ := rO X.K) (f := opd a (denE F a)) rl h fun s v H1 G1 _ r1 k1 o1 h1 => ?_
  refine step (ρ := rB) (f := denP F lo) r1 h1 fun t lv H2 G2 _ r2 k2 o2 h2 => ?_
  refine step (ρ := rB) (f := denP F hi) r2 h2 fun u hv H3 G3 _ r3 k3 o3 h3 => ?_
  cases o2
  cases o3
  cases e1 : res u.2 s.1 with
  | none => rw [e1] at h3; exact h3.elim
  | some d =>
    rw [e1] at h3
    have vw := (OpV.keep o1 (k2.sub.trans k3.sub)).view r3 e1
    cases d <;> simp only [slD, ofO, Out.bind] at h3
    case str z =>
      by_cases hz : (tx z).length ≤ line
      · rw [if_pos hz] at h3
        refine .inl (.inr ⟨z, vw.str.1, by rw [← tx_len, ← line_eq]; exact hz, ?_⟩)
        rw [cutS_eq]
        exact h3 _ _ _ r3 Keep.refl (.str _ (sOk_sub vw.str.2 fun c hc => cut_mem hc))
      · rw [if_neg hz] at h3
        exact h3.elim
    case list xs =>
      obtain ⟨p, vs, rfl, h4, r4⟩ := vw.list r3.sub
      refine .inl (.inl ⟨p, vs, rfl, .inl (.inl h4), fun q hq => ?_⟩)
      rw [cut_V r4.length]
      exact h3 _ _ _ (r3.alloc hq) (Keep.alloc hq) ⟨q, rfl, hq, r3.sub.free hq, _, upd_same, r4.cut _ _⟩
    case tuple xs =>
      obtain ⟨p, vs, rfl, h4, r4, t4⟩ := vw.tup r3.sub
      refine .inr ⟨p, vs, rfl, h4, fun hw => ?_, fun hw q hq => ?_⟩
      · simp only [← bnd_sIx, r4.length] at hw
        rw [if_pos hw] at h3
        exact h3 _ _ _ r3 Keep.refl t4
      · simp only [← bnd_sIx, r4.length] at hw
        rw [if_neg hw] at h3
        rw [cut_V r4.length]
        exact h3 _ _ _ (r3.put hq) (Keep.put hq (r3.sub.free hq)) (tup_new hq r3.sub (r4.cut _ _))
    all_goals exact h3.elim
end
end U
end

section
namespace U
open PySem PySem.Spec PyProof.Rows L2

section
variable {X : Cx} {W : XW} {F : Fns} {e ea eb ec : Expr} {a b c : Tx} {es : List Expr} {pos p : Pos}

/-! ### x[::-1] -/
theorem strSlice_rev (n : Nat) : Builtin.Str.strSliceIndices none none (-1) n = (List.range n).map fun k => n - 1 - k := by
  have : Builtin.Str.strSliceIndices none none (-1) n = sliceRange ((n : Int) - 1) (-1) (-1) := rfl
  rw [this, PySem.W.krv_sliceRange]
theorem pick_rev {α : Type} (xs : Array α) : ((List.range xs.size).map fun k => xs.size - 1 - k).filterMap (xs[·]?) = xs.toList.reverse := by
  rw [PySem.W.krv_range, List.filterMap_reverse, PySem.W.krv_all]
theorem slicePart_neg1 {prog : Program} {w : World} {A : Around} {E : Value → Shared → Prop} {s : Shared} {sl : Addr} {vl vu vs : Value} {n : Nat} {Q : Int × Int × Nat → Shared → Prop} (hs : s.heap.IsSliceOf sl vl vu vs) (pl : IsPart vl none) (pu : IsPart vu none) (ps : IsPart vs (some (-1)))
    (h : Q ((n : Int) - 1, -1, n) s) : wpAny (model prog w) A (Builtin.Slice.sliceApplied (.ref sl) (pure (n : Int))) Q E s := by
  obtain ⟨os, hos, hcs, hds⟩ := id hs
  unfold Builtin.Slice.sliceApplied Builtin.Slice.sliceFields
  refine wpAny_bind (wpAny_bind (wpAny_field hos hds (x := vl) rfl (wpAny_bind (wpAny_field hos hds (x := vu) rfl (wpAny_bind (wpAny_field hos hds (x := vs) rfl (wpAny_pure ?_)))))))
  refine wpAny_bind (HT.slicePart_ ps ?_)
  show wpAny _ _ (if ((-1 : Int) == 0) = true then _ else _) _ _ s
  rw [if_neg (by decide)]
  refine wpAny_bind (HT.slicePart_ pl (wpAny_bind (HT.slicePart_ pu (wpAny_bind (wpAny_pure ?_)))))
  have e : Builtin.Slice.sliceAdjust none none (-1) (n : Int) = ((n : Int) - 1, -1) := by
    first | rfl | simp [Builtin.Slice.sliceAdjust]
  have e2 : Builtin.Slice.slicePlaces ((n : Int) - 1) (-1) (-1) = n := by
    unfold Builtin.Slice.slicePlaces
    have h1 : ¬ ((-1 : Int) > 0) := by decide
    simp only [h1, if_false]
    split <;> simp <;> omega
  show wpAny _ _ (match Builtin.Slice.sliceAdjust none none (-1) (n : Int) with | (lo, hi) => pure (lo, (-1 : Int), Builtin.Slice.slicePlaces lo hi (-1))) _ _ s
  rw [e]
  show wpAny _ _ (pure ((n : Int) - 1, (-1 : Int), Builtin.Slice.slicePlaces ((n : Int) - 1) (-1) (-1))) _ _ s
  rw [e2]
  exact wpAny_pure h
theorem pick_tup (xs : Array Value) : ((List.range xs.size).filterMap fun (m : Nat) => xs[(((xs.size : Int) - 1) + (m : Int) * (-1)).toNat]?) = xs.toList.reverse := by
  rw [← pick_rev, List.filterMap_map]
  have key : ∀ l : List Nat, (∀ m ∈ l, m < xs.size) → l.filterMap (fun (m : Nat) => xs[(((xs.size : Int) - 1) + (m : Int) * (-1)).toNat]?) = l.filterMap ((fun x => xs[x]?) ∘ fun k => xs.size - 1 - k) := by
    intro l
    induction l with
    | nil => intro _; rfl
    | cons m l ih =>
      intro h
      have hm := h m List.mem_cons_self
      have e : (((xs.size : Int) - 1) + (m : Int) * (-1)).toNat = xs.size - 1 - m := by omega
      rw [List.filterMap_cons, List.filterMap_cons, ih fun k hk => h k (List.mem_cons_of_mem _ hk), e]
      rfl
  exact key _ fun m hm => List.mem_range.mp hm
theorem getItem_tuple_rev {prog : Program} {w : World} {A : Around} {E : Value → Shared → Prop} {s : Shared} {t sl : Addr} {items : Array Value} {vl vu vs : Value} {Q : Value → Shared → Prop} (ht : IsTup s.heap t items) (hs : s.heap.IsSliceOf sl vl vu vs) (pl : IsPart vl none) (pu : IsPart vu none) (ps : IsPart vs (some (-1)))
    (h : Q (.ref s.heap.objs.size) { s with heap := s.heap.push { cls := .type "tuple", data := .seq items.toList.reverse.toArray } })
    (hsz : items.size ≤ sizeLine) : wpAny (model prog w) A (getItem (.ref t) (.ref sl)) Q E s := by
  have htake : sizeOk (.seq items.toList.reverse.toArray) := by
    show items.toList.reverse.toArray.size ≤ sizeLine
    simpa using hsz
  obtain ⟨os, hos, hcs, hds⟩ := id hs
  have hTs : s.TypeIs (.ref sl) "slice" := ⟨os, hos, hcs⟩
  unfold getItem
  try with_reducible refine wpAny_holding ?_
  first | refine wpAny_bind (wpAny_pure ?_) | skip
  refine wpAny_bind (wpAny_sequenceKey ht.typeIs (by decide) ?_)
  refine wpAny_bind (wpAny_callSpecial?_slot (name := Str.ofString "__getitem__") ht.typeIs PyProof.Rows.slot_tuple_getitem
    (wpAny_call_entry PyProof.Rows.slot_tuple_getitem ht.typeIs entry_tuple_getitem ?_ (args_tuple_getitem _ _)))
  show wpAny _ _ (Builtin.Tuple.tupleItemsOf (.ref t) >>= _) _ _ s
  refine wpAny_bind (tupleItemsOf_ ht ?_)
  refine wpAny_bind (wpAny_typeOf hTs ?_)
  rw [if_pos (by decide)]
  refine wpAny_bind (slicePart_neg1 hs pl pu ps ?_)
  have hno : ¬ ((((items.size : Int) - 1) == 0 && (-1 : Int) == 1 && items.size == items.size) = true) := by
    simp
  show wpAny _ _ (if (((items.size : Int) - 1) == 0 && (-1 : Int) == 1 && items.size == items.size) = true then _ else _) _ _ s
  rw [if_neg hno, pick_tup]
  first
    | exact wpAny_bind (m := Builtin.Tuple.tupleExact _) (wpAny_newObj_type (wpAny_pure ⟨_, rfl, wpAny_pure h⟩) htake)
    | exact wpAny_bind (m := Builtin.Tuple.tupleExact _) (wpAny_newObj_type (wpAny_bind (wpAny_pure (wpAny_pure ⟨_, rfl, wpAny_pure h⟩))) htake)
    | exact wpAny_bind (wpAny_bind (m := Builtin.Tuple.tupleExact _) (wpAny_newObj_type (wpAny_pure (wpAny_pure ⟨_, rfl, wpAny_pure h⟩)) htake))
    | exact wpAny_bind (wpAny_bind (m := Builtin.Tuple.tupleExact _) (wpAny_newObj_type (wpAny_pure ⟨_, rfl, wpAny_pure h⟩) htake))
def tRevA (K : PySem.W.Frag) (te : TE) : TE := fun σ H Q => te σ H fun x H1 => (∃ a xs, x = .ref a ∧ SqL K H1 a xs ∧ ∀ p, H1 p = none → Q (.ref p) (upd H1 p (.lst xs.reverse))) ∨
  (∃ a xs, x = .ref a ∧ SqT K H1 a xs ∧ ∀ p, H1 p = none → Q (.ref p) (upd H1 p (.tup xs.reverse))) ∨ ∃ z, x = .str z ∧ z.length ≤ sizeLine ∧ Q (.str ⟨⟨(tx z).reverse⟩⟩) H1
theorem pe_revA {e : Expr} {te : TE} {k : Nat} {p1 p2 p3 pos : Pos} (he : PE X e te) : PE X (.Subscript e (.Slice none none (some (.UnaryOp .USub (.Constant (.int 1) k p1) p2)) p3) pos) (tRevA X.K te) := by
  refine ⟨fun pins s σ H Q I h => ?_⟩
  refine Subscript_ (thn (he.run pins s σ H _ I h) fun v s1 ⟨x, H1, I1, r1, q1⟩ => ?_)
  have hst : PO X (some (.UnaryOp .USub (.Constant (.int 1) k p1) p2)) (tPart (tUn (rU fun i => .int (-i)) (tC (.int 1)))) := po_some (pe_un un_neg pe_int)
  refine wpAny_Slice (thn (po_none.run pins s1 σ H1 (fun o H2 => o = none ∧ H2 = H1) I1 ⟨rfl, rfl⟩) fun vl s2 ⟨l, H2, I2, pl, el, e2⟩ => ?_)
  subst el e2
  refine thn (po_none.run pins s2 σ H2 (fun o H3 => o = none ∧ H3 = H2) I2 ⟨rfl, rfl⟩) fun vu s3 ⟨u, H3, I3, pu, eu, e3⟩ => ?_
  subst eu e3
  refine thn (hst.run pins s3 σ H3 (fun o H4 => o = some (-1) ∧ H4 = H3) I3 ⟨1, rfl, -1, rfl, rfl, rfl⟩) fun vs s4 ⟨o, H4, I4, ps, eo, e4⟩ => ?_
  subst eo e4
  have I5 : Inv X pins σ H4 { s4 with heap := s4.heap.push { cls := .type "slice", data := .fields #[vl, vu, vs] } } := I4.kept (t' := s4.toks) fun b ob q => Heap.get?_push_of_some _ q
  rcases q1 with ⟨a, xs, ex, hx, q⟩ | ⟨a, xs, ex, hx, q⟩ | ⟨z, ez, hz, q⟩
  · subst ex
    cases r1
    obtain ⟨its, r, ht, hz⟩ := I5.list hx
    have hlen := r.length
    refine tail_any (ops := [.ref a, .ref s4.heap.objs.size]) ht.isList.typeIs (PySem.slot_list_getitem.lookup) ?_ (by with_unfolding_all rfl)
    refine wpAny_getItem_list_slice ht.isList (Heap.IsSliceOf.new _ vl vu vs) pl pu ps (by decide) ?_ (by rw [List.size_toArray]; omega)
    rw [PySem.W.krv_pick]
    refine ⟨.ref _, _, I5.laid (t' := s4.toks) (o := .lst xs.reverse) (fun b ob q => Heap.get?_push_of_some _ q) (Nat.le_refl _) ?_, rfl, q _ (I5.hok.fresh (Nat.le_refl _))⟩
    exact ⟨by rw [List.length_reverse]; exact hz, _, 0, r.reverse, Heap.get?_push_size _ rfl⟩
  · subst ex
    cases r1
    obtain ⟨its, r, ht, hz⟩ := I5.tuple hx
    have hlen := r.length
    refine tail_any (ops := [.ref a, .ref s4.heap.objs.size]) ht.typeIs (PyProof.Rows.slot_tuple_getitem.lookup) ?_ (by with_unfolding_all rfl)
    refine getItem_tuple_rev ht (Heap.IsSliceOf.new _ vl vu vs) pl pu ps ?_ (by rw [List.size_toArray]; omega)
    refine ⟨.ref _, _, I5.laid (t' := s4.toks) (o := .tup xs.reverse) (fun b ob q => Heap.get?_push_of_some _ q) (Nat.le_refl _) ?_, rfl, q _ (I5.hok.fresh (Nat.le_refl _))⟩
    exact ⟨by rw [List.length_reverse]; exact hz, _, r.reverse, IsTup.new _ _⟩
  · subst ez
    obtain ⟨t, rfl⟩ := r1
    obtain ⟨l, el, e2⟩ := IsPart.raw pl
    obtain ⟨u, eu, e3⟩ := IsPart.raw pu
    obtain ⟨st, es, e4⟩ := IsPart.raw ps
    refine tail_any (ops := [.str z t, .ref s4.heap.objs.size]) (typeIs_str _ _ _) (F.slot_str_getitem.lookup) ?_ (by with_unfolding_all rfl)
    obtain ⟨os, hos, hcs, hds⟩ := Heap.IsSliceOf.new s4.heap vl vu vs
    refine wpAny_getItem_str_slice (l := l) (u := u) (st := st) ⟨os, hos, hcs, by rw [hds, el, eu, es]⟩ (by rw [e4]; rfl) ?_
    have hp : PySem.slicePicked z l u st = (List.range z.length).map fun k => z.length - 1 - k := by
      unfold slicePicked
      rw [e2, e3, e4]
      exact strSlice_rev _
    unfold sliceMade
    rw [hp, if_neg (by rw [e4]; simp)]
    have e5 : (((List.range z.length).map fun k => z.length - 1 - k).filterMap (z.cps[·]?)) = (tx z).reverse := pick_rev z.cps
    rw [e5]
    refine ⟨?_, .str _, H4, I5.tok _, ⟨_, rfl⟩, q⟩
    show (tx z).reverse.toArray.size ≤ sizeLine
    rw [List.size_toArray, List.length_reverse, tx_len]; exact hz
theorem u_rev {k : Nat} {p1 p2 p3 : Pos} (ha : U3 X W F a ea) : U3 X W F (.rev a) (.Subscript ea (.Slice none none (some (.UnaryOp .USub (.Constant (.int 1) k p1) p2)) p3) pos) := by
  refine U3.mk' (pe_imp (pe_revA ha.O) fun σ H Q q => ?_) (by funext; rfl) fun _ => rfl
  obtain ⟨B, env, G, rl, h⟩ := q
  simp only [denE] at h
  refine step (ρ := rO X.K) (f := opd a (denE F a)) rl h fun s v H1 G1 _ r1 k1 o1 h1 => ?_
  split at h1
  · rename_i z e1
    have vw := o1.view r1 e1
    split at h1
    · rename_i hz
      refine .inr (.inr ⟨z, vw.str.1, by rw [← tx_len, ← line_eq]; exact hz, ?_⟩)
      exact h1 _ _ _ r1 Keep.refl (.str _ (sOk_sub vw.str.2 fun c hc => List.mem_reverse.mp hc))
    · exact h1.elim
  · rename_i xs e1
    obtain ⟨p, vs, rfl, h4, r4⟩ := (o1.view r1 e1).list r1.sub
    exact .inl ⟨p, vs, rfl, .inl (.inl h4), fun q hq => h1 _ _ _ (r1.alloc hq) (Keep.alloc hq) ⟨q, rfl, hq, r1.sub.free hq, _, upd_same, r4.reverse⟩⟩
  · rename_i xs e1
    obtain ⟨p, vs, rfl, h4, r4, t4⟩ := (o1.view r1 e1).tup r1.sub
    exact .inr (.inl ⟨p, vs, rfl, h4, fun q hq => h1 _ _ _ (r1.put hq) (Keep.put hq (r1.sub.free hq)) (tup_new hq r1.sub r4.reverse)⟩)
  · exact h1.elim
end
end U
end

section
namespace U
open PySem PySem.Spec PyProof.Rows L2

theorem intsOf_v {K : PySem.W.Frag} {G : Hp} : ∀ {vs : List V} {ds : List D} {ns : List Int}, Rps K G vs ds → intsOf ds = some ns → vs = ns.map V.int
  | _, _, _, .nil, e => by cases e; rfl
  | _, _, _, .cons h r, e => by
    rename_i ns v vs d ds
    have e0 : ∃ i, d = .int i := by
      cases d <;> first | exact ⟨_, rfl⟩ | (simp [intsOf] at e; done)
    obtain ⟨i, rfl⟩ := e0
    have e : (intsOf ds).map (fun is => i :: is) = some ns := e
    cases q : intsOf ds with
    | none => simp [q] at e
    | some ms =>
      simp [q] at e
      subst e
      cases h
      rw [intsOf_v r q]; rfl
theorem boolsOf_v {K : PySem.W.Frag} {G : Hp} : ∀ {vs : List V} {ds : List D} {ns : List Bool}, Rps K G vs ds → boolsOf ds = some ns → vs = ns.map V.bl
  | _, _, _, .nil, e => by cases e; rfl
  | _, _, _, .cons h r, e => by
    rename_i ns v vs d ds
    have e0 : ∃ i, d = .bool i := by
      cases d <;> first | exact ⟨_, rfl⟩ | (simp [boolsOf] at e; done)
    obtain ⟨i, rfl⟩ := e0
    have e : (boolsOf ds).map (fun is => i :: is) = some ns := e
    cases q : boolsOf ds with
    | none => simp [q] at e
    | some ms =>
      simp [q] at e
      subst e
      cases h
      rw [boolsOf_v r q]; rfl
theorem strsOf_v {K : PySem.W.Frag} {G : Hp} : ∀ {vs : List V} {ds : List D} {ls : List (List Nat)}, Rps K G vs ds → strsOf ds = some ls → ∃ xs : List Str, vs = xs.map V.str ∧ ls = xs.map tx ∧ ∀ x ∈ xs, sOk (tx x) = true
  | _, _, _, .nil, e => by cases e; exact ⟨[], rfl, rfl, fun _ h => nomatch h⟩
  | _, _, _, .cons h r, e => by
    rename_i ns v vs d ds
    have e0 : ∃ i, d = .str i := by
      cases d <;> first | exact ⟨_, rfl⟩ | (simp [strsOf] at e; done)
    obtain ⟨x, rfl⟩ := e0
    have e : (strsOf ds).map (fun is => tx x :: is) = some ns := e
    cases q : strsOf ds with
    | none => simp [q] at e
    | some ms =>
      simp [q] at e
      subst e
      cases h with
      | str _ hx =>
        obtain ⟨xs, e1, e2, e3⟩ := strsOf_v r q
        refine ⟨x :: xs, by rw [e1]; rfl, by rw [e2]; rfl, fun y hy => ?_⟩
        rcases List.mem_cons.mp hy with rfl | hy
        · exact hx
        · exact e3 y hy
theorem join_L (s : Str) : ∀ xs : List Str, tx (Str.join s xs) = joinL (tx s) (xs.map tx)
  | [] => rfl
  | [x] => rfl
  | x :: y :: r => by
    have ih := join_L s (y :: r)
    show tx (x ++ s ++ Str.join s (y :: r)) = _
    rw [S_app, S_app]
    show (tx x ++ tx s) ++ tx (Str.join s (y :: r)) = _
    rw [ih]; rfl
theorem joinL_mem (sep : List Nat) : ∀ (ls : List (List Nat)) (c : Nat), c ∈ joinL sep ls → c ∈ sep ∨ ∃ l ∈ ls, c ∈ l
  | [], _, h => nomatch h
  | [x], c, h => .inr ⟨x, List.mem_cons_self, h⟩
  | x :: y :: r, c, h => by
    rcases List.mem_append.mp h with h | h
    · rcases List.mem_append.mp h with h | h
      · exact .inr ⟨x, List.mem_cons_self, h⟩
      · exact .inl h
    · rcases joinL_mem sep (y :: r) c h with h | ⟨l, hl, hc⟩
      · exact .inl h
      · exact .inr ⟨l, List.mem_cons_of_mem _ hl, hc⟩

/-- a rule of a call by values does what the table says -/
def CallOk (X : Cx) (r : List V → Hp → VK → Prop) (t : List D → Option Rs) : Prop := ∀ (G H : Hp) (vs : List V) (ds : List D) (s : Rs) (Q : V → Hp → Prop), Same G H → Vws X.K G H vs ds → t ds = some s → (∀ v H' G', New X.K H G s v H' G' → Q v H') → r vs H Q
/-- of a method -/
def MetOk (X : Cx) (r : V → List V → Hp → VK → Prop) (t : D → List D → Option Rs) : Prop := ∀ (G H : Hp) (v : V) (vs : List V) (d : D) (ds : List D) (s : Rs) (Q : V → Hp → Prop), Same G H → Vw X.K G H v d → Vws X.K G H vs ds → t d ds = some s → (∀ v H' G', New X.K H G s v H' G' → Q v H') → r v vs H Q

theorem Vws.len {K : PySem.W.Frag} {G H : Hp} : ∀ {vs : List V} {ds : List D}, Vws K G H vs ds → vs.length = ds.length
  | [], _, h => by cases h; rfl
  | _ :: _, _, ⟨d, es, e, _, h⟩ => by subst e; rw [List.length_cons, List.length_cons, Vws.len h]
theorem Vws.one {K : PySem.W.Frag} {G H : Hp} {vs : List V} {d : D} (h : Vws K G H vs [d]) : ∃ v, vs = [v] ∧ Vw K G H v d := by
  cases vs with
  | nil => cases h
  | cons v vs =>
    obtain ⟨d', es, e, h1, h2⟩ := h
    cases e
    cases vs with
    | nil => exact ⟨v, rfl, h1⟩
    | cons w ws => obtain ⟨_, _, e, _⟩ := h2; cases e
theorem Vws.two {K : PySem.W.Frag} {G H : Hp} {vs : List V} {d d2 : D} (h : Vws K G H vs [d, d2]) : ∃ v w, vs = [v, w] ∧ Vw K G H v d ∧ Vw K G H w d2 := by
  cases vs with
  | nil => cases h
  | cons v vs =>
    obtain ⟨d', es, e, h1, h2⟩ := h
    cases e
    obtain ⟨w, e, h3⟩ := Vws.one h2
    exact ⟨v, w, by rw [e], h1, h3⟩

section
variable {X : Cx} {W : XW} {F : Fns} {e ea eb ec : Expr} {a b c : Tx} {es : List Expr} {pos p : Pos}
theorem bi_read {r : List V → Hp → VK → Prop} {f : Bi} {x : Tx} (ok : CallOk X r (biD f)) {σ : St} {H : Hp} {Q : V → Hp → Prop} (h : uG X.K W (rE X.K) (denE F (.bi f x)) σ H Q) : tCB r (uG X.K W (rOs X.K) (denOs F x)) σ H Q := by
  obtain ⟨B, env, G, rl, h⟩ := h
  simp only [denE] at h
  refine step (ρ := rOs X.K) (f := denOs F x) rl h fun s vs H1 G1 _ r1 k1 o1 h1 => ?_
  cases e1 : resAll s.2 s.1 with
  | none => rw [e1] at h1; exact h1.elim
  | some ds =>
    rw [e1] at h1
    simp only [ofO, Out.bind] at h1
    cases e2 : biD f ds with
    | none => rw [e2] at h1; exact h1.elim
    | some q =>
      rw [e2] at h1
      refine ok G1 H1 vs ds q Q r1.sub (OpVs.view r1 o1 e1) e2 fun u H' G' n => ?_
      obtain ⟨r3, k3, n3⟩ := n.fin r1
      exact h1 u H' G' r3 k3 n3
theorem u_biB {f : Bi} {r : List V → Hp → VK → Prop} {id : String} {nm : Str} {x : Tx} (hc : CallR X (.builtin id) r) (ok : CallOk X r (biD f)) (hg : Gl X nm) (hm : X.mg nm = none) (hv : bootBuiltins nm = some (.builtin id)) (ha : UA X W F x (e :: es))
    (hn : nm ≠ "__name__") (hdb : (nm == ("__debug__" : Str)) = false) : U3 X W F (.bi f x) (.Call (.Name nm p) (e :: es) [] pos) := by
  have ns := ha.ns
  simp only [List.all_cons, Bool.and_eq_true] at ns
  exact U3.mk' (pe_imp (pe_callB hc hg hm hv ha.O hn hdb (star_of ns.1) (plain_of ns.2)) fun σ H Q q => bi_read ok q) (by funext; rfl) fun _ => rfl
theorem u_biT {f : Bi} {r : List V → Hp → VK → Prop} {T : String} {nm : Str} {x : Tx} (hc : CallR X (.type T) r) (ok : CallOk X r (biD f)) (hg : Gl X nm) (hm : X.mg nm = none) (hv : bootBuiltins nm = some (.type T)) (ha : UA X W F x (e :: es))
    (hn : nm ≠ "__name__") (hdb : (nm == ("__debug__" : Str)) = false) : U3 X W F (.bi f x) (.Call (.Name nm p) (e :: es) [] pos) := by
  have ns := ha.ns
  simp only [List.all_cons, Bool.and_eq_true] at ns
  exact U3.mk' (pe_imp (pe_callTy hc hg hm hv ha.O hn hdb (star_of ns.1) (plain_of ns.2)) fun σ H Q q => bi_read ok q) (by funext; rfl) fun _ => rfl

theorem len_ok : CallOk X (fun xs H Q => (∃ x n, xs = [x] ∧ LenV X.K x H n ∧ Q (.int n) H) ∨ ∃ a kvs, xs = [V.ref a] ∧ H a = some (.dK kvs) ∧ Q (.int kvs.length) H) (biD .len) := by
  intro G H vs ds s Q g vw e q
  match ds, e with
  | [.str x], e =>
    obtain ⟨v, rfl, h⟩ := vw.one
    simp only [biD] at e
    split at e
    · rename_i hl
      cases e
      rw [h.str.1]
      rw [tx_len, line_eq] at hl
      refine .inl ⟨_, x.length, rfl, ⟨hl, rfl⟩, ?_⟩
      rw [← tx_len]
      exact q _ H G ⟨rfl, rfl, .int _⟩
    · cases e
  | [.list xs], e =>
    obtain ⟨v, rfl, h⟩ := vw.one
    cases e
    obtain ⟨a, vs, rfl, h1, r⟩ := h.list g
    refine .inl ⟨_, vs.length, rfl, .inl ⟨vs, .inl (.inl h1), rfl⟩, ?_⟩
    rw [r.length]
    exact q _ H G ⟨rfl, rfl, .int _⟩
  | [.tuple xs], e =>
    obtain ⟨v, rfl, h⟩ := vw.one
    cases e
    obtain ⟨a, vs, rfl, h1, r, _⟩ := h.tup g
    refine .inl ⟨_, vs.length, rfl, .inr ⟨vs, h1, rfl⟩, ?_⟩
    rw [r.length]
    exact q _ H G ⟨rfl, rfl, .int _⟩
  | [.dict kvs], e =>
    obtain ⟨v, rfl, h⟩ := vw.one
    rcases h.dic g with ⟨a, vs, rfl, h1, r⟩ | ⟨a, xs, es, rfl, h1, r, rfl⟩
    · simp only [biD] at e
      split at e
      · cases e
      · cases e
        refine .inr ⟨a, vs, rfl, h1, ?_⟩
        rw [r.len]
        exact q _ H G ⟨rfl, rfl, .int _⟩
    · simp [biD] at e
theorem abs_ok : CallOk X (fun xs H Q => ∃ i, xs = [.int i] ∧ Q (.int (if i < 0 then -i else i)) H) (biD .abs) := by
  intro G H vs ds s Q g vw e q
  match ds, e with
  | [.int i], e =>
    obtain ⟨v, rfl, h⟩ := vw.one
    cases e
    exact ⟨i, by rw [h.int], q _ H G ⟨rfl, rfl, .int _⟩⟩
theorem int_ok : CallOk X (fun xs H Q => (∃ i, xs = [.int i] ∧ Q (.int i) H) ∨ ∃ k, xs = [.bl k] ∧ Q (.int (if k then 1 else 0)) H) (biD .int) := by
  intro G H vs ds s Q g vw e q
  match ds, e with
  | [.int i], e =>
    obtain ⟨v, rfl, h⟩ := vw.one
    cases e
    exact .inl ⟨i, by rw [h.int], q _ H G ⟨rfl, rfl, .int _⟩⟩
  | [.bool i], e =>
    obtain ⟨v, rfl, h⟩ := vw.one
    cases e
    exact .inr ⟨i, by rw [h.bool], q _ H G ⟨rfl, rfl, .int _⟩⟩
theorem str_ok : CallOk X (fun xs H Q => ∃ a, xs = [.str a] ∧ Q (.str a) H) (biD .str) := by
  intro G H vs ds s Q g vw e q
  match ds, e with
  | [.str i], e =>
    obtain ⟨v, rfl, h⟩ := vw.one
    cases e
    exact ⟨i, by rw [h.str.1], q _ H G ⟨rfl, rfl, .str _ h.str.2⟩⟩
theorem sum_ok : CallOk X (rSum X.K) (biD .sum) := by
  intro G H vs ds s Q g vw e q
  match ds, e with
  | [.list xs], e =>
    obtain ⟨v, rfl, h⟩ := vw.one
    obtain ⟨a, vs, rfl, h1, r⟩ := h.list g
    simp only [biD] at e
    cases e1 : intsOf xs with
    | none => simp [e1] at e
    | some ns =>
      simp [e1] at e
      subst e
      have := intsOf_v r e1
      subst this
      exact ⟨a, ns, rfl, .inl (.inl h1), q _ H G ⟨rfl, rfl, .int _⟩⟩
theorem all_ok : CallOk X (rAll X.K) (biD .all) := by
  intro G H vs ds s Q g vw e q
  match ds, e with
  | [.list xs], e =>
    obtain ⟨v, rfl, h⟩ := vw.one
    obtain ⟨a, vs, rfl, h1, r⟩ := h.list g
    simp only [biD] at e
    cases e1 : boolsOf xs with
    | none => simp [e1] at e
    | some ns =>
      simp [e1] at e
      subst e
      have := boolsOf_v r e1
      subst this
      exact ⟨a, ns, rfl, .inl (.inl h1), q _ H G ⟨rfl, rfl, .bl _⟩⟩
theorem any_ok : CallOk X (rAny X.K) (biD .any) := by
  intro G H vs ds s Q g vw e q
  match ds, e with
  | [.list xs], e =>
    obtain ⟨v, rfl, h⟩ := vw.one
    obtain ⟨a, vs, rfl, h1, r⟩ := h.list g
    simp only [biD] at e
    cases e1 : boolsOf xs with
    | none => simp [e1] at e
    | some ns =>
      simp [e1] at e
      subst e
      have := boolsOf_v r e1
      subst this
      exact ⟨a, ns, rfl, .inl (.inl h1), q _ H G ⟨rfl, rfl, .bl _⟩⟩
theorem foldmin : ∀ (ns : List Int) (n : Int), (ns.foldl (fun a b => if b < a then b else a) n ∈ n :: ns) ∧ ∀ y ∈ n :: ns, ns.foldl (fun a b => if b < a then b else a) n ≤ y
  | [], n => ⟨by simp, by simp⟩
  | m :: ns, n => by
    obtain ⟨h1, h2⟩ := foldmin ns (if m < n then m else n)
    simp only [List.foldl_cons]
    have hc : (if m < n then m else n) ≤ m ∧ (if m < n then m else n) ≤ n ∧ ((if m < n then m else n) = m ∨ (if m < n then m else n) = n) := by split <;> omega
    generalize (if m < n then m else n) = k at *
    generalize List.foldl (fun a b => if b < a then b else a) k ns = z at *
    have h3 := h2 k List.mem_cons_self
    refine ⟨?_, fun y hy => ?_⟩
    · rcases List.mem_cons.mp h1 with h | h
      · rcases hc.2.2 with q | q <;> simp [h, q]
      · simp [h]
    · rcases List.mem_cons.mp hy with rfl | hy
      · omega
      · rcases List.mem_cons.mp hy with rfl | hy
        · omega
        · exact h2 y (List.mem_cons_of_mem _ hy)
theorem foldmax : ∀ (ns : List Int) (n : Int), (ns.foldl (fun a b => if a < b then b else a) n ∈ n :: ns) ∧ ∀ y ∈ n :: ns, y ≤ ns.foldl (fun a b => if a < b then b else a) n
  | [], n => ⟨by simp, by simp⟩
  | m :: ns, n => by
    obtain ⟨h1, h2⟩ := foldmax ns (if n < m then m else n)
    simp only [List.foldl_cons]
    have hc : m ≤ (if n < m then m else n) ∧ n ≤ (if n < m then m else n) ∧ ((if n < m then m else n) = m ∨ (if n < m then m else n) = n) := by split <;> omega
    generalize (if n < m then m else n) = k at *
    generalize List.foldl (fun a b => if a < b then b else a) k ns = z at *
    have h3 := h2 k List.mem_cons_self
    refine ⟨?_, fun y hy => ?_⟩
    · rcases List.mem_cons.mp h1 with h | h
      · rcases hc.2.2 with q | q <;> simp [h, q]
      · simp [h]
    · rcases List.mem_cons.mp hy with rfl | hy
      · omega
      · rcases List.mem_cons.mp hy with rfl | hy
        · omega
        · exact h2 y (List.mem_cons_of_mem _ hy)
theorem min_ok : CallOk X (fun xs H Q => (∃ i j, xs = [.int i, .int j] ∧ Q (.int (if j < i then j else i)) H) ∨ rMin X.K xs H Q) (biD .min) := by
  intro G H vs ds s Q g vw e q
  match ds, e with
  | [.int i, .int j], e =>
    obtain ⟨v, w, rfl, h1, h2⟩ := vw.two
    cases e
    rw [h1.int, h2.int]
    exact .inl ⟨i, j, rfl, q _ H G ⟨rfl, rfl, .int _⟩⟩
  | [.list xs], e =>
    obtain ⟨v, rfl, h⟩ := vw.one
    obtain ⟨a, vs, rfl, h1, r⟩ := h.list g
    simp only [biD] at e
    cases e1 : intsOf xs with
    | none => simp [e1] at e
    | some ns =>
      cases ns with
      | nil => simp [e1] at e
      | cons n ns =>
        simp [e1] at e
        subst e
        have := intsOf_v r e1
        subst this
        refine .inr ⟨a, n :: ns, rfl, .inl (.inl h1), by simp, fun m hm hle => ?_⟩
        obtain ⟨f1, f2⟩ := foldmin ns n
        have : m = ns.foldl (fun a b => if b < a then b else a) n := Int.le_antisymm (hle _ f1) (f2 m hm)
        rw [this]
        exact q _ H G ⟨rfl, rfl, .int _⟩
theorem max_ok : CallOk X (fun xs H Q => (∃ i j, xs = [.int i, .int j] ∧ Q (.int (if j > i then j else i)) H) ∨ rMax X.K xs H Q) (biD .max) := by
  intro G H vs ds s Q g vw e q
  match ds, e with
  | [.int i, .int j], e =>
    obtain ⟨v, w, rfl, h1, h2⟩ := vw.two
    cases e
    rw [h1.int, h2.int]
    exact .inl ⟨i, j, rfl, q _ H G ⟨rfl, rfl, .int _⟩⟩
  | [.list xs], e =>
    obtain ⟨v, rfl, h⟩ := vw.one
    obtain ⟨a, vs, rfl, h1, r⟩ := h.list g
    simp only [biD] at e
    cases e1 : intsOf xs with
    | none => simp [e1] at e
    | some ns =>
      cases ns with
      | nil => simp [e1] at e
      | cons n ns =>
        simp [e1] at e
        subst e
        have := intsOf_v r e1
        subst this
        refine .inr ⟨a, n :: ns, rfl, .inl (.inl h1), by simp, fun m hm hle => ?_⟩
        obtain ⟨f1, f2⟩ := foldmax ns n
        have : m = ns.foldl (fun a b => if a < b then b else a) n := Int.le_antisymm (f2 m hm) (hle _ f1)
        rw [this]
        exact q _ H G ⟨rfl, rfl, .int _⟩
theorem vals_of : ∀ {xs : List V} {us : List Value}, xs.length = us.length → (∀ (i : Nat) x u, xs[i]? = some x → us[i]? = some u → RelV x u) → Vals xs us
  | [], [], _, _ => .nil
  | x :: xs, u :: us, h, k => .cons (k 0 x u rfl rfl) (vals_of (by simpa using h) fun i y w a b => k (i + 1) y w (by simpa using a) (by simpa using b))
  | [], _ :: _, h, _ => by simp at h
  | _ :: _, [], h, _ => by simp at h
theorem signs_vals (x : Str) {acc : Array Value} (h : ItemsOf (SignAt x) acc x.cps.size) : Vals ((tx x).map fun c => V.str ⟨⟨[c]⟩⟩) acc.toList := by
  obtain ⟨h1, h2⟩ := h
  refine vals_of (by rw [List.length_map, tx_len, Array.length_toList, h1]; rfl) fun i v u a b => ?_
  obtain ⟨c, t, h3, h4⟩ := h2 i u (by simpa using b)
  subst h4
  rw [List.getElem?_map] at a
  have : (tx x)[i]? = some c := by simpa [tx] using h3
  rw [this] at a
  cases a
  exact ⟨t, rfl⟩
theorem call_list_str' (hc : X.calm = true) : CallR X (.type "list") (fun xs H Q => ∃ z, xs = [.str z] ∧ z.length ≤ sizeLine ∧ ∀ l, H l = none → Q (.ref l) (upd H l (.lst ((tx z).map fun c => V.str ⟨⟨[c]⟩⟩)))) := by
  intro pins s σ H xs us Q I r h
  obtain ⟨z, rfl, hz, q⟩ := h
  obtain ⟨u, rfl, rx⟩ := vals1 r
  obtain ⟨t, rfl⟩ := rx
  refine call_list_str (I.ok.hd hc) z t (fun h' tk acc c' kp e it => ?_) hz
  refine ⟨.ref s.heap.objs.size, _, I.laid (t' := tk) kp (Nat.le_refl _) (show ObjOk X.prog X.w _ h' _ (.lst _) from ⟨?_, acc.toList, c', signs_vals z it, by rw [e]⟩), rfl, q _ (I.hok.fresh (Nat.le_refl _))⟩
  rw [List.length_map, tx_len]; exact hz
theorem call_tuple_str' (hc : X.calm = true) : CallR X (.type "tuple") (fun xs H Q => ∃ z, xs = [.str z] ∧ z.length ≤ sizeLine ∧ ∀ l, H l = none → Q (.ref l) (upd H l (.tup ((tx z).map fun c => V.str ⟨⟨[c]⟩⟩)))) := by
  intro pins s σ H xs us Q I r h
  obtain ⟨z, rfl, hz, q⟩ := h
  obtain ⟨u, rfl, rx⟩ := vals1 r
  obtain ⟨t, rfl⟩ := rx
  refine call_tuple_str (I.ok.hd hc) z t (fun h' tk acc kp it => ?_) hz
  have I1 : Inv X pins σ H { s with heap := h', toks := tk } := I.kept kp
  refine ⟨.ref h'.objs.size, _, I1.laid (t' := tk) (fun b o e => Heap.get?_push_of_some _ e) (Nat.le_refl _) (show ObjOk X.prog X.w _ _ _ (.tup _) from ⟨?_, acc.toList, signs_vals z it, ?_⟩), rfl, q _ (I1.hok.fresh (Nat.le_refl _))⟩
  · rw [List.length_map, tx_len]; exact hz
  · have := IsTup.new h' acc
    simpa using this
theorem tuple_ok : CallOk X (fun xs H Q => (∃ p ys, xs = [.ref p] ∧ ((SqL X.K H p ys ∧ ∀ l, H l = none → Q (.ref l) (upd H l (.tup ys))) ∨ (SqT X.K H p ys ∧ Q (.ref p) H))) ∨ ∃ z, xs = [.str z] ∧ z.length ≤ sizeLine ∧ ∀ l, H l = none → Q (.ref l) (upd H l (.tup ((tx z).map fun c => V.str ⟨⟨[c]⟩⟩)))) (biD .tuple) := by
  intro G H vs ds s Q g vw e q
  match ds, e with
  | [.list xs], e =>
    obtain ⟨v, rfl, h⟩ := vw.one
    cases e
    obtain ⟨a, vs, rfl, h1, r⟩ := h.list g
    exact .inl ⟨a, vs, rfl, .inl ⟨.inl (.inl h1), fun l hl => q _ _ _ ⟨l, vs, rfl, hl, rfl, rfl, r⟩⟩⟩
  | [.tuple xs], e =>
    obtain ⟨v, rfl, h⟩ := vw.one
    cases e
    obtain ⟨a, vs, rfl, h1, r, t⟩ := h.tup g
    exact .inl ⟨a, vs, rfl, .inr ⟨h1, q _ _ _ ⟨rfl, rfl, t⟩⟩⟩
  | [.str x], e =>
    obtain ⟨v, rfl, h⟩ := vw.one
    simp only [biD] at e
    split at e
    · rename_i hl
      cases e
      rw [h.str.1]
      refine .inr ⟨x, rfl, by rw [← tx_len, ← line_eq]; exact hl, fun l hl => q _ _ _ ⟨l, _, rfl, hl, rfl, rfl, ?_⟩⟩
      have key : ∀ l : List Nat, (∀ c ∈ l, c ∈ tx x) → Rps X.K G (l.map fun c => V.str ⟨⟨[c]⟩⟩) (l.map fun c => S [c]) := by
        intro l
        induction l with
        | nil => intro _; exact .nil
        | cons c l ih => exact fun hc => .cons (.str _ (sOk_sub h.str.2 fun d hd => by
            have : d = c := by simpa [tx] using hd
            subst this
            exact hc d List.mem_cons_self)) (ih fun d hd => hc d (List.mem_cons_of_mem _ hd))
      exact key _ fun _ h => h
    · cases e
  | .str _ :: _ :: _, e => simp [biD] at e
theorem list_ok : CallOk X (fun xs H Q => (∃ p ys, xs = [.ref p] ∧ (SqL X.K H p ys ∨ SqT X.K H p ys) ∧ ∀ l, H l = none → Q (.ref l) (upd H l (.lst ys))) ∨ ∃ z, xs = [.str z] ∧ z.length ≤ sizeLine ∧ ∀ l, H l = none → Q (.ref l) (upd H l (.lst ((tx z).map fun c => V.str ⟨⟨[c]⟩⟩)))) (biD .list) := by
  intro G H vs ds s Q g vw e q
  match ds, e with
  | [.str x], e =>
    obtain ⟨v, rfl, h⟩ := vw.one
    simp only [biD] at e
    split at e
    · rename_i hl
      cases e
      rw [h.str.1]
      refine .inr ⟨x, rfl, by rw [← tx_len, ← line_eq]; exact hl, fun l hl => q _ _ _ ⟨l, _, rfl, hl, rfl, rfl, _, upd_same, ?_⟩⟩
      have key : ∀ l : List Nat, (∀ c ∈ l, c ∈ tx x) → Rps X.K G (l.map fun c => V.str ⟨⟨[c]⟩⟩) (l.map fun c => S [c]) := by
        intro l
        induction l with
        | nil => intro _; exact .nil
        | cons c l ih => exact fun hc => .cons (.str _ (sOk_sub h.str.2 fun d hd => by
            have : d = c := by simpa [tx] using hd
            subst this
            exact hc d List.mem_cons_self)) (ih fun d hd => hc d (List.mem_cons_of_mem _ hd))
      exact key _ fun _ h => h
    · cases e
  | [.list xs], e =>
    obtain ⟨v, rfl, h⟩ := vw.one
    cases e
    obtain ⟨a, vs, rfl, h1, r⟩ := h.list g
    exact .inl ⟨a, vs, rfl, .inl (.inl (.inl h1)), fun l hl => q _ _ _ ⟨l, _, rfl, hl, rfl, rfl, vs, upd_same, r⟩⟩
  | [.tuple xs], e =>
    obtain ⟨v, rfl, h⟩ := vw.one
    cases e
    obtain ⟨a, vs, rfl, h1, r, t⟩ := h.tup g
    exact .inl ⟨a, vs, rfl, .inr h1, fun l hl => q _ _ _ ⟨l, _, rfl, hl, rfl, rfl, vs, upd_same, r⟩⟩
  | [.dict kvs], e =>
    obtain ⟨v, rfl, h⟩ := vw.one
    rcases h.dic g with ⟨a, vs, rfl, h1, r⟩ | ⟨a, xs, es, rfl, h1, r, rfl⟩
    · have k0 : ∀ (k : Key) d ds, biD .list [.dict ((keyD k, d) :: ds)] = none := fun k d ds => by cases k <;> rfl
      have : biD .list [.dict kvs] = none := by
        cases r with
        | nil => rfl
        | cons h r => exact k0 _ _ _
      rw [this] at e; cases e
    · cases e
      exact .inl ⟨a, xs, rfl, .inl h1, fun l hl => q _ _ _ ⟨l, _, rfl, hl, rfl, rfl, xs, upd_same, r⟩⟩
  | .dict _ :: _ :: _, e => simp [biD] at e

/-! ### isinstance -/
def isTab (T : String) : Bool := T == "int" || T == "bool" || T == "str" || T == "list" || T == "tuple" || T == "dict"
theorem is_ok {T : String} (ht : isTab T = true) {G H : Hp} {v : V} {d : D} {s : Rs} (g : Same G H) (vw : Vw X.K G H v d) (e : biD (.isinst [T]) [d] = some s) : ∃ (t : Value) (b : Bool), TyX X.K H v t ∧ PySem.W.kitOne X.K t (.type T) = some b ∧ s = .val (.bool b) := by
  have key : ∀ {t : String} {b : Bool}, TyX X.K H v (.type t) → some (Rs.val (.bool b)) = some s → kitB t T = some b → ∃ (t : Value) (b : Bool), TyX X.K H v t ∧ PySem.W.kitOne X.K t (.type T) = some b ∧ s = .val (.bool b) := fun {t b} h1 h2 h3 => by
    cases h2
    exact ⟨_, b, h1, kit_ty h3, rfl⟩
  have T6 : T = "int" ∨ T = "bool" ∨ T = "str" ∨ T = "list" ∨ T = "tuple" ∨ T = "dict" := by
    simp only [isTab, Bool.or_eq_true, beq_iff_eq] at ht
    rcases ht with ((((h | h) | h) | h) | h) | h <;> simp [h]
  cases d with
  | none =>
    obtain rfl := vw.none
    refine key (.base .non) e ?_
    rcases T6 with h | h | h | h | h | h <;> subst h <;> decide +kernel
  | bool b =>
    obtain rfl := vw.bool
    refine key (.base (.bl b)) e ?_
    rcases T6 with h | h | h | h | h | h <;> subst h <;> decide +kernel
  | int i =>
    obtain rfl := vw.int
    refine key (.base (.int i)) e ?_
    rcases T6 with h | h | h | h | h | h <;> subst h <;> decide +kernel
  | str x =>
    obtain ⟨rfl, _⟩ := vw.str
    refine key (.base (.str x)) e ?_
    rcases T6 with h | h | h | h | h | h <;> subst h <;> decide +kernel
  | list xs =>
    obtain ⟨a, vs, rfl, h1, r⟩ := vw.list g
    refine key (.base (.lst h1)) e ?_
    rcases T6 with h | h | h | h | h | h <;> subst h <;> decide +kernel
  | tuple xs =>
    obtain ⟨a, vs, rfl, h1, r, _⟩ := vw.tup g
    have ty : TyX X.K H (.ref a) (.type "tuple") := by
      rcases h1 with (h1 | ⟨o, h1⟩) | ⟨o, its, n, h1, h2, _⟩
      · exact .base (.tup h1)
      · exact .fTuple h1
      · exact .kTuple h1 h2
    refine key ty e ?_
    rcases T6 with h | h | h | h | h | h <;> subst h <;> decide +kernel
  | dict kvs =>
    rcases vw.dic g with ⟨a, vs, rfl, h1, r⟩ | ⟨a, xs, es, rfl, h1, r, rfl⟩
    · have k0 : ∀ (k : Key) d ds, biD (.isinst [T]) [.dict ((keyD k, d) :: ds)] = some (Rs.val (.bool ([T].contains "dict"))) := fun k d ds => by cases k <;> rfl
      have e : some (Rs.val (.bool ([T].contains "dict"))) = some s := by
        cases r with
        | nil => exact e
        | cons h r => rw [k0] at e; exact e
      refine key (.base (.dK h1)) e ?_
      rcases T6 with h | h | h | h | h | h <;> subst h <;> decide +kernel
    · simp [biD] at e
theorem u_isinst {T : String} {nT : Str} {p2 : Pos} {k : Nat} (ht : isTab T = true) (hg : Gl X "isinstance") (hm : X.mg "isinstance" = none) (hgT : Gl X nT) (hmT : X.mg nT = none) (hvT : bootBuiltins nT = some (.type T)) (hnT : nT ≠ "__name__") (hdT : (nT == ("__debug__" : Str)) = false)
    (ha : U3 X W F a ea) (na : nst ea = true) : U3 X W F (.bi (.isinst [T]) (.cons a .nil)) (.Call (.Name "isinstance" p) [ea, .Name nT p2] [] pos) := by
  have hT : PE X (.Name nT p2) (tC (.ty T)) := pe_bltn hgT hmT hvT rfl hnT hdT
  refine U3.mk' (pe_imp (pe_callB call_isi hg hm boot_isinstance (pa_cons ha.O (pa_cons hT pa_nil rfl) (star_of na)) (by decide) (by decide) (star_of na) (by rfl)) fun σ H Q q => ?_) (by funext; rfl) fun _ => rfl
  obtain ⟨B, env, G, rl, h⟩ := q
  simp only [denE, denOs] at h
  refine step (ρ := rO X.K) (ρ' := rE X.K) (Q := Q) (f := opd a (denE F a)) (g := fun s => (ofO (resAll s.2 [s.1])).bind fun ds => (ofO (biD (.isinst [T]) ds)).bind fun r => .ok (r.toR, s.2)) rl ?_ fun s v H1 G1 _ r1 k1 o1 h1 => ?_
  · cases e0 : opd a (denE F a) env with
    | stuck => rw [e0] at h; exact h
    | exn c w => rw [e0] at h; exact h
    | ok s => rw [e0] at h; exact h
  · cases e1 : res s.2 s.1 with
    | none => simp only [resAll, e1] at h1; exact h1.elim
    | some d =>
      simp only [resAll, e1, Option.bind, ofO, Out.bind] at h1
      cases e2 : biD (.isinst [T]) [d] with
      | none => rw [e2] at h1; exact h1.elim
      | some q =>
        rw [e2] at h1
        obtain ⟨t, b, h3, h4, rfl⟩ := is_ok ht r1.sub (o1.view r1 e1) e2
        exact ⟨v, .ty T, t, .type T, b, rfl, .ty T, h3, h4, h1 _ _ _ r1 Keep.refl (.bl _)⟩
end
end U
end

section
namespace U
open PySem PySem.W PySem.Calls PyProof.Rows
section
variable {prog : Program} {w : World} {A : Around} {E : Value → Shared → Prop} {s : Shared} {β : Type} {enc : β → PyData} {R : Value → β → Prop} {v : Value} {Q : Value → Shared → Prop}
theorem sorted_at (ha1 : argsOk "sorted" ⟨[v], []⟩) {C : List Value → Shared → Prop}
    (hcol : ∀ {E' : Value → Shared → Prop} {Q' : List Value → Shared → Prop}, (∀ vs s', C vs s' → Q' vs s') → wpAny (model prog w) A.in1 (collect v) Q' E' s)
    (hdo : ∀ vs s', C vs s' → ∃ bs : List β, EachIs R vs bs ∧ EachIs (fun u b => ∃ as, Reads s'.heap u (enc b) as) vs bs ∧ AllAlike (bs.map enc) ∧ Sortable (bs.map enc) ∧ bs.length ≤ sizeLine ∧ (∀ b, b ∈ bs → A.units + 2 + (enc b).depth < cLine) ∧
      ∀ (out : List Value) (h' : Heap), out.length = bs.length → EachIs R out (bs.mergeSort (dataLe false enc)) → (∀ b o, s'.heap.get? b = some o → h'.get? b = some o) → (∃ e, h'.get? s'.heap.objs.size = some (seqObj "list" out.toArray e)) → Q (.ref s'.heap.objs.size) { s' with heap := h' }) :
    wpAny (model prog w) A (call (.builtin "sorted") [v]) Q E s := by
  refine call_function_entry_kw kind_sorted plain_sorted entry_sorted ha1 ?_
  unfold Builtin.«sorted»
  refine wpAny_bind (m := checkCount "sorted" 1 1 _) (wpAny_pure ?_)
  refine wpAny_bind (hcol fun vs s' hc => ?_)
  obtain ⟨bs, e, er, hal, hk, hL, hu, q⟩ := hdo vs s' hc
  have hL' : vs.length ≤ sizeLine := by rw [e.length]; exact hL
  refine wpAny_bind (wpAny_newList ?_ hL')
  have at1 : (s'.heap.push (seqObj "list" vs.toArray 0)).get? s'.heap.objs.size = some (seqObj "list" vs.toArray 0) := Heap.get?_push_size _ rfl
  have old1 : ∀ b o, s'.heap.get? b = some o → (s'.heap.push (seqObj "list" vs.toArray 0)).get? b = some o := fun b o e => Heap.get?_push_of_some _ e
  have old2 : ∀ b o, s'.heap.get? b = some o → (sortingHeap (s'.heap.push (seqObj "list" vs.toArray 0)) s'.heap.objs.size vs).get? b = some o := fun b o e =>
    sortingHeap_old (Nat.ne_of_lt (Heap.lt_size e)) (old1 b o e)
  refine wpAny_bind (wpAny_holding (wpAny_call_entry_kw (s := { s' with heap := s'.heap.push (seqObj "list" vs.toArray 0) }) slot_list_sort ⟨_, at1, rfl⟩ entry_list_sort ?body (args_list_sort _)))
  case body =>
    have er' : EachIs (fun u b => ∃ as, Reads (sortingHeap (s'.heap.push (seqObj "list" vs.toArray 0)) s'.heap.objs.size vs) u (enc b) as) vs bs := er.mono fun _ _ ⟨as, r⟩ => ⟨as, PyProof.Rows.Reads.keeps old2 r⟩
    refine list_sort_vals (s := { s' with heap := s'.heap.push (seqObj "list" vs.toArray 0) }) at1 (SortsAt.data (s := { s' with heap := sortingHeap (s'.heap.push (seqObj "list" vs.toArray 0)) s'.heap.objs.size vs }) (each_map (R := fun v d => ∃ as, Reads (sortingHeap (s'.heap.push (seqObj "list" vs.toArray 0)) s'.heap.objs.size vs) v d as) enc er') hal hk (bound_map hu)) hL' ?_
    refine ⟨_, rfl, wpAny_pure ⟨_, rfl, ?_⟩⟩
    refine q _ _ (by rw [sortVals_length false rfl]; exact e.length) (sortVals_data false e er' hal) (fun b o eo => ?_) (sortedHeap_at at1)
    rw [sortedHeap_old (Nat.ne_of_lt (Heap.lt_size eo)) (Heap.lt_size (old1 b o eo))]
    exact old1 b o eo
end
end U
end

section
namespace U
open PySem PySem.Spec PyProof.Rows L2
section
variable {P : Program} {w : World} {κ : Type} [DecidableEq κ] {knd : PySem.KeyKind P w κ} {kf : Value → κ}
/-- what is known of a kind of keys: a value's key -/
structure KfOk (knd : PySem.KeyKind P w κ) (kf : Value → κ) : Prop where
  key : ∀ k v, knd.is k v = true → kf v = k
  sc : ∀ k v, knd.is k v = true → v.scannable = true
/-- the set at a: of the keys ks, each once; it can be walked -/
def SetG (knd : PySem.KeyKind P w κ) (kf : Value → κ) (h : Heap) (a : Addr) (ks : List κ) : Prop :=
  ∃ o es ep t, (h.get? a = some o ∧ o.ExactSet ∧ o.data = .set es ep t) ∧ (ElemsOf knd es.toList ∧ (es.toList.map fun e => kf e.2).Perm ks ∧ ks.Nodup) ∧ es.size < scanBound ∧ t.fits es.size = true ∧ Ris t.place.toList ∧ (w.params.followText "set-order" = true ∨ t.led = true)
theorem SetG.at {h h' : Heap} {a : Addr} {ks : List κ} (G : SetG knd kf h a ks) (k : ∀ o, h.get? a = some o → h'.get? a = some o) : SetG knd kf h' a ks := by
  obtain ⟨o, es, ep, t, ⟨ho, r1⟩, r2⟩ := G
  exact ⟨o, es, ep, t, ⟨k o ho, r1⟩, r2⟩
theorem SetG.len {h : Heap} {a : Addr} {ks : List κ} (G : SetG knd kf h a ks) : ks.length < scanBound := by
  obtain ⟨o, es, ep, t, _, ⟨_, pm, _⟩, hb, _⟩ := G
  have := pm.length_eq
  rw [List.length_map, Array.length_toList] at this
  omega
theorem elem_key (K : KfOk knd kf) {l : List (Int × Value)} (el : ElemsOf knd l) {e : Int × Value} (he : e ∈ l) (k : κ) : knd.is k e.2 = true ↔ kf e.2 = k := by
  obtain ⟨⟨k0, h0, _⟩, _⟩ := el e he
  refine ⟨K.key k e.2, fun q => ?_⟩
  have := K.key k0 e.2 h0
  rw [← q, this]; exact h0
variable {A : Around} {E : Value → Shared → Prop} {s : Shared} {a : Addr} {ks : List κ}
/-- what is added is stored, the table laid anew if it is too full -/
theorem setG_stored {gv : Bool → Sem Unit} (hgv : ∀ (b : Bool) (s₁ : Shared) (Q' : Unit → Shared → Prop), Q' () s₁ → wpAny (model P w) A (gv b) Q' E s₁)
    {o : Obj} {es e1 : Array (Int × Value)} {ep : Nat} {t t1 : SetTable} {ks1 : List κ} (hat : s.heap.get? a = some o ∧ o.ExactSet ∧ o.data = .set es ep t)
    (hk : ElemsOf knd e1.toList ∧ (e1.toList.map fun e => kf e.2).Perm ks1 ∧ ks1.Nodup) (hb : e1.size < scanBound) (hf : t1.fits e1.size = true) (hr : Ris t1.place.toList) (hl : w.params.followText "set-order" = true ∨ t1.led = true)
    {dm : Bool} {R : Option Bool → Shared → Prop} (hR : ∀ h', Heap.SameBut a s.heap h' → SetG knd kf h' a ks1 → R (some true) { s with heap := h' }) :
    wpAny (model P w) A (do
        storeSet a e1 t1
        if (!dm && t1.tooFull) = true then do
            gv (relayAll t1 e1 (SetTable.grown e1.size)).2.2
            storeSet a (relayAll t1 e1 (SetTable.grown e1.size)).1 (relayAll t1 e1 (SetTable.grown e1.size)).2.1
            pure (some true)
          else pure (some true)) R E s := by
  obtain ⟨ho, hx, hd⟩ := hat
  have sb := Heap.SameBut.update s.heap a (Obj.putSet e1 t1)
  have at1 := store_at (es' := e1) (t' := t1) ho hd
  refine wpAny_bind (wpAny_storeSet_of ho hd ?_ (fits_of_scanBound hb))
  split
  · obtain ⟨Z, hZ⟩ : ∃ Z, relayAll t1 e1 (SetTable.grown e1.size) = Z := ⟨_, rfl⟩
    have z1 := relayAll_perm t1 e1 (SetTable.grown e1.size)
    have z2 := relayAll_fits t1 e1 (SetTable.grown e1.size)
    have z3 := relayAll_ris t1 e1 (SetTable.grown e1.size)
    have z4 := relayAll_led t1 e1 (SetTable.grown e1.size)
    rw [hZ] at z1 z2 z3 z4 ⊢
    obtain ⟨e2, t2, gave⟩ := Z
    have zs : e2.size = e1.size := by
      have := z1.length_eq
      rwa [Array.length_toList, Array.length_toList] at this
    have zb : e2.size < scanBound := zs ▸ hb
    refine wpAny_bind (hgv _ _ _ (wpAny_bind (wpAny_storeSet_of at1 rfl ?_ (fits_of_scanBound zb))))
    have at2 := store_at (es' := e2) (t' := t2) at1 rfl
    exact wpAny_pure (hR _ (sb.trans (Heap.SameBut.update _ a _)) ⟨_, e2, _, t2, ⟨at2, hx, rfl⟩, ⟨fun e he => hk.1 e (z1.mem_iff.mp he), (z1.map fun e => kf e.2).trans hk.2.1, hk.2.2⟩, zb, z2, z3, by
      rcases hl with q | q
      · exact .inl q
      · exact .inr (z4.trans q)⟩)
  · exact wpAny_pure (hR _ sb ⟨_, e1, _, t1, ⟨at1, hx, rfl⟩, hk, hb, hf, hr, hl⟩)
/-- with one key more -/
def putK (k : κ) (ks : List κ) : List κ := if k ∈ ks then ks else k :: ks
theorem setG_add {k : κ} {x : Value} {Q : Bool → Shared → Prop} (K : KfOk knd kf) (hx : knd.is k x = true) (G : SetG knd kf s.heap a ks) (room : ks.length + 1 < scanBound)
    (hQ : ∀ b h', Heap.SameBut a s.heap h' → SetG knd kf h' a (putK k ks) → Q b { s with heap := h' }) :
    wpAny (model P w) A (setAddHashed a x (knd.hash k)) Q E s := by
  have G0 := G
  obtain ⟨o, es, ep, t, ⟨ho, hex, hd⟩, ⟨el, pm, nd⟩, hb, hf, hr, hl⟩ := G
  have sc : x.scannable = true := K.sc k x hx
  unfold setAddHashed setAddHashedIn
  refine wpAny_holding (wpAny_bind (wpAny_setState_of ho hd hf ?_))
  dsimp only
  rw [byScan_of sc hb el, if_pos rfl]
  unfold setAddByScan
  refine wpAny_bind (wpAny_bind (wpAny_rule (wpAny_bind (wpAny_setScan_of hx ho hd hf el ?_))))
  have mem : ∀ e ∈ es.toList, knd.is k e.2 = true → k ∈ ks := fun e he q => pm.mem_iff.mp (List.mem_map.mpr ⟨e, he, (elem_key K el he k).mp q⟩)
  cases hfi : List.findIdx? (fun e => knd.is k e.2) es.toList with
  | some j =>
    obtain ⟨hj, pj, _⟩ := List.findIdx?_eq_some_iff_getElem.mp hfi
    have hk : k ∈ ks := mem _ (List.getElem_mem hj) pj
    refine wpAny_pure (wpAny_pure (hQ _ s.heap (Heap.SameBut.refl a s.heap) ?_))
    rw [putK, if_pos hk]; exact G0
  | none =>
    have nk : k ∉ ks := fun z => by
      obtain ⟨e, he, q⟩ := List.mem_map.mp (pm.mem_iff.mpr z)
      have c := List.findIdx?_eq_none_iff.mp hfi e he
      rw [(elem_key K el he k).mpr q] at c
      cases c
    have gvw : ∀ (b : Bool) {s₁ : Shared} {Q' : Unit → Shared → Prop}, Q' () s₁ → wpAny (model P w) A (match b with | true => rule "set.scan.the-table-gave-way" | false => pure ()) Q' E s₁ := by
      intro b s₁ Q' q
      cases b
      · exact wpAny_pure q
      · exact wpAny_rule q
    obtain ⟨Z, hZ⟩ : ∃ Z, layNew t es (knd.hash k) x = Z := ⟨_, rfl⟩
    have z1 := layNew_perm t es (knd.hash k) x
    have z2 := layNew_fits t es (knd.hash k) x
    have z3 := layNew_ris t es (knd.hash k) x hr
    have z4 := layNew_led t es (knd.hash k) x
    dsimp only
    rw [hZ] at z1 z2 z3 z4 ⊢
    obtain ⟨e1, t1, dm, gave⟩ := Z
    rw [Array.toList_push] at z1
    have z5 : e1.toList.Perm ((knd.hash k, x) :: es.toList) := z1.trans (List.perm_append_singleton _ _)
    have k1 : ElemsOf knd e1.toList := fun e he => by
      rcases List.mem_cons.mp (z5.mem_iff.mp he) with q | q
      · subst q; exact ⟨⟨k, hx, rfl⟩, sc⟩
      · exact el e q
    have k2 : (e1.toList.map fun e => kf e.2).Perm (k :: ks) := by
      refine (z5.map fun e => kf e.2).trans ?_
      rw [List.map_cons]
      rw [K.key k x hx]
      exact pm.cons k
    have k3 : (k :: ks).Nodup := List.nodup_cons.mpr ⟨nk, nd⟩
    have zs : e1.size = ks.length + 1 := by
      have := k2.length_eq
      rwa [List.length_map, Array.length_toList, List.length_cons] at this
    have zb : e1.size < scanBound := by rw [zs]; exact room
    have zl : w.params.followText "set-order" = true ∨ t1.led = true := by
      rcases hl with q | q
      · exact .inl q
      · exact .inr (z4.trans q)
    have last : ∀ h', Heap.SameBut a s.heap h' → SetG knd kf h' a (k :: ks) → ∀ b, Q b { s with heap := h' } := fun h' sb g b => hQ b h' sb (by rw [putK, if_neg nk]; exact g)
    have gq : ∀ (b : Bool) (s₁ : Shared) (Q' : Unit → Shared → Prop), Q' () s₁ → wpAny (model P w) A (match b with | true => rule "set.scan.the-table-gave-way" | false => pure ()) Q' E s₁ := fun b s₁ Q' q => gvw b q
    refine wpAny_bind (gvw _ ?_)
    split
    · refine wpAny_bind ?_
      rw [hashByValue_scannable 8 sc]
      refine wpAny_pure (setG_stored (by intro b s₁ Q' q; cases b <;> first | exact wpAny_pure q | exact wpAny_rule q) ⟨ho, hex, hd⟩ ⟨k1, k2, k3⟩ zb ?_ ?_ ?_ ?_)
      · first | (split <;> first | exact z2 | exact SetTable.fits_plain_off z2) | exact z2
      · first | (split <;> exact z3) | exact z3
      · first | (split <;> exact zl) | exact zl
      · intro h' sb g; exact wpAny_pure (last h' sb g _)
    · refine wpAny_bind (wpAny_pure ?_)
      simp only [↓reduceIte]
      exact setG_stored (by intro b s₁ Q' q; cases b <;> first | exact wpAny_pure q | exact wpAny_rule q) ⟨ho, hex, hd⟩ ⟨k1, k2, k3⟩ zb z2 z3 zl fun h' sb g => wpAny_pure (last h' sb g _)
end
end U
end

section
namespace U
open PySem PySem.Spec PyProof.Rows L2
section
variable {P : Program} {w : World} {κ : Type} [DecidableEq κ] {knd : PySem.KeyKind P w κ} {kf : Value → κ} {A : Around}
def gotK (keys : Nat → κ) : Nat → List κ
  | 0 => []
  | i + 1 => putK (keys i) (gotK keys i)
theorem gotK_len (keys : Nat → κ) : ∀ i, (gotK keys i).length ≤ i
  | 0 => Nat.le_refl _
  | i + 1 => by
    have := gotK_len keys i
    rw [gotK, putK]
    split
    · omega
    · rw [List.length_cons]; omega
/-- the items go into the set, one by one -/
theorem setG_loop (K : KfOk knd kf) {R : Result → Shared → Prop} {I : Addr} {fp wr : List Addr} {G : Array GenState → Array GenState → Prop} {n : Nat} {Pv : Nat → Value → Prop} {St : Nat → Shared → Prop}
    (W : WalksS P w A.in1 I fp wr G n Pv St) {D : Addr} (hD : D ∉ fp) (keys : Nat → κ) (hn : n + 1 < scanBound) (hv : ∀ i v, Pv i v → knd.is (keys i) v = true) :
    ∀ (k i : Nat) (s : Shared), n - i = k → i ≤ n → St i s → SetG knd kf s.heap D (gotK keys i) →
      (∀ s', Moved (D :: wr) G s s' → SetG knd kf s'.heap D (gotK keys n) → R (.ok (.ret .none)) s') →
      codeAny (model P w) A (.builtin "set.update.loop" ⟨[.ref D, .ref I], []⟩) R s := by
  have hDw : D ∉ wr := fun h => hD (W.sub _ h)
  have up : ∀ b ∈ wr, b ∈ D :: wr := fun b hb => List.mem_cons_of_mem _ hb
  intro k
  induction k with
  | zero =>
    intro i s e hi st g fin
    obtain rfl : i = n := by omega
    refine codeAny_builtin F.entry_set_update_loop ?_
    rw [Around.under_plainId F.plain_set_update_loop _]
    show wpAny _ A.in1 (pyNext (.ref I) >>= _) _ _ s
    refine wpAny_bind (W.done s _ _ st fun s' mv => ?_)
    show wpAny _ A.in1 (ret Value.none) _ _ s'
    exact wpAny_pure (fin s' (mv.mono up) (g.at fun o e => mv.heap D o hDw e))
  | succ k ih =>
    intro i s e hi st g fin
    have lt : i < n := by omega
    refine codeAny_builtin F.entry_set_update_loop ?_
    rw [Around.under_plainId F.plain_set_update_loop _]
    show wpAny _ A.in1 (pyNext (.ref I) >>= _) _ _ s
    refine wpAny_bind (W.item i s _ _ lt st fun v s' hp st' mv => ?_)
    have key := hv i v hp
    have g' := g.at fun o e => mv.heap D o hDw e
    show wpAny _ A.in1 (holding [v] (setAdd D v) >>= _) _ _ s'
    refine wpAny_bind (wpAny_holding ?_)
    unfold setAdd
    refine wpAny_holding (wpAny_bind (knd.pyHash key ?_))
    refine setG_add (s := { s' with toks := s'.toks + 1 }) K key g' (by have := gotK_len keys i; omega) fun b h' sb g2 => ?_
    refine wpAny_pure ⟨plainId_quiet F.plain_set_update_loop _, ih (i + 1) _ (by omega) lt (W.frame _ s' _ _ st' (Nat.le_succ _) fun b hb o e => ?_) g2 fun s2 mv2 g3 => ?_⟩
    · exact (sb.2 b fun q => hD (by rw [← q]; exact hb)).trans e
    · refine fin s2 (Moved.trans W.gtrans ((mv.mono up).then_heap (Nat.le_succ _) fun b o hb e => ?_) mv2) g3
      exact (sb.2 b fun q => hb (by rw [q]; exact List.mem_cons_self)).trans e
/-- a new set object -/
abbrev nsetO (w : World) : Obj := { cls := .type "set", dict := none, data := .set #[] 0 (.fresh 0 0 (!w.params.followText "set-order")) }
theorem setG_new {h : Heap} {a : Addr} (e : h.get? a = some (nsetO w)) : SetG knd kf h a [] :=
  ⟨_, #[], 0, _, ⟨e, ⟨rfl, rfl, rfl⟩, rfl⟩, ⟨(fun x hx => by simp at hx), List.Perm.nil, List.nodup_nil⟩, by decide, by rfl, List.Pairwise.nil, by
    show _ ∨ (!w.params.followText "set-order") = true
    cases w.params.followText "set-order"
    · exact .inr rfl
    · exact .inl rfl⟩
end

section
variable {P : Program} {w : World} {κ : Type} [DecidableEq κ] {knd : PySem.KeyKind P w κ} {kf : Value → κ} {A : Around} {E : Value → Shared → Prop} {s : Shared}
set_option maxHeartbeats 3200000 in
theorem call_set_gen (K : KfOk knd kf) {v : Value} {T : String} {n : Nat} {Pv : Nat → Value → Prop} {Q : Value → Shared → Prop} (keys : Nat → κ)
    (hh : A.handled = none) (ty : Shared.TypeIs { s with heap := s.heap.push (nsetO w) } v T) (s1 : isSubtype (.type T) (.type "set") = pure false) (s2 : isSubtype (.type T) (.type "frozenset") = pure false) (s3 : (Value.type T == Value.type "dict") = false)
    (hv : ∀ i v, Pv i v → knd.is (keys i) v = true)
    (hit : ∀ {A' : Around} {E' : Value → Shared → Prop} {Q' : Value → Shared → Prop}, A'.handled = none → (∀ (o : Obj) (fp : List Addr) (St : Nat → Heap → Prop), (∀ A'' : Around, A''.handled = none → Walks P w A'' (s.heap.objs.size + 1) fp [s.heap.objs.size + 1] n Pv St) → s.heap.objs.size ∉ fp → St 0 ((s.heap.push (nsetO w)).push o) → Q' (.ref (s.heap.objs.size + 1)) { s with heap := (s.heap.push (nsetO w)).push o }) →
      wpAny (model P w) A' (pyIter v) Q' E' { s with heap := s.heap.push (nsetO w) }) (hn : n + 1 < scanBound)
    (h : ∀ (h' : Heap) (tk : Nat), SetG knd kf h' s.heap.objs.size (gotK keys n) → (∀ b o, s.heap.get? b = some o → h'.get? b = some o) → Q (.ref s.heap.objs.size) { s with heap := h', toks := tk }) :
    wpAny (model P w) A (call (.type "set") [v]) Q E s := by
  obtain ⟨c, tl, hmro⟩ := F.called_set.mro
  have mk := F.called_set.made
  have su := F.called_set.sub
  refine wpAny_call (codeAny_of_tree ?_)
  show wpAny _ _ (callAny (.type "set") _) _ _ _
  refine wpAny_pure ⟨Code.quiet_builtin _ (by decide +kernel), codeAny_builtin F.entry_type_call ?_⟩
  rw [Around.under_plain (weight_type_call_type "set" [v] []) rfl]
  have nt := F.called_set.notType
  have cc := F.called_set.canCreate
  have ct := F.typeCall_set_1 (v)
  repeat (any_goals (first | assumption | wp_step))
  refine codeAny_mono (code_set_led1 (v) (E := E) (Q₁ := fun obj s₁ => obj = .ref s.heap.objs.size ∧ s₁ = { s with heap := s.heap.push (nsetO w) }) ⟨rfl, rfl⟩) fun r s₁ hr => ?_
  cases r with
  | error e => exact hr
  | ok fl =>
    cases fl with
    | ret obj =>
      obtain ⟨rfl, rfl⟩ := hr
      have at0 : (s.heap.push (nsetO w)).get? s.heap.objs.size = some (nsetO w) := Heap.get?_push_size _ rfl
      have isT : Shared.TypeIs { s with heap := s.heap.push (nsetO w) } (.ref s.heap.objs.size) "set" := ⟨_, at0, rfl⟩
      have il := F.called_set.init.lookup
      have ib := F.called_set.init.bind (.ref s.heap.objs.size)
      repeat (any_goals (first | assumption | wp_step))
      refine codeAny_mono (codeAny_call_builtin (R := wants (fun r s₂ => r = .none ∧ ∃ h' tk, s₂ = { s with heap := h', toks := tk } ∧ SetG knd kf h' s.heap.objs.size (gotK keys n) ∧
          (∀ b o, s.heap.get? b = some o → h'.get? b = some o)) E) F.called_set.init.plain F.entry_set_init (check_set_init_1 isT ?_)) fun r₂ s₂ hr₂ => ?_
      · skip
        unfold Builtin.«set.__init__» noKeywords Builtin.Frozenset.updateFrom
        generalize hPI : pyIter = PI
        wp_walk
        subst hPI
        have hh3 : A.in1.in1.in1.handled = none := by simp [hh]
        refine hit (by simp [hh]) fun o fp St W nf st0 => wpAny_bind (wpAny_runValue ?_)
        refine setG_loop K ((W _ hh3).toS) nf keys hn hv (n - 0) 0 _ (by omega) (Nat.zero_le _) st0 (setG_new (Heap.get?_push_of_some _ at0)) ?fin
        case fin =>
          intro s' mv g
          obtain ⟨h', g', d', tk', os'⟩ := s'
          have eg : g' = s.gens := mv.gens
          have ed : d' = s.drawn := mv.drawn
          have eo : os' = s.os := mv.os
          subst eg; subst ed; subst eo
          show wpAny _ _ _ _ _ _
          refine wpAny_pure ?_
          show wpAny _ _ (ret Value.none) _ _ _
          refine wpAny_pure ⟨rfl, h', tk', rfl, g, fun b o e => ?_⟩
          have lt := Heap.lt_size e
          exact mv.heap b o (by
            intro q
            rcases List.mem_cons.mp q with q | q
            · exact Nat.ne_of_lt lt q
            · exact Nat.ne_of_lt (Nat.lt_succ_of_lt lt) (List.mem_singleton.mp q)) (Heap.get?_push_of_some _ (Heap.get?_push_of_some _ e))
      · cases r₂ with
        | error e => exact hr₂
        | ok fl₂ =>
          cases fl₂ with
          | ret r =>
            obtain ⟨rfl, h', tk, rfl, g, kp⟩ := hr₂
            repeat (any_goals (first | assumption | wp_step))
            exact h _ _ g kp
          | _ => exact hr₂.elim
    | _ => exact hr.elim
end

section
variable {P : Program} {w : World} {κ : Type} [DecidableEq κ] {knd : PySem.KeyKind P w κ} {kf : Value → κ} {A : Around} {E : Value → Shared → Prop} {s : Shared}
theorem call_set_l (K : KfOk knd kf) {l : Addr} {items : Array Value} {Q : Value → Shared → Prop} (keys : Nat → κ) (hh : A.handled = none) (hl : s.heap.IsList l items) (hv : ∀ i v, items[i]? = some v → knd.is (keys i) v = true) (hn : items.size + 1 < scanBound)
    (h : ∀ (h' : Heap) (tk : Nat), SetG knd kf h' s.heap.objs.size (gotK keys items.size) → (∀ b o, s.heap.get? b = some o → h'.get? b = some o) → Q (.ref s.heap.objs.size) { s with heap := h', toks := tk }) :
    wpAny (model P w) A (call (.type "set") [.ref l]) Q E s := by
  have hl1 : (s.heap.push (nsetO w)).IsList l items := hl.push _
  obtain ⟨ol, hol, hcl, nl, hdl⟩ := hl
  have lS : l < s.heap.objs.size := Heap.lt_size hol
  refine call_set_gen K keys hh (T := "list") ⟨ol, Heap.get?_push_of_some _ hol, hcl⟩ F.sub_list_set F.sub_list_frozenset (by decide) hv (fun hA q => ?_) hn h
  refine wpAny_pyIter_list hl1 ?_
  have e : (s.heap.push (nsetO w)).objs.size = s.heap.objs.size + 1 := Heap.size_push ..
  rw [e]
  have ne : l ≠ s.heap.objs.size + 1 := Nat.ne_of_lt (Nat.lt_succ_of_lt lS)
  refine q _ [s.heap.objs.size + 1, l] _ (fun A'' hA'' => Walks.list hA'' _ l ne items) (fun m => ?_) ⟨⟨_, by rw [← e]; exact Heap.get?_push_size _ rfl, rfl, rfl⟩, hl1.push _⟩
  rcases List.mem_cons.mp m with m | m
  · exact Nat.ne_of_lt (Nat.lt_succ_self _) m
  · exact Nat.ne_of_gt lS (List.mem_singleton.mp m)
theorem call_set_t (K : KfOk knd kf) {l : Addr} {items : Array Value} {Q : Value → Shared → Prop} (keys : Nat → κ) (hh : A.handled = none) (hl : s.heap.IsTuple l items) (hv : ∀ i v, items[i]? = some v → knd.is (keys i) v = true) (hn : items.size + 1 < scanBound)
    (h : ∀ (h' : Heap) (tk : Nat), SetG knd kf h' s.heap.objs.size (gotK keys items.size) → (∀ b o, s.heap.get? b = some o → h'.get? b = some o) → Q (.ref s.heap.objs.size) { s with heap := h', toks := tk }) :
    wpAny (model P w) A (call (.type "set") [.ref l]) Q E s := by
  have hl1 : (s.heap.push (nsetO w)).IsTuple l items := hl.push _
  obtain ⟨ol, hol, hcl, nl, hdl⟩ := hl
  have lS : l < s.heap.objs.size := Heap.lt_size hol
  refine call_set_gen K keys hh (T := "tuple") ⟨ol, Heap.get?_push_of_some _ hol, hcl⟩ F.sub_tuple_set F.sub_tuple_frozenset (by decide) hv (fun hA q => ?_) hn h
  refine wpAny_pyIter_tuple hl1 ?_
  have e : (s.heap.push (nsetO w)).objs.size = s.heap.objs.size + 1 := Heap.size_push ..
  rw [e]
  have ne : l ≠ s.heap.objs.size + 1 := Nat.ne_of_lt (Nat.lt_succ_of_lt lS)
  refine q _ [s.heap.objs.size + 1, l] _ (fun A'' hA'' => Walks.tuple hA'' _ l ne items) (fun m => ?_) ⟨⟨_, by rw [← e]; exact Heap.get?_push_size _ rfl, rfl, rfl⟩, hl1.push _⟩
  rcases List.mem_cons.mp m with m | m
  · exact Nat.ne_of_lt (Nat.lt_succ_self _) m
  · exact Nat.ne_of_gt lS (List.mem_singleton.mp m)
theorem sub_str_set0 : isSubtype (.type "str") (.type "set") = pure false := by rw [isSubtype_type]; kernel_rfl
theorem sub_str_frozenset0 : isSubtype (.type "str") (.type "frozenset") = pure false := by rw [isSubtype_type]; kernel_rfl
theorem call_set_s (K : KfOk knd kf) {x : Str} {t : Tok} {Q : Value → Shared → Prop} (keys : Nat → κ) (hh : A.handled = none) (hv : ∀ i v, SignAt x i v → knd.is (keys i) v = true) (hn : x.cps.size + 1 < scanBound)
    (h : ∀ (h' : Heap) (tk : Nat), SetG knd kf h' s.heap.objs.size (gotK keys x.cps.size) → (∀ b o, s.heap.get? b = some o → h'.get? b = some o) → Q (.ref s.heap.objs.size) { s with heap := h', toks := tk }) :
    wpAny (model P w) A (call (.type "set") [.str x t]) Q E s := by
  refine call_set_gen K keys hh (T := "str") rfl sub_str_set0 sub_str_frozenset0 (by decide) hv (fun hA q => ?_) hn h
  refine wpAny_pyIter_str fun o St W st0 => ?_
  have e : (s.heap.push (nsetO w)).objs.size = s.heap.objs.size + 1 := Heap.size_push ..
  rw [e] at W ⊢
  exact q o [s.heap.objs.size + 1] St W (fun m => Nat.ne_of_lt (Nat.lt_succ_self _) (List.mem_singleton.mp m)) st0
end
end U
end

section
namespace U
open PySem PySem.Spec PyProof.Rows L2
section
variable {X : Cx}
/-! ### sorted -/
abbrev VD := V × D
def zle : VD → VD → Bool := PySem.W.dataLe false Prod.snd
/-- sorted(x), x a list, a tuple or a text: zs are its items, each as value and as data -/
def rSortedU (K : PySem.W.Frag) : List V → Hp → VK → Prop := fun xs H Q => ∃ (x : V) (zs : List VD), xs = [x] ∧
  ((∃ a, x = .ref a ∧ (SqL K H a (zs.map Prod.fst) ∨ SqT K H a (zs.map Prod.fst))) ∨ (∃ z, x = .str z ∧ z.length ≤ sizeLine ∧ zs = (tx z).map fun c => (V.str ⟨⟨[c]⟩⟩, S [c])) ∨ ∃ a kvs, x = .ref a ∧ H a = some (.dK kvs) ∧ zs.map Prod.fst = kvs.map fun kv => kV kv.1) ∧
  DpAll K H (zs.map Prod.fst) (zs.map Prod.snd) ∧ sortOk (zs.map Prod.snd) = true ∧ ∀ p, H p = none → Q (.ref p) (upd H p (.lst ((zs.mergeSort zle).map Prod.fst)))
theorem sortOk_all {xs : List D} (h : sortOk xs = true) : PySem.W.AllAlike xs ∧ PySem.W.Sortable xs ∧ xs.length ≤ sizeLine ∧ ∀ d, d ∈ xs → noDict d = true ∧ d.depth ≤ 50 := by
  simp only [sortOk, Bool.and_eq_true, Bool.or_eq_true, decide_eq_true_eq, List.all_eq_true] at h
  obtain ⟨⟨⟨h1, h2⟩, h3⟩, h4⟩ := h
  refine ⟨fun d hd e he => h2 d hd e he, ?_, by rw [← line_eq]; exact h1, h4⟩
  rcases h3 with h3 | h3
  · left
    intro d hd
    have := h3 d hd
    unfold tupNE at this
    split at this
    · exact ⟨_, _, rfl⟩
    · cases this
  · right
    intro d hd
    have := h3 d hd
    constructor
    · rintro rfl; cases this
    · rintro xs rfl; cases this
theorem each_of_vals : ∀ {zs : List VD} {us : List Value}, Vals (zs.map Prod.fst) us → PySem.W.EachIs (fun u (b : VD) => RelV b.1 u) us zs
  | [], [], _ => .nil
  | _ :: _, _ :: _, .cons h r => .cons h (each_of_vals r)
theorem vals_of_each : ∀ {zs : List VD} {us : List Value}, PySem.W.EachIs (fun u (b : VD) => RelV b.1 u) us zs → Vals (zs.map Prod.fst) us
  | _, _, .nil => .nil
  | _, _, .cons h r => .cons h (vals_of_each r)
theorem args_sorted_any (v : Value) : argsOk "sorted" ⟨[v], []⟩ := by unfold argsOk; kernel_rfl
theorem reads_zip {pins : List (Addr × Obj)} {σ : L2.St} {H : Hp} {s : Shared} (I : Inv X pins σ H s) : ∀ {zs : List VD} {us : List Value}, Vals (zs.map Prod.fst) us → DpAll X.K H (zs.map Prod.fst) (zs.map Prod.snd) →
    PySem.W.EachIs (fun u (b : VD) => ∃ as, Reads s.heap u b.2 as) us zs
  | [], [], _, _ => .nil
  | z :: _, _ :: _, .cons h r, .cons d ds => .cons (Dp.reads I z.2 z.1 _ d h) (reads_zip I r ds)
theorem inv_moved {pins : List (Addr × Obj)} {σ : L2.St} {H : Hp} {s s' : Shared} (I : L2.Inv X pins σ H s) (k : ∀ b o, s.heap.get? b = some o → s'.heap.get? b = some o) (g : s'.gens = s.gens) (o : s'.os = s.os) : L2.Inv X pins σ H s' := by
  have J : L2.Inv X pins σ H { s with heap := s'.heap, gens := s'.gens, drawn := s'.drawn, toks := s'.toks } := I.call (ch := []) (Un.kept k) (I.hok.kept k) (by rw [g]; exact I.bare) (fun _ z => nomatch z)
  have e2 : s' = { s with heap := s'.heap, gens := s'.gens, drawn := s'.drawn, toks := s'.toks } := by
    cases s'
    cases s
    cases o
    rfl
  rw [e2]; exact J
theorem sorted_hd {pins : List (Addr × Obj)} {σ : L2.St} {H : Hp} {s' : Shared} {Q : VK} {zs : List VD} {ws : List Value} (hu : X.A.units + 60 < cLine) (I : L2.Inv X pins σ H s')
    (hd : DpAll X.K H (zs.map Prod.fst) (zs.map Prod.snd)) (ok : sortOk (zs.map Prod.snd) = true) (q : ∀ p, H p = none → Q (.ref p) (upd H p (.lst ((zs.mergeSort zle).map Prod.fst))))
    (hv : Vals (zs.map Prod.fst) ws) :
      ∃ bs : List VD, PySem.W.EachIs (fun u (b : VD) => L2.RelV b.1 u) ws bs ∧ PySem.W.EachIs (fun u (b : VD) => ∃ as, Reads s'.heap u b.2 as) ws bs ∧ PySem.W.AllAlike (bs.map Prod.snd) ∧ PySem.W.Sortable (bs.map Prod.snd) ∧ bs.length ≤ sizeLine ∧ (∀ b, b ∈ bs → X.A.units + 2 + b.2.depth < cLine) ∧
      ∀ (out : List Value) (h' : Heap), out.length = bs.length → PySem.W.EachIs (fun u (b : VD) => L2.RelV b.1 u) out (bs.mergeSort (PySem.W.dataLe false Prod.snd)) → (∀ b o, s'.heap.get? b = some o → h'.get? b = some o) → (∃ e, h'.get? s'.heap.objs.size = some (seqObj "list" out.toArray e)) →
        EP X pins σ Q (.ref s'.heap.objs.size) { s' with heap := h' } := by
  obtain ⟨al, so, le, dp⟩ := sortOk_all ok
  rw [List.length_map] at le
  refine ⟨zs, each_of_vals hv, reads_zip I hv hd, al, so, le, fun b hb => ?_, fun out h' ol oe k2 ⟨e, at1⟩ => ?_⟩
  · have := (dp b.2 (List.mem_map.mpr ⟨b, hb, rfl⟩)).2; omega
  · have hn : H s'.heap.objs.size = none := I.hok.fresh (Nat.le_refl _)
    exact ⟨.ref _, _, I.laid (t' := s'.toks) k2 (Nat.le_refl _) (show ObjOk X.prog X.w _ h' _ (.lst ((zs.mergeSort zle).map Prod.fst)) from ⟨by rw [List.length_map, List.length_mergeSort]; exact le, out, e, vals_of_each oe, at1⟩), rfl, q _ hn⟩
theorem cr_sortedU (hc : X.calm = true) (hu : X.A.units + 60 < cLine) : CallR X (.builtin "sorted") (rSortedU X.K) := by
  intro pins s σ H vs us Q I r h
  obtain ⟨x, zs, rfl, hx, hd, ok, q⟩ := h
  have hh : X.A.in1.handled = none := by simp [I.ok.hd hc]
  rcases hx with ⟨a, rfl, hx | hx⟩ | ⟨z, rfl, hz, rfl⟩ | ⟨a, kvs, rfl, hx, hz⟩
  · obtain ⟨its, rv, hl, hz⟩ := I.list hx
    rw [Vals.ref1 r]
    rw [List.length_map] at hz
    refine sorted_at (R := fun u (b : VD) => L2.RelV b.1 u) (enc := Prod.snd) (C := fun vs s' => vs = its ∧ (∀ b o, s.heap.get? b = some o → s'.heap.get? b = some o) ∧ s'.gens = s.gens ∧ s'.os = s.os) (args_sorted_any _) (fun hq => ?_) fun ws s' ⟨e1, kp, e2, e3⟩ => ?_
    · refine PyProof.Rows.collect_list hl.isList (hq _ _ ⟨rfl, fun b o e => ?_, rfl, rfl⟩) (by rw [← rv.length, List.length_map]; exact hz)
      show (Heap.update _ _ _).get? b = some o
      rw [Heap.get?_update_ne _ _ _ _ (Nat.ne_of_lt (Heap.lt_size e))]
      exact Heap.get?_push_of_some _ e
    · subst e1
      exact sorted_hd hu (inv_moved I kp e2 e3) hd ok q rv
  · obtain ⟨its, rv, ⟨o, ho, ht⟩, hz⟩ := I.tuple hx
    rw [Vals.ref1 r]
    rw [List.length_map] at hz
    refine sorted_at (R := fun u (b : VD) => L2.RelV b.1 u) (enc := Prod.snd) (C := fun vs s' => vs = its ∧ (∀ b o, s.heap.get? b = some o → s'.heap.get? b = some o) ∧ s'.gens = s.gens ∧ s'.os = s.os) (args_sorted_any _) (fun hq => ?_) fun ws s' ⟨e1, kp, e2, e3⟩ => ?_
    · obtain ⟨hc1, n, hd1⟩ := ht
      refine wpAny_collect_seq a (.inr rfl) ho hc1 hd1 (fun h' k => hq _ _ ⟨by simp, k, rfl, rfl⟩) (by rw [List.size_toArray, ← rv.length, List.length_map]; exact hz)
    · subst e1
      exact sorted_hd hu (inv_moved I kp e2 e3) hd ok q rv
  · obtain ⟨u, rfl, rx⟩ := vals1 r
    obtain ⟨t, rfl⟩ := rx
    refine sorted_at (R := fun u (b : VD) => L2.RelV b.1 u) (enc := Prod.snd) (C := fun vs s' => (∃ acc, ItemsOf (SignAt z) acc z.cps.size ∧ vs = acc.toList) ∧ (∀ b o, s.heap.get? b = some o → s'.heap.get? b = some o) ∧ s'.gens = s.gens ∧ s'.os = s.os) (args_sorted_any _) (fun hq => ?_) fun ws s' ⟨⟨acc, ia, e1⟩, kp, e2, e3⟩ => ?_
    · exact wpAny_collect_str hh z t (fun s' acc k g d o ia => hq _ _ ⟨⟨acc, ia, rfl⟩, k, g, o⟩) hz
    · subst e1
      exact sorted_hd hu (inv_moved I kp e2 e3) hd ok q (by rw [List.map_map]; exact signs_vals z ia)
  · rw [Vals.ref1 r]
    obtain ⟨z, lo, ws, rel, dd⟩ := dk_rd I.hok (.inl hx)
    obtain ⟨ep, hat⟩ := dd.dictAt
    have wl : ws.length = kvs.length := by
      have := congrArg List.length rel.keys
      rw [List.length_map, List.length_map] at this
      exact this.symm
    refine sorted_at (R := fun u (b : VD) => L2.RelV b.1 u) (enc := Prod.snd) (C := fun vs s' => Vals (zs.map Prod.fst) vs ∧ (∀ b o, s.heap.get? b = some o → s'.heap.get? b = some o) ∧ s'.gens = s.gens ∧ s'.os = s.os) (args_sorted_any _) (fun hq => ?_) fun us s' ⟨e1, kp, e2, e3⟩ => ?_
    · refine PySem.W.kdu_collect (A := X.A.in1) (PySem.W.kdl_dict (knd := mixKind X.prog X.w) (kvs := ws) (ep := ep) lo) (I.ok.hd hc) hat (by rw [wl]; exact z) fun h' tk acc hk hacc => hq _ _ ⟨?_, hk, rfl, rfl⟩
      have hv : Vals (ws.map fun p => kV p.1) acc.toList := keys_at (by rw [Array.length_toList, hacc.1]) fun j v e => hacc.2 j v (by rw [← Array.getElem?_toList]; exact e)
      rw [hz]
      have : (kvs.map fun kv => kV kv.1) = ws.map fun p => kV p.1 := by
        have := congrArg (List.map kV) rel.keys
        rw [List.map_map, List.map_map] at this
        exact this
      rw [this]; exact hv
    · exact sorted_hd hu (inv_moved I kp e2 e3) hd ok q e1
end
end U
end

section
namespace U
open PySem PySem.Spec PyProof.Rows L2
section
variable {X : Cx}
/-! ### sets of ints and texts -/
def kfMix (v : Value) : Key := match v with
  | .int i _ => .inl i
  | .str x _ => .inr x
  | _ => .inl 0
theorem kf_mix (P : Program) (w : World) : KfOk (mixKind P w) kfMix where
  key := fun k v h => by
    rcases keyIs_shape h with ⟨i, t, rfl, rfl⟩ | ⟨x, t, rfl, rfl⟩ <;> rfl
  sc := fun k v h => by
    rcases keyIs_shape h with ⟨i, t, rfl, rfl⟩ | ⟨x, t, rfl, rfl⟩ <;> rfl
/-- the set at a, of the keys ks -/
def SetX (P : Program) (w : World) (a : Addr) (ks : List Key) : HO := .ext fun h => SetG (mixKind P w) kfMix h a ks
theorem setX_new {P : Program} {w : World} {H : Hp} {h : Heap} {a : Addr} {ks : List Key} (g : SetG (mixKind P w) kfMix h a ks) : ObjOk P w H h a (SetX P w a ks) :=
  ⟨g, by obtain ⟨o, _, _, _, ⟨ho, _⟩, _⟩ := g; exact ⟨o, ho⟩, fun h1 h2 g k => SetG.at g k⟩
/-- what is of the world's alone can be let go -/
theorem inv_less {pins : List (Addr × Obj)} {σ : L2.St} {H : Hp} {s : Shared} {p : Addr} {φ : Heap → Prop} (I : L2.Inv X pins σ (upd H p (.ext φ)) s) (hp : H p = none) : L2.Inv X pins σ H s where
  ok := I.ok
  os := I.os
  bare := I.bare
  base := by
    have b := I.base
    refine ⟨b.keep, b.slot, fun c o h1 h2 h3 => ?_, b.there, fun c xs h1 => ?_, fun c o u h1 => ?_, fun c ps h1 => ?_⟩
    · have := b.free c o h1 h2 h3
      by_cases hc : c = p
      · rw [hc]; exact hp
      · rwa [upd_ne hc] at this
    · have := b.tups c xs h1
      by_cases hc : c = p
      · rw [hc, upd_same] at this; cases this
      · rwa [upd_ne hc] at this
    · have := b.frzs c o u h1
      by_cases hc : c = p
      · rw [hc, upd_same] at this; cases this
      · rwa [upd_ne hc] at this
    · obtain ⟨m, this⟩ := b.tbls c ps h1
      by_cases hc : c = p
      · rw [hc, upd_same] at this; cases this
      · exact ⟨m, by rwa [upd_ne hc] at this⟩
  loc := I.loc
  cell := I.cell
  free := by
    have := I.free
    by_cases hc : X.env.locals = p
    · rw [hc]; exact hp
    · rwa [upd_ne hc] at this
  freeC := fun x c h => by
    have := I.freeC x c h
    by_cases hc : c = p
    · rw [hc]; exact hp
    · rwa [upd_ne hc] at this
  pin := fun q hq => by
    obtain ⟨h1, h2, h3⟩ := I.pin q hq
    refine ⟨h1, ?_, h3⟩
    by_cases hc : q.1 = p
    · rw [hc]; exact hp
    · rwa [upd_ne hc] at h2
  hok := fun c o h => by
    have hc : c ≠ p := ne_of_none h hp
    refine (I.hok c o (by rw [upd_ne hc]; exact h)).stay (fun _ _ _ e => e) (fun b e => ?_) fun b xs e => ?_
    · by_cases hb : b = p
      · rw [hb, upd_same] at e; cases e
      · rwa [upd_ne hb] at e
    · by_cases hb : b = p
      · rw [hb, upd_same] at e; cases e
      · rwa [upd_ne hb] at e
  len := I.len
/-- the keys, each once -/
def nubK (ks : List Key) : List Key := ks.foldl (fun acc k => putK k acc) []
theorem gotK_nub (ks : List Key) : ∀ n, gotK (fun i => ks.getD i (.inl 0)) n = nubK (ks.take n) ∨ ks.length < n
  | 0 => .inl rfl
  | n + 1 => by
    rcases gotK_nub ks n with h | h
    · by_cases hn : n < ks.length
      · left
        rw [gotK, h, List.take_succ, nubK, nubK, List.getElem?_eq_getElem hn, List.getD_eq_getElem?_getD, List.getElem?_eq_getElem hn, List.foldl_append]
        rfl
      · right; omega
    · right; omega
theorem gotK_all (ks : List Key) : gotK (fun i => ks.getD i (.inl 0)) ks.length = nubK ks := by
  rcases gotK_nub ks ks.length with h | h
  · rw [h, List.take_length]
  · omega
/-- set(x) -/
def rSetU (K : PySem.W.Frag) (P : Program) (w : World) : List V → Hp → VK → Prop := fun xs H Q => ∃ (x : V) (ks : List Key), xs = [x] ∧
  ((∃ a, x = .ref a ∧ (SqL K H a (ks.map kV) ∨ SqT K H a (ks.map kV))) ∨ (∃ z, x = .str z ∧ ks = (tx z).map fun c => .inr ⟨⟨[c]⟩⟩)) ∧
  ks.length + 1 < scanBound ∧ ∀ p, H p = none → Q (.ref p) (upd H p (SetX P w p (nubK ks)))
theorem vals_keys {P : Program} {w : World} {ks : List Key} {us : List Value} (h : Vals (ks.map kV) us) : ∀ i v, us.toArray[i]? = some v → (mixKind P w).is (ks.getD i (.inl 0)) v = true := by
  intro i v e
  have e : us[i]? = some v := by simpa using e
  have key : ∀ {ks : List Key} {us : List Value}, Vals (ks.map kV) us → ∀ (i : Nat) (v : Value), us[i]? = some v → ∃ k, ks[i]? = some k ∧ L2.RelV (kV k) v := by
    intro ks
    induction ks with
    | nil => intro us h i v e; cases h; simp at e
    | cons k ks ih =>
      intro us h i v e
      cases h with
      | cons h r =>
        cases i with
        | zero => simp at e; subst e; exact ⟨k, rfl, h⟩
        | succ i =>
          obtain ⟨k', h1, h2⟩ := ih r i v (by simpa using e)
          exact ⟨k', by simpa using h1, h2⟩
  obtain ⟨k, h1, h2⟩ := key h i v e
  rw [List.getD_eq_getElem?_getD, h1]
  exact kV_is h2
theorem cr_setU (hc : X.calm = true) : CallR X (.type "set") (rSetU X.K X.prog X.w) := by
  intro pins s σ H vs us Q I r h
  obtain ⟨x, ks, rfl, hx, hl, q⟩ := h
  have hh : X.A.handled = none := I.ok.hd hc
  have fin : ∀ (h' : Heap) (tk : Nat) (n : Nat), n = ks.length → SetG (mixKind X.prog X.w) kfMix h' s.heap.objs.size (gotK (fun i => ks.getD i (.inl 0)) n) → (∀ b o, s.heap.get? b = some o → h'.get? b = some o) → EP X pins σ Q (.ref s.heap.objs.size) { s with heap := h', toks := tk } := by
    intro h' tk n en g k
    rw [en, gotK_all] at g
    exact ⟨.ref _, _, I.laid (t' := tk) k (Nat.le_refl _) (setX_new g), rfl, q _ (I.hok.fresh (Nat.le_refl _))⟩
  rcases hx with ⟨a, rfl, hx | hx⟩ | ⟨z, rfl, rfl⟩
  · obtain ⟨its, rv, hl', hz⟩ := I.list hx
    rw [Vals.ref1 r]
    have en : its.toArray.size = ks.length := by rw [List.size_toArray, ← rv.length, List.length_map]
    exact call_set_l (kf_mix _ _) (fun i => ks.getD i (.inl 0)) hh hl'.isList (vals_keys rv) (by rw [en]; exact hl) fun h' tk g k => fin h' tk _ en g k
  · obtain ⟨its, rv, ⟨o, ho, ht⟩, hz⟩ := I.tuple hx
    rw [Vals.ref1 r]
    have en : its.toArray.size = ks.length := by rw [List.size_toArray, ← rv.length, List.length_map]
    exact call_set_t (kf_mix _ _) (fun i => ks.getD i (.inl 0)) hh ⟨o, ho, ht⟩ (vals_keys rv) (by rw [en]; exact hl) fun h' tk g k => fin h' tk _ en g k
  · obtain ⟨u, rfl, rx⟩ := vals1 r
    obtain ⟨t, rfl⟩ := rx
    have en : z.cps.size = ((tx z).map fun c => (Sum.inr ⟨⟨[c]⟩⟩ : Key)).length := by rw [List.length_map]; simp [tx]
    refine call_set_s (kf_mix _ _) (fun i => ((tx z).map fun c => (Sum.inr ⟨⟨[c]⟩⟩ : Key)).getD i (.inl 0)) hh (fun i v sv => ?_) (by rw [en]; exact hl) fun h' tk g k => fin h' tk _ en g k
    obtain ⟨c, t2, h1, h2⟩ := sv
    have h3 : (tx z)[i]? = some c := by simpa [tx] using h1
    subst h2
    rw [List.getD_eq_getElem?_getD, List.getElem?_map, h3]
    exact mixKind_str _ _ _ _
end
end U
end

section
namespace U
open PySem PySem.Spec PyProof.Rows L2
/-! ### what sorted makes, by ints and texts -/
theorem sortD_map {β : Type} (k : β → D) (bs : List β) : sortD (bs.map k) = (bs.mergeSort (PySem.W.dataLe false k)).map k :=
  (List.map_mergeSort (f := k) (r := PySem.W.dataLe false k) (s := PySem.W.dataLe false id) (l := bs) fun _ _ _ _ => rfl).symm
theorem sortD_int (ns : List Int) : sortD (ns.map PyData.int) = (ns.mergeSort fun a b => decide (a ≤ b)).map PyData.int := by
  rw [sortD_map, PySem.W.dataLe_int (fun n : Int => n)]
theorem sortD_str (ls : List (List Nat)) : sortD (ls.map S) = (ls.mergeSort fun a b => decide (a ≤ b)).map S := by
  rw [sortD_map, PySem.W.dataLe_str (fun l : List Nat => (⟨⟨l⟩⟩ : Str))]
theorem isI_all : ∀ {xs : List D}, xs.all isI = true → ∃ ns : List Int, xs = ns.map PyData.int
  | [], _ => ⟨[], rfl⟩
  | x :: xs, h => by
    rw [List.all_cons, Bool.and_eq_true] at h
    obtain ⟨ns, rfl⟩ := isI_all h.2
    have h1 := h.1
    unfold isI at h1
    split at h1
    · exact ⟨_ :: ns, rfl⟩
    · cases h1
theorem isS_all : ∀ {xs : List D}, xs.all isS = true → ∃ ls : List (List Nat), xs = ls.map S
  | [], _ => ⟨[], rfl⟩
  | x :: xs, h => by
    rw [List.all_cons, Bool.and_eq_true] at h
    obtain ⟨ls, rfl⟩ := isS_all h.2
    have h1 := h.1
    unfold isS at h1
    split at h1
    · rename_i x
      exact ⟨tx x :: ls, rfl⟩
    · cases h1
theorem int_tr (x y z : Int) (h1 : decide (x ≤ y) = true) (h2 : decide (y ≤ z) = true) : decide (x ≤ z) = true := decide_eq_true (Int.le_trans (of_decide_eq_true h1) (of_decide_eq_true h2))
theorem int_to (x y : Int) : (decide (x ≤ y) || decide (y ≤ x)) = true := by rcases Int.le_total x y with h | h <;> simp [h]
theorem int_sorted {ns ms : List Int} (p : ns.Perm ms) (h : ns.Pairwise fun a b => a ≤ b) : (ms.mergeSort fun a b => decide (a ≤ b)) = ns :=
  (PySem.W.Srt.the_of_perm _ int_tr int_to (fun x y h1 h2 => Int.le_antisymm (of_decide_eq_true h1) (of_decide_eq_true h2)) p (h.imp fun h => decide_eq_true h)).symm
theorem int_perm {ns ms : List Int} (p : ns.Perm ms) : (ns.mergeSort fun a b => decide (a ≤ b)) = ms.mergeSort fun a b => decide (a ≤ b) :=
  PySem.W.Srt.the_of_perm _ int_tr int_to (fun x y h1 h2 => Int.le_antisymm (of_decide_eq_true h1) (of_decide_eq_true h2)) ((List.mergeSort_perm _ _).trans p) (List.pairwise_mergeSort int_tr int_to ns)
theorem str_tr (x y z : List Nat) (h1 : decide (x ≤ y) = true) (h2 : decide (y ≤ z) = true) : decide (x ≤ z) = true := decide_eq_true (List.le_trans (of_decide_eq_true h1) (of_decide_eq_true h2))
theorem str_to (x y : List Nat) : (decide (x ≤ y) || decide (y ≤ x)) = true := by rcases List.le_total x y with h | h <;> simp [h]
theorem str_sorted {ns ms : List (List Nat)} (p : ns.Perm ms) (h : ns.Pairwise fun a b => a ≤ b) : (ms.mergeSort fun a b => decide (a ≤ b)) = ns :=
  (PySem.W.Srt.the_of_perm _ str_tr str_to (fun x y h1 h2 => List.le_antisymm (of_decide_eq_true h1) (of_decide_eq_true h2)) p (h.imp fun h => decide_eq_true h)).symm
theorem str_perm {ns ms : List (List Nat)} (p : ns.Perm ms) : (ns.mergeSort fun a b => decide (a ≤ b)) = ms.mergeSort fun a b => decide (a ≤ b) :=
  PySem.W.Srt.the_of_perm _ str_tr str_to (fun x y h1 h2 => List.le_antisymm (of_decide_eq_true h1) (of_decide_eq_true h2)) ((List.mergeSort_perm _ _).trans p) (List.pairwise_mergeSort str_tr str_to ns)
/-- ints alone or texts alone are sorted whatever their order was -/
theorem sortD_perm {xs ys : List D} (p : xs.Perm ys) (h : (ys.all isI || ys.all isS) = true) : sortD xs = sortD ys := by
  have hm : ∀ q : D → Bool, ys.all q = true → xs.all q = true := fun q h => List.all_eq_true.mpr fun x hx => List.all_eq_true.mp h x (p.mem_iff.mp hx)
  rw [Bool.or_eq_true] at h
  rcases h with h | h
  · obtain ⟨ns, rfl⟩ := isI_all (hm _ h)
    obtain ⟨ms, rfl⟩ := isI_all h
    have pm : ns.Perm ms := by
      have := p.map fun d : D => match d with | .int i => i | _ => 0
      simpa [List.map_map, Function.comp_def] using this
    rw [sortD_int, sortD_int, int_perm pm]
  · obtain ⟨ns, rfl⟩ := isS_all (hm _ h)
    obtain ⟨ms, rfl⟩ := isS_all h
    have pm : ns.Perm ms := by
      have := p.map fun d : D => match d with | .str x => tx x | _ => []
      rw [List.map_map, List.map_map] at this
      have e : ((fun d : D => match d with | .str x => tx x | _ => []) ∘ S) = id := by funext l; rfl
      rwa [e, List.map_id, List.map_id] at this
    rw [sortD_str, sortD_str, str_perm pm]
/-! ### keys as data -/
def keysAlike (ks : List Key) : Prop := (∃ ns : List Int, ks = ns.map Sum.inl) ∨ ∃ xs : List Str, ks = xs.map Sum.inr
theorem keysAlike.perm {ks bs : List Key} (h : keysAlike ks) (p : bs.Perm ks) : keysAlike bs := by
  rcases h with ⟨ns, rfl⟩ | ⟨xs, rfl⟩
  · left
    have : ∀ bs : List Key, (∀ b ∈ bs, b ∈ ns.map (Sum.inl : Int → Key)) → ∃ ms : List Int, bs = ms.map Sum.inl := by
      intro bs
      induction bs with
      | nil => exact fun _ => ⟨[], rfl⟩
      | cons b bs ih =>
        intro hb
        obtain ⟨ms, rfl⟩ := ih fun c hc => hb c (List.mem_cons_of_mem _ hc)
        obtain ⟨m, _, rfl⟩ := List.mem_map.mp (hb b List.mem_cons_self)
        exact ⟨m :: ms, rfl⟩
    exact this bs fun b hb => p.mem_iff.mp hb
  · right
    have : ∀ bs : List Key, (∀ b ∈ bs, b ∈ xs.map (Sum.inr : Str → Key)) → ∃ ms : List Str, bs = ms.map Sum.inr := by
      intro bs
      induction bs with
      | nil => exact fun _ => ⟨[], rfl⟩
      | cons b bs ih =>
        intro hb
        obtain ⟨ms, rfl⟩ := ih fun c hc => hb c (List.mem_cons_of_mem _ hc)
        obtain ⟨m, _, rfl⟩ := List.mem_map.mp (hb b List.mem_cons_self)
        exact ⟨m :: ms, rfl⟩
    exact this bs fun b hb => p.mem_iff.mp hb
theorem keysAlike.data {ks : List Key} (h : keysAlike ks) : ((ks.map keyD).all isI || (ks.map keyD).all isS) = true ∧ PySem.W.AllAlike (ks.map keyD) ∧ PySem.W.Sortable (ks.map keyD) ∧ ∀ d ∈ ks.map keyD, d.depth = 0 := by
  rcases h with ⟨ns, rfl⟩ | ⟨xs, rfl⟩ <;> rw [List.map_map]
  · refine ⟨?_, fun d hd e he => ?_, .inr fun d hd => ?_, fun d hd => ?_⟩
    · rw [Bool.or_eq_true]; left; rw [List.all_map]; exact List.all_eq_true.mpr fun _ _ => rfl
    · obtain ⟨_, _, rfl⟩ := List.mem_map.mp hd; obtain ⟨_, _, rfl⟩ := List.mem_map.mp he; simp [keyD, PySem.W.alike]
    · obtain ⟨_, _, rfl⟩ := List.mem_map.mp hd; exact ⟨nofun, fun _ => nofun⟩
    · obtain ⟨_, _, rfl⟩ := List.mem_map.mp hd; simp [keyD, PyData.depth]
  · refine ⟨?_, fun d hd e he => ?_, .inr fun d hd => ?_, fun d hd => ?_⟩
    · rw [Bool.or_eq_true]; right; rw [List.all_map]; exact List.all_eq_true.mpr fun _ _ => rfl
    · obtain ⟨_, _, rfl⟩ := List.mem_map.mp hd; obtain ⟨_, _, rfl⟩ := List.mem_map.mp he; simp [keyD, PySem.W.alike]
    · obtain ⟨_, _, rfl⟩ := List.mem_map.mp hd; exact ⟨nofun, fun _ => nofun⟩
    · obtain ⟨_, _, rfl⟩ := List.mem_map.mp hd; simp [keyD, PyData.depth]
section
variable {X : Cx}
/-- sorted(s), s a set that nothing else holds -/
def rSortedG (P : Program) (w : World) : List V → Hp → VK → Prop := fun xs H Q => ∃ (p : Addr) (ks : List Key) (H0 : Hp), xs = [.ref p] ∧ H = upd H0 p (SetX P w p ks) ∧ H0 p = none ∧ keysAlike ks ∧
  ∀ bs : List Key, bs.Perm ks → ∀ q, H0 q = none → Q (.ref q) (upd H0 q (.lst ((bs.mergeSort (PySem.W.dataLe false keyD)).map kV)))
theorem each_keys {R : Value → Key → Prop} : ∀ (vs : List Value), (∀ v ∈ vs, R v (kfMix v)) → PySem.W.EachIs R vs (vs.map kfMix)
  | [], _ => .nil
  | v :: vs, h => .cons (h v List.mem_cons_self) (each_keys vs fun u hu => h u (List.mem_cons_of_mem _ hu))
theorem vals_each_keys : ∀ {bs : List Key} {us : List Value}, PySem.W.EachIs (fun u b => L2.RelV (kV b) u) us bs → Vals (bs.map kV) us
  | _, _, .nil => .nil
  | _, _, .cons h r => .cons h (vals_each_keys r)
theorem cr_sortedG (hc : X.calm = true) (hu : X.A.units + 60 < cLine) : CallR X (.builtin "sorted") (rSortedG X.prog X.w) := by
  intro pins s σ H vs us Q I r h
  obtain ⟨p, ks, H0, rfl, rfl, hp, ka, q⟩ := h
  rw [Vals.ref1 r]
  have hh : X.A.in1.handled = none := by simp [I.ok.hd hc]
  obtain ⟨o, es, ep, t, ⟨ho, hex, hd⟩, ⟨el, pm, nd⟩, hb, hf, hr, hl⟩ : SetG (mixKind X.prog X.w) kfMix s.heap p ks := (I.hok p _ upd_same).1
  have I0 := inv_less I hp
  refine sorted_at (R := fun u b => L2.RelV (kV b) u) (enc := keyD) (C := fun vs s' => vs.Perm (es.toList.map (·.2)) ∧ (∀ b o, s.heap.get? b = some o → s'.heap.get? b = some o) ∧ s'.gens = s.gens ∧ s'.os = s.os) (args_sorted_any _) (fun hq => ?_) fun ws s' ⟨wp, kp, e2, e3⟩ => ?_
  · exact collect_set hh ⟨o, ho, hex.1, hd⟩ hf hb hr hl fun s' out k _ g o pm => hq _ _ ⟨pm, k, g, o⟩
  · have I1 := inv_moved I0 kp e2 e3
    have kv : ∀ v ∈ ws, (∃ i t, v = Value.int i t) ∨ ∃ x t, v = Value.str x t := fun v hv => by
      obtain ⟨e, he, rfl⟩ := List.mem_map.mp (wp.mem_iff.mp hv)
      obtain ⟨⟨k, hk, _⟩, _⟩ := el e he
      rcases keyIs_shape hk with ⟨i, t, _, h⟩ | ⟨x, t, _, h⟩
      · exact .inl ⟨i, t, h⟩
      · exact .inr ⟨x, t, h⟩
    have pk : (ws.map kfMix).Perm ks := by
      refine List.Perm.trans ?_ pm
      have := wp.map kfMix
      rwa [List.map_map] at this
    obtain ⟨_, al, so, dp⟩ := (ka.perm pk).data
    refine ⟨ws.map kfMix, each_keys ws fun v hv => ?_, each_keys ws fun v hv => ?_, al, so, ?_, fun b hb => ?_, fun out h' ol oe k2 ⟨e, at1⟩ => ?_⟩
    · rcases kv v hv with ⟨i, t, rfl⟩ | ⟨x, t, rfl⟩
      · exact ⟨t, rfl⟩
      · exact ⟨t, rfl⟩
    · rcases kv v hv with ⟨i, t, rfl⟩ | ⟨x, t, rfl⟩
      · exact ⟨[], .int _ _⟩
      · exact ⟨[], .str _ _⟩
    · have e1 := pk.length_eq
      have e2 := pm.length_eq
      rw [List.length_map, Array.length_toList] at e2
      have e3 : scanBound = 4096 := rfl
      have e4 : sizeLine = 16777216 := sizeLine_eq
      omega
    · have := dp (keyD b) (List.mem_map.mpr ⟨b, hb, rfl⟩); omega
    · have e1 := pk.length_eq
      have e2 := pm.length_eq
      rw [List.length_map, Array.length_toList] at e2
      have e3 : scanBound = 4096 := rfl
      have e4 : sizeLine = 16777216 := sizeLine_eq
      have hn : H0 s'.heap.objs.size = none := I1.hok.fresh (Nat.le_refl _)
      exact ⟨.ref _, _, I1.laid (t' := s'.toks) k2 (Nat.le_refl _) (show ObjOk X.prog X.w _ h' _ (.lst (((ws.map kfMix).mergeSort (PySem.W.dataLe false keyD)).map kV)) from ⟨by rw [List.length_map, List.length_mergeSort]; omega, out, e, vals_each_keys oe, at1⟩), rfl, q _ pk _ hn⟩
/-- len(s) -/
def rLenG (P : Program) (w : World) : List V → Hp → VK → Prop := fun xs H Q => ∃ (p : Addr) (ks : List Key) (H0 : Hp), xs = [.ref p] ∧ H = upd H0 p (SetX P w p ks) ∧ H0 p = none ∧ Q (.int ks.length) H0
theorem cr_lenG : CallR X (.builtin "len") (rLenG X.prog X.w) := by
  intro pins s σ H vs us Q I r h
  obtain ⟨p, ks, H0, rfl, rfl, hp, q⟩ := h
  rw [Vals.ref1 r]
  obtain ⟨o, es, ep, t, ⟨ho, hex, hd⟩, ⟨el, pm, nd⟩, hb, hf, hr, hl⟩ : SetG (mixKind X.prog X.w) kfMix s.heap p ks := (I.hok p _ upd_same).1
  have I0 := inv_less I hp
  have e2 := pm.length_eq
  rw [List.length_map, Array.length_toList] at e2
  have e3 : scanBound = 4096 := rfl
  refine call_len_set ho hex hd hf (by omega) ⟨.int ks.length, H0, I0.tok _, ⟨_, by rw [e2]⟩, q⟩
end
end U
end

section
namespace U
open PySem PySem.Spec PyProof.Rows L2
/-! ### sorted(..), sorted(set(..)), len(set(..)), list(range(..)), tuple(range(..)) by the table -/
section
variable {K : PySem.W.Frag} {G H : Hp}
theorem rps_pairs : ∀ {zs : List VD}, (∀ p ∈ zs, Rp K G p.1 p.2) → Rps K G (zs.map Prod.fst) (zs.map Prod.snd)
  | [], _ => .nil
  | _ :: _, h => .cons (h _ List.mem_cons_self) (rps_pairs fun p hp => h p (List.mem_cons_of_mem _ hp))
theorem rps_zip : ∀ {vs : List V} {ds : List D}, Rps K G vs ds → ∃ zs : List VD, zs.map Prod.fst = vs ∧ zs.map Prod.snd = ds ∧ ∀ p ∈ zs, Rp K G p.1 p.2
  | _, _, .nil => ⟨[], rfl, rfl, fun _ h => nomatch h⟩
  | _, _, .cons (v := v) (d := d) h r => by
    obtain ⟨zs, rfl, rfl, h3⟩ := rps_zip r
    refine ⟨(v, d) :: zs, rfl, rfl, fun p hp => ?_⟩
    rcases List.mem_cons.mp hp with rfl | hp
    · exact h
    · exact h3 p hp
theorem rpk_keys : ∀ {kvs : List (Key × V)} {ds : List (D × D)}, Rpk K G kvs ds → ∃ zs : List VD, zs.map Prod.fst = kvs.map (fun kv => kV kv.1) ∧ zs.map Prod.snd = ds.map (·.1) ∧ ∀ p ∈ zs, Rp K G p.1 p.2
  | _, _, .nil => ⟨[], rfl, rfl, fun _ h => nomatch h⟩
  | _, _, .cons (k := k) hk h r => by
    obtain ⟨zs, h1, h2, h3⟩ := rpk_keys r
    refine ⟨(kV k, keyD k) :: zs, by rw [List.map_cons, List.map_cons, h1], by rw [List.map_cons, List.map_cons, h2], fun p hp => ?_⟩
    rcases List.mem_cons.mp hp with rfl | hp
    · cases k with
      | inl i => exact .int i
      | inr x => exact .str x hk
    · exact h3 p hp
theorem text_items (x : Str) (h : sOk (tx x) = true) : ∀ p ∈ (tx x).map (fun c => ((V.str ⟨⟨[c]⟩⟩, S [c]) : VD)), Rp K G p.1 p.2 := by
  intro p hp
  obtain ⟨c, hc, rfl⟩ := List.mem_map.mp hp
  exact .str _ (sOk_sub h fun d hd => by
    have : d = c := by simpa [tx] using hd
    subst this
    exact hc)
/-- what sorted and set see of a value -/
theorem Vw.items {v : V} {d : D} {xs : List D} (g : Same G H) (h : Vw K G H v d) (e : sortIn d = some xs) : ∃ zs : List VD, zs.map Prod.snd = xs ∧ (∀ p ∈ zs, Rp K G p.1 p.2) ∧
    ((∃ a, v = .ref a ∧ (SqL K H a (zs.map Prod.fst) ∨ SqT K H a (zs.map Prod.fst))) ∨ (∃ z, v = .str z ∧ z.length ≤ sizeLine ∧ zs = (tx z).map fun c => (V.str ⟨⟨[c]⟩⟩, S [c])) ∨ ∃ a kvs, v = .ref a ∧ H a = some (.dK kvs) ∧ (zs.map Prod.fst = kvs.map fun kv => kV kv.1) ∧ ∃ m, d = .dict m) := by
  cases d with
  | list ds =>
    cases e
    obtain ⟨a, vs, rfl, h1, r⟩ := h.list g
    obtain ⟨zs, rfl, h3, h4⟩ := rps_zip r
    exact ⟨zs, h3, h4, .inl ⟨a, rfl, .inl (.inl (.inl h1))⟩⟩
  | tuple ds =>
    cases e
    obtain ⟨a, vs, rfl, h1, r, _⟩ := h.tup g
    obtain ⟨zs, rfl, h3, h4⟩ := rps_zip r
    exact ⟨zs, h3, h4, .inl ⟨a, rfl, .inr h1⟩⟩
  | str x =>
    simp only [sortIn] at e
    split at e
    · rename_i hl
      cases e
      refine ⟨_, ?_, text_items x h.str.2, .inr (.inl ⟨x, h.str.1, by rw [← tx_len, ← line_eq]; exact hl, rfl⟩)⟩
      rw [List.map_map]; rfl
    · cases e
  | dict kvs =>
    simp only [sortIn] at e
    split at e
    · rename_i hd
      cases e
      obtain ⟨a, vs, rfl, h1, r⟩ := h.dict g hd
      obtain ⟨zs, h2, h3, h4⟩ := rpk_keys r
      exact ⟨zs, h3, h4, .inr (.inr ⟨a, vs, rfl, h1, h2, _, rfl⟩)⟩
    · cases e
  | none => cases e
  | bool _ => cases e
  | int _ => cases e
end
section
variable {X : Cx}
theorem noDicts_of {xs : List D} (h : ∀ d ∈ xs, noDict d = true) : noDicts xs = true := by
  induction xs with
  | nil => rfl
  | cons a l ih => rw [noDicts, h a List.mem_cons_self, ih fun x hx => h x (List.mem_cons_of_mem _ hx)]; rfl
theorem sorted_ok : CallOk X (rSortedU X.K) (biD .sorted) := by
  intro G H vs ds s Q g vw e q
  match ds, e with
  | [d], e =>
    obtain ⟨v, rfl, h⟩ := vw.one
    have e : ((sortIn d).bind fun xs => if sortOk xs then some (Rs.fr (.lst (sortD xs))) else none) = some s := e
    cases hs : sortIn d with
    | none => rw [hs] at e; cases e
    | some xs =>
      rw [hs] at e
      have e : (if sortOk xs then some (Rs.fr (.lst (sortD xs))) else none) = some s := e
      split at e
      · rename_i hok
        cases e
        obtain ⟨zs, h1, h2, h3⟩ := h.items g hs
        have hd : DpAll X.K H (zs.map Prod.fst) (zs.map Prod.snd) := ((rps_pairs h2).same g).dp (noDicts_of fun d hd => ((sortOk_all hok).2.2.2 d (h1 ▸ hd)).1)
        refine ⟨v, zs, rfl, h3.imp id fun h3 => h3.imp id fun ⟨a, kvs, e1, e2, e3, _⟩ => ⟨a, kvs, e1, e2, e3⟩, hd, by rw [h1]; exact hok, fun p hp => q _ _ G ⟨p, _, rfl, hp, rfl, rfl, _, upd_same, ?_⟩⟩
        rw [← h1, sortD_map]
        exact rps_pairs fun p hp => h2 p ((List.mergeSort_perm _ _).mem_iff.mp hp)
      · cases e
  | [], e => cases e
  | _ :: _ :: _, e => simp [biD] at e

/-! sets -/
theorem nub_keys (ks : List Key) : nubD (ks.map keyD) = (nubK ks).map keyD := by
  have key : ∀ (ks acc : List Key), (ks.map keyD).foldl (fun acc d => putD d acc) (acc.map keyD) = (ks.foldl (fun acc k => putK k acc) acc).map keyD := by
    intro ks
    induction ks with
    | nil => intro acc; rfl
    | cons k ks ih =>
      intro acc
      rw [List.map_cons, List.foldl_cons, List.foldl_cons, ← ih]
      congr 1
      unfold putD putK
      rw [List.any_map]
      by_cases h : k ∈ acc
      · rw [if_pos h, if_pos (List.any_eq_true.mpr ⟨k, h, by simp [eqD_key]⟩)]
      · rw [if_neg h, if_neg (fun q => by
          obtain ⟨j, hj, e⟩ := List.any_eq_true.mp q
          simp only [Function.comp, eqD_key, decide_eq_true_eq] at e
          exact h (e ▸ hj)), List.map_cons]
  exact key ks []
theorem nubK_sub {ks : List Key} : ∀ k ∈ nubK ks, k ∈ ks := by
  have key : ∀ (ks acc : List Key) (k : Key), k ∈ ks.foldl (fun acc k => putK k acc) acc → k ∈ acc ∨ k ∈ ks := by
    intro ks
    induction ks with
    | nil => exact fun acc k h => .inl h
    | cons j ks ih =>
      intro acc k h
      rw [List.foldl_cons] at h
      rcases ih _ k h with h | h
      · unfold putK at h
        split at h
        · exact .inl h
        · rcases List.mem_cons.mp h with rfl | h
          · exact .inr List.mem_cons_self
          · exact .inl h
      · exact .inr (List.mem_cons_of_mem _ h)
  intro k h
  rcases key ks [] k h with h | h
  · cases h
  · exact h
theorem keys_of {K : PySem.W.Frag} {G : Hp} : ∀ {zs : List VD}, (∀ p ∈ zs, Rp K G p.1 p.2) → ((zs.map Prod.snd).all isI || (zs.map Prod.snd).all isS) = true → ∃ ks : List Key, zs.map Prod.fst = ks.map kV ∧ zs.map Prod.snd = ks.map keyD ∧ (∀ k ∈ ks, kSok k = true) ∧ keysAlike ks := by
  intro zs h a
  rw [Bool.or_eq_true] at a
  have one : ∀ (q : D → Bool) (mk : Key → Prop), (∀ (v : V) (d : D), q d = true → Rp K G v d → ∃ k, v = kV k ∧ d = keyD k ∧ kSok k = true ∧ mk k) → ∀ zs : List VD, (∀ p ∈ zs, Rp K G p.1 p.2) → (zs.map Prod.snd).all q = true → ∃ ks : List Key, zs.map Prod.fst = ks.map kV ∧ zs.map Prod.snd = ks.map keyD ∧ (∀ k ∈ ks, kSok k = true) ∧ ∀ k ∈ ks, mk k := by
    intro q mk hq zs
    induction zs with
    | nil => exact fun _ _ => ⟨[], rfl, rfl, (fun _ h => nomatch h), fun _ h => nomatch h⟩
    | cons z zs ih =>
      intro h a
      rw [List.map_cons, List.all_cons, Bool.and_eq_true] at a
      obtain ⟨ks, h1, h2, h3, h4⟩ := ih (fun p hp => h p (List.mem_cons_of_mem _ hp)) a.2
      obtain ⟨k, k1, k2, k3, k4⟩ := hq z.1 z.2 a.1 (h z List.mem_cons_self)
      refine ⟨k :: ks, by rw [List.map_cons, List.map_cons, h1, k1], by rw [List.map_cons, List.map_cons, h2, k2], fun j hj => ?_, fun j hj => ?_⟩
      · rcases List.mem_cons.mp hj with rfl | hj
        · exact k3
        · exact h3 j hj
      · rcases List.mem_cons.mp hj with rfl | hj
        · exact k4
        · exact h4 j hj
  rcases a with a | a
  · obtain ⟨ks, h1, h2, h3, h4⟩ := one isI (fun k => ∃ i, k = .inl i) (fun v d hd r => by
      unfold isI at hd
      split at hd
      · cases r; exact ⟨.inl _, rfl, rfl, rfl, _, rfl⟩
      · cases hd) zs h a
    refine ⟨ks, h1, h2, h3, .inl ?_⟩
    have : ∀ ks : List Key, (∀ k ∈ ks, ∃ i, k = .inl i) → ∃ ns : List Int, ks = ns.map Sum.inl := by
      intro ks
      induction ks with
      | nil => exact fun _ => ⟨[], rfl⟩
      | cons k ks ih =>
        intro h
        obtain ⟨ns, rfl⟩ := ih fun j hj => h j (List.mem_cons_of_mem _ hj)
        obtain ⟨i, rfl⟩ := h k List.mem_cons_self
        exact ⟨i :: ns, rfl⟩
    exact this ks h4
  · obtain ⟨ks, h1, h2, h3, h4⟩ := one isS (fun k => ∃ i, k = .inr i) (fun v d hd r => by
      unfold isS at hd
      split at hd
      · cases r; rename_i ho; exact ⟨.inr _, rfl, rfl, ho, _, rfl⟩
      · cases hd) zs h a
    refine ⟨ks, h1, h2, h3, .inr ?_⟩
    have : ∀ ks : List Key, (∀ k ∈ ks, ∃ i, k = .inr i) → ∃ ns : List Str, ks = ns.map Sum.inr := by
      intro ks
      induction ks with
      | nil => exact fun _ => ⟨[], rfl⟩
      | cons k ks ih =>
        intro h
        obtain ⟨ns, rfl⟩ := ih fun j hj => h j (List.mem_cons_of_mem _ hj)
        obtain ⟨i, rfl⟩ := h k List.mem_cons_self
        exact ⟨i :: ns, rfl⟩
    exact this ks h4
theorem keysAlike.sub {ks bs : List Key} (h : keysAlike ks) (s : ∀ b ∈ bs, b ∈ ks) : keysAlike bs := by
  rcases h with ⟨ns, rfl⟩ | ⟨xs, rfl⟩
  · left
    induction bs with
    | nil => exact ⟨[], rfl⟩
    | cons b bs ih =>
      obtain ⟨ms, rfl⟩ := ih fun c hc => s c (List.mem_cons_of_mem _ hc)
      obtain ⟨m, _, rfl⟩ := List.mem_map.mp (s b List.mem_cons_self)
      exact ⟨m :: ms, rfl⟩
  · right
    induction bs with
    | nil => exact ⟨[], rfl⟩
    | cons b bs ih =>
      obtain ⟨ms, rfl⟩ := ih fun c hc => s c (List.mem_cons_of_mem _ hc)
      obtain ⟨m, _, rfl⟩ := List.mem_map.mp (s b List.mem_cons_self)
      exact ⟨m :: ms, rfl⟩
theorem Vw.setK {K : PySem.W.Frag} {G H : Hp} {v : V} {d : D} {xs : List D} (g : Same G H) (h : Vw K G H v d) (e : setIn d = some xs) (ok : setOk xs = true) : ∃ ks : List Key, xs = ks.map keyD ∧ (∀ k ∈ ks, kSok k = true) ∧ keysAlike ks ∧ ks.length + 1 < scanBound ∧
    ((∃ a, v = .ref a ∧ (SqL K H a (ks.map kV) ∨ SqT K H a (ks.map kV))) ∨ (∃ z, v = .str z ∧ ks = (tx z).map fun c => .inr ⟨⟨[c]⟩⟩)) := by
  have nd : ∀ kvs, d ≠ .dict kvs := by rintro kvs rfl; cases e
  have e : sortIn d = some xs := by
    unfold setIn at e
    split at e
    · cases e
    · exact e
  simp only [setOk, Bool.and_eq_true, decide_eq_true_eq] at ok
  obtain ⟨zs, h1, h2, h3⟩ := h.items g e
  obtain ⟨ks, k1, k2, k3, k4⟩ := keys_of h2 (by rw [h1]; exact ok.1)
  have kl : ks.length = xs.length := by
    have := congrArg List.length k2
    rw [List.length_map, List.length_map] at this
    rw [← this, ← h1, List.length_map]
  have sb : scanBound = 4096 := rfl
  refine ⟨ks, h1 ▸ k2, k3, k4, by omega, ?_⟩
  rcases h3 with ⟨a, rfl, h3⟩ | ⟨z, rfl, _, h3⟩ | ⟨a, kvs, rfl, h3, _⟩
  · rw [k1] at h3; exact .inl ⟨a, rfl, h3⟩
  · refine .inr ⟨z, rfl, ?_⟩
    rw [h3, List.map_map] at k1
    have inj : ∀ (ks js : List Key), ks.map kV = js.map kV → ks = js := by
      intro ks
      induction ks with
      | nil => intro js h; cases js with
        | nil => rfl
        | cons j js => cases h
      | cons k ks ih =>
        intro js h
        cases js with
        | nil => cases h
        | cons j js =>
          rw [List.map_cons, List.map_cons] at h
          injection h with h1 h2
          rw [ih js h2]
          congr 1
          cases k <;> cases j <;> cases h1 <;> rfl
    refine (inj _ _ ?_).symm
    rw [List.map_map, ← k1]; rfl
  · rename_i h5
    obtain ⟨_, m, hm⟩ := h5
    exact absurd hm (nd m)
theorem sset_ok : CallOk X (fun xs H Q => rSetU X.K X.prog X.w xs H fun v H2 => rSortedG X.prog X.w [v] H2 Q) (biD .sset) := by
  intro G H vs ds s Q g vw e q
  match ds, e with
  | [d], e =>
    obtain ⟨v, rfl, h⟩ := vw.one
    have e : ((setIn d).bind fun xs => if setOk xs then some (Rs.fr (.lst (sortD (nubD xs)))) else none) = some s := e
    cases hs : setIn d with
    | none => rw [hs] at e; cases e
    | some xs =>
      rw [hs] at e
      have e : (if setOk xs then some (Rs.fr (.lst (sortD (nubD xs)))) else none) = some s := e
      split at e
      · rename_i hok
        cases e
        obtain ⟨ks, rfl, k2, k3, k4, k5⟩ := h.setK g hs hok
        have ka : keysAlike (nubK ks) := k3.sub nubK_sub
        refine ⟨v, ks, rfl, k5, k4, fun p hp => ⟨p, nubK ks, H, rfl, rfl, hp, ka, fun bs hb r hr => q _ _ G ⟨r, _, rfl, hr, rfl, rfl, _, upd_same, ?_⟩⟩⟩
        have e1 : sortD (nubD (ks.map keyD)) = (bs.mergeSort (PySem.W.dataLe false keyD)).map keyD := by
          rw [nub_keys, ← sortD_map]
          exact (sortD_perm (hb.map keyD) ka.data.1).symm
        rw [e1]
        have all : ∀ bs : List Key, (∀ b ∈ bs, kSok b = true) → Rps X.K G (bs.map kV) (bs.map keyD) := by
          intro bs
          induction bs with
          | nil => exact fun _ => .nil
          | cons b bs ih =>
            intro hb
            refine .cons ?_ (ih fun c hc => hb c (List.mem_cons_of_mem _ hc))
            have := hb b List.mem_cons_self
            cases b with
            | inl i => exact .int i
            | inr x => exact .str x this
        exact all _ fun b hb2 => k2 b (nubK_sub b (hb.mem_iff.mp ((List.mergeSort_perm _ _).mem_iff.mp hb2)))
      · cases e
  | [], e => cases e
  | _ :: _ :: _, e => simp [biD] at e
theorem lset_ok : CallOk X (fun xs H Q => rSetU X.K X.prog X.w xs H fun v H2 => rLenG X.prog X.w [v] H2 Q) (biD .lset) := by
  intro G H vs ds s Q g vw e q
  match ds, e with
  | [d], e =>
    obtain ⟨v, rfl, h⟩ := vw.one
    have e : ((setIn d).bind fun xs => if setOk xs then some (Rs.val (.int (nubD xs).length)) else none) = some s := e
    cases hs : setIn d with
    | none => rw [hs] at e; cases e
    | some xs =>
      rw [hs] at e
      have e : (if setOk xs then some (Rs.val (.int (nubD xs).length)) else none) = some s := e
      split at e
      · rename_i hok
        cases e
        obtain ⟨ks, rfl, k2, k3, k4, k5⟩ := h.setK g hs hok
        refine ⟨v, ks, rfl, k5, k4, fun p hp => ⟨p, nubK ks, H, rfl, rfl, hp, ?_⟩⟩
        rw [nub_keys, List.length_map] at q
        exact q _ H G ⟨rfl, rfl, .int _⟩
      · cases e
  | [], e => cases e
  | _ :: _ :: _, e => simp [biD] at e
end
section
variable {X : Cx} {W : XW} {F : Fns} {e : Expr} {x : Tx} {p p2 pos pos2 : Pos}
theorem nst_call {f : Expr} {es : List Expr} {kw : List Keyword} {pos : Pos} : nst (.Call f es kw pos) = true := rfl
/-- sorted(set(e)) -/
theorem u_sset (hc : X.calm = true) (hu : X.A.units + 65 < cLine) (hg : Gl X "sorted") (hm : X.mg "sorted" = none) (hg2 : Gl X "set") (hm2 : X.mg "set" = none) (hv2 : bootBuiltins "set" = some (.type "set")) (ha : UA X W F x [e]) :
    U3 X W F (.bi .sset x) (.Call (.Name "sorted" p) [.Call (.Name "set" p2) [e] [] pos2] [] pos) := by
  have ns := ha.ns
  simp only [List.all_cons, Bool.and_eq_true] at ns
  have inner := pe_callTy (pos := pos2) (p := p2) (cr_setU hc) hg2 hm2 hv2 ha.O (by decide) (by decide) (star_of ns.1) (plain_of ns.2)
  refine U3.mk' (pe_imp (pe_callB (cr_sortedG hc (by omega)) hg hm (by rfl) (pa_cons inner pa_nil (star_of nst_call)) (by decide) (by decide) (star_of nst_call) (plain_of rfl)) fun σ H Q q => ?_) (by funext; rfl) fun _ => rfl
  exact bi_read sset_ok q
/-- len(set(e)) -/
theorem u_lset (hc : X.calm = true) (hu : X.A.units + 65 < cLine) (hg : Gl X "len") (hm : X.mg "len" = none) (hg2 : Gl X "set") (hm2 : X.mg "set" = none) (hv2 : bootBuiltins "set" = some (.type "set")) (ha : UA X W F x [e]) :
    U3 X W F (.bi .lset x) (.Call (.Name "len" p) [.Call (.Name "set" p2) [e] [] pos2] [] pos) := by
  have ns := ha.ns
  simp only [List.all_cons, Bool.and_eq_true] at ns
  have inner := pe_callTy (pos := pos2) (p := p2) (cr_setU hc) hg2 hm2 hv2 ha.O (by decide) (by decide) (star_of ns.1) (plain_of ns.2)
  refine U3.mk' (pe_imp (pe_callB cr_lenG hg hm (by rfl) (pa_cons inner pa_nil (star_of nst_call)) (by decide) (by decide) (star_of nst_call) (plain_of rfl)) fun σ H Q q => ?_) (by funext; rfl) fun _ => rfl
  exact bi_read lset_ok q
end
end U
end

section
namespace U
open PySem PySem.Spec PyProof.Rows L2
section
variable {X : Cx} {W : XW} {F : Fns} {ea eb : Expr} {a b : Tx} {p p2 pos pos2 : Pos}
theorem bi_read1 {r : V → Hp → VK → Prop} {f : Bi} (ok : ∀ (G H : Hp) (v : V) (d : D) (s : Rs) (Q : V → Hp → Prop), Same G H → Vw X.K G H v d → biD f [d] = some s → (∀ v H' G', New X.K H G s v H' G' → Q v H') → r v H Q) {σ : St} {H : Hp} {Q : V → Hp → Prop} (h : uG X.K W (rE X.K) (denE F (.bi f (.cons a .nil))) σ H Q) :
    uG X.K W (rO X.K) (opd a (denE F a)) σ H fun v H1 => r v H1 Q := by
  obtain ⟨B, env, G, rl, h⟩ := h
  simp only [denE, denOs] at h
  refine step (ρ := rO X.K) (ρ' := rE X.K) (Q := Q) (f := opd a (denE F a)) (g := fun s => (ofO (resAll s.2 [s.1])).bind fun ds => (ofO (biD f ds)).bind fun r => .ok (r.toR, s.2)) rl ?_ fun s v H1 G1 _ r1 k1 o1 h1 => ?_
  · cases e0 : opd a (denE F a) env with
    | stuck => rw [e0] at h; exact h
    | exn c w => rw [e0] at h; exact h
    | ok s => rw [e0] at h; exact h
  · cases e1 : resAll s.2 [s.1] with
    | none => rw [e1] at h1; exact h1.elim
    | some ds =>
      rw [e1] at h1
      simp only [ofO, Out.bind] at h1
      cases e2 : biD f ds with
      | none => rw [e2] at h1; exact h1.elim
      | some q =>
        rw [e2] at h1
        obtain ⟨d, es, rfl, v1, v2⟩ := OpVs.view r1 (os := [s.1]) ⟨v, [], rfl, o1, rfl⟩ e1
        cases (show es = [] from v2)
        exact ok G1 H1 v d q Q r1.sub v1 e2 fun u H' G' n => by
          obtain ⟨r3, k3, n3⟩ := n.fin r1
          exact h1 u H' G' r3 k3 n3
theorem bi_read2 {r : V → V → Hp → VK → Prop} {f : Bi} (ok : ∀ (G H : Hp) (v w : V) (d d' : D) (s : Rs) (Q : V → Hp → Prop), Same G H → Vw X.K G H v d → Vw X.K G H w d' → biD f [d, d'] = some s → (∀ v H' G', New X.K H G s v H' G' → Q v H') → r v w H Q) {σ : St} {H : Hp} {Q : V → Hp → Prop} (h : uG X.K W (rE X.K) (denE F (.bi f (.cons a (.cons b .nil)))) σ H Q) :
    uG X.K W (rO X.K) (opd a (denE F a)) σ H fun v H1 => uG X.K W (rO X.K) (opd b (denE F b)) σ H1 fun w H2 => r v w H2 Q := by
  obtain ⟨B, env, G, rl, h⟩ := h
  simp only [denE, denOs] at h
  refine step (ρ := rO X.K) (ρ' := rE X.K) (Q := Q) (f := opd a (denE F a)) (g := fun s => (opd b (denE F b) s.2).bind fun t => (ofO (resAll t.2 [s.1, t.1])).bind fun ds => (ofO (biD f ds)).bind fun r => .ok (r.toR, t.2)) rl ?_ fun s v H1 G1 _ r1 k1 o1 h1 => ?_
  · cases e0 : opd a (denE F a) env with
    | stuck => rw [e0] at h; exact h
    | exn c w => rw [e0] at h; exact h
    | ok s =>
      rw [e0] at h
      simp only [Out.bind] at h ⊢
      cases e0' : opd b (denE F b) s.2 with
      | stuck => rw [e0'] at h; exact h
      | exn c w => rw [e0'] at h; exact h
      | ok t => rw [e0'] at h; exact h
  refine step (ρ := rO X.K) (ρ' := rE X.K) (Q := Q) (f := opd b (denE F b)) (g := fun t => (ofO (resAll t.2 [s.1, t.1])).bind fun ds => (ofO (biD f ds)).bind fun r => .ok (r.toR, t.2)) r1 h1 fun t w H2 G2 _ r2 k2 o2 h2 => ?_
  cases e1 : resAll t.2 [s.1, t.1] with
  | none => simp only [e1] at h2; exact h2.elim
  | some ds =>
    simp only [e1, ofO, Out.bind] at h2
    cases e2 : biD f ds with
    | none => rw [e2] at h2; exact h2.elim
    | some q =>
      rw [e2] at h2
      obtain ⟨d, es, rfl, v1, d', es', e3, v2, v3⟩ := OpVs.view r2 (os := [s.1, t.1]) ⟨v, [w], rfl, o1.keep k2.sub, w, [], rfl, o2, rfl⟩ e1
      cases (show es' = [] from v3)
      subst e3
      exact ok G2 H2 v w d d' q Q r2.sub v1 v2 e2 fun u H' G' n => by
        obtain ⟨r3, k3, n3⟩ := n.fin r2
        exact h2 u H' G' r3 k3 n3
theorem rg_rps {K : PySem.W.Frag} {G : Hp} : ∀ (n : Nat) (lo : Int), Rps K G ((List.range n).map fun i => V.int (lo + (i : Nat))) (rangeT lo n)
  | 0, _ => .nil
  | n + 1, lo => by
    rw [List.range_succ_eq_map, List.map_cons, List.map_map, rangeT]
    refine .cons (by simpa using Rp.int lo) ?_
    have := rg_rps (K := K) (G := G) n (lo + 1)
    have e : ((fun i : Nat => V.int (lo + (i : Nat))) ∘ Nat.succ) = fun i : Nat => V.int (lo + 1 + (i : Nat)) := by
      funext i
      show V.int (lo + ((i + 1 : Nat) : Int)) = _
      congr 1; omega
    rw [e]; exact this
theorem lrng1_ok (G H : Hp) (v : V) (d : D) (s : Rs) (Q : V → Hp → Prop) (g : Same G H) (h : Vw X.K G H v d) (e : biD .lrng [d] = some s) (q : ∀ v H' G', New X.K H G s v H' G' → Q v H') : ∃ n, v = .int n ∧ RgOk 0 n ∧ ∀ q, H q = none → Q (.ref q) (upd H q (.lst (rgV 0 n))) := by
  cases d with
  | int j =>
    have e : (if decide (0 ≤ j) && decide (j ≤ 16777216) then some (Rs.fr (.lst (rangeT 0 j.toNat))) else none) = some s := e
    split at e
    · rename_i hj
      simp only [Bool.and_eq_true, decide_eq_true_eq] at hj
      cases e
      refine ⟨j, h.int, RgOk.of_le (by omega) (by omega) (by omega) (by omega), fun r hr => q _ _ G ⟨r, _, rfl, hr, rfl, rfl, _, upd_same, ?_⟩⟩
      have := rg_rps (K := X.K) (G := G) j.toNat 0
      rw [show j.toNat = (j - 0).toNat by omega] at this ⊢
      exact this
    · cases e
  | none => cases e
  | bool _ => cases e
  | str _ => cases e
  | list _ => cases e
  | tuple _ => cases e
  | dict _ => cases e
theorem lrng2_ok (G H : Hp) (v w : V) (d d' : D) (s : Rs) (Q : V → Hp → Prop) (g : Same G H) (h : Vw X.K G H v d) (h' : Vw X.K G H w d') (e : biD .lrng [d, d'] = some s) (q : ∀ v H' G', New X.K H G s v H' G' → Q v H') : ∃ i j, v = .int i ∧ w = .int j ∧ RgOk i j ∧ ∀ q, H q = none → Q (.ref q) (upd H q (.lst (rgV i j))) := by
  by_cases hi : (∃ i, d = .int i) ∧ ∃ j, d' = .int j
  · obtain ⟨⟨i, rfl⟩, j, rfl⟩ := hi
    have e : (if decide (0 ≤ i) && decide (i ≤ 16777216) && decide (0 ≤ j) && decide (j ≤ 16777216) then some (Rs.fr (.lst (rangeT i (j - i).toNat))) else none) = some s := e
    split at e
    · rename_i hj
      simp only [Bool.and_eq_true, decide_eq_true_eq] at hj
      cases e
      exact ⟨i, j, h.int, h'.int, RgOk.of_le (by omega) (by omega) (by omega) (by omega), fun r hr => q _ _ G ⟨r, _, rfl, hr, rfl, rfl, _, upd_same, rg_rps _ _⟩⟩
    · cases e
  · exfalso
    cases d <;> cases d' <;> first | cases e | exact hi ⟨⟨_, rfl⟩, _, rfl⟩
theorem trng1_ok (G H : Hp) (v : V) (d : D) (s : Rs) (Q : V → Hp → Prop) (g : Same G H) (h : Vw X.K G H v d) (e : biD .trng [d] = some s) (q : ∀ v H' G', New X.K H G s v H' G' → Q v H') : ∃ n, v = .int n ∧ RgOk 0 n ∧ ∀ q, H q = none → Q (.ref q) (upd H q (.tup (rgV 0 n))) := by
  cases d with
  | int j =>
    have e : (if decide (0 ≤ j) && decide (j ≤ 16777216) then some (Rs.nt (rangeT 0 j.toNat)) else none) = some s := e
    split at e
    · rename_i hj
      simp only [Bool.and_eq_true, decide_eq_true_eq] at hj
      cases e
      refine ⟨j, h.int, RgOk.of_le (by omega) (by omega) (by omega) (by omega), fun r hr => q _ _ _ ⟨r, _, rfl, hr, rfl, rfl, ?_⟩⟩
      have := rg_rps (K := X.K) (G := G) j.toNat 0
      rw [show j.toNat = (j - 0).toNat by omega] at this ⊢
      exact this
    · cases e
  | none => cases e
  | bool _ => cases e
  | str _ => cases e
  | list _ => cases e
  | tuple _ => cases e
  | dict _ => cases e
theorem trng2_ok (G H : Hp) (v w : V) (d d' : D) (s : Rs) (Q : V → Hp → Prop) (g : Same G H) (h : Vw X.K G H v d) (h' : Vw X.K G H w d') (e : biD .trng [d, d'] = some s) (q : ∀ v H' G', New X.K H G s v H' G' → Q v H') : ∃ i j, v = .int i ∧ w = .int j ∧ RgOk i j ∧ ∀ q, H q = none → Q (.ref q) (upd H q (.tup (rgV i j))) := by
  by_cases hi : (∃ i, d = .int i) ∧ ∃ j, d' = .int j
  · obtain ⟨⟨i, rfl⟩, j, rfl⟩ := hi
    have e : (if decide (0 ≤ i) && decide (i ≤ 16777216) && decide (0 ≤ j) && decide (j ≤ 16777216) then some (Rs.nt (rangeT i (j - i).toNat)) else none) = some s := e
    split at e
    · rename_i hj
      simp only [Bool.and_eq_true, decide_eq_true_eq] at hj
      cases e
      exact ⟨i, j, h.int, h'.int, RgOk.of_le (by omega) (by omega) (by omega) (by omega), fun r hr => q _ _ _ ⟨r, _, rfl, hr, rfl, rfl, rg_rps _ _⟩⟩
    · cases e
  · exfalso
    cases d <;> cases d' <;> first | cases e | exact hi ⟨⟨_, rfl⟩, _, rfl⟩

theorem u_rng1 {f : Bi} {nm : Str} (hc : X.calm = true) (hf : (f = .lrng ∧ nm = "list") ∨ (f = .trng ∧ nm = "tuple")) (hg : Gl X nm) (hm : X.mg nm = none) (hg2 : Gl X "range") (hm2 : X.mg "range" = none) (ha : U3 X W F a ea) (na : nst ea = true) :
    U3 X W F (.bi f (.cons a .nil)) (.Call (.Name nm p) [.Call (.Name "range" p2) [ea] [] pos2] [] pos) := by
  rcases hf with ⟨rfl, rfl⟩ | ⟨rfl, rfl⟩
  · exact U3.mk' (pe_imp (pe_listRg hc hg hm (prg_1 hg2 hm2 ha.O (star_of na)) (star_of nst_call)) fun σ H Q q => bi_read1 lrng1_ok q) (by funext; rfl) fun _ => rfl
  · exact U3.mk' (pe_imp (pe_tupRg hc hg hm (prg_1 hg2 hm2 ha.O (star_of na)) (star_of nst_call)) fun σ H Q q => bi_read1 trng1_ok q) (by funext; rfl) fun _ => rfl
theorem u_rng2 {f : Bi} {nm : Str} (hc : X.calm = true) (hf : (f = .lrng ∧ nm = "list") ∨ (f = .trng ∧ nm = "tuple")) (hg : Gl X nm) (hm : X.mg nm = none) (hg2 : Gl X "range") (hm2 : X.mg "range" = none) (ha : U3 X W F a ea) (hb : U3 X W F b eb) (na : nst ea = true) (nb : nst eb = true) :
    U3 X W F (.bi f (.cons a (.cons b .nil))) (.Call (.Name nm p) [.Call (.Name "range" p2) [ea, eb] [] pos2] [] pos) := by
  rcases hf with ⟨rfl, rfl⟩ | ⟨rfl, rfl⟩
  · exact U3.mk' (pe_imp (pe_listRg hc hg hm (prg_2 hg2 hm2 ha.O hb.O (star_of na) (star_of nb) (plain_of (by simp [nb]))) (star_of nst_call)) fun σ H Q q => bi_read2 lrng2_ok q) (by funext; rfl) fun _ => rfl
  · exact U3.mk' (pe_imp (pe_tupRg hc hg hm (prg_2 hg2 hm2 ha.O hb.O (star_of na) (star_of nb) (plain_of (by simp [nb]))) (star_of nst_call)) fun σ H Q q => bi_read2 trng2_ok q) (by funext; rfl) fun _ => rfl
end
end U
end

section
namespace U
open PySem PySem.Spec PyProof.Rows L2

/-! ### what a def promises -/
def Post (K : PySem.W.Frag) (H G : Hp) (ex : Option Addr) (H' G' : Hp) : Prop :=
  Same G G' ∧ Same G' H' ∧ (∀ a, H a ≠ none → H' a ≠ none) ∧ ∀ a o, H a = some o → ex ≠ some a → H' a = some o ∧ G' a = G a
def spF (K : PySem.W.Frag) (cls : Nat → Value) (call : List D → Cr) : Sp := fun vs H Q E => ∃ G ds, Same G H ∧ Rps K G vs ds ∧ match call ds with
  | .ret r => ∀ v H' G', Post K H G none H' G' → RV K H H' G' r v → Q v H'
  | .exn c => ∀ d H' G', Post K H G none H' G' → E (cls c) d H'
  | .stuck => False
def spM (K : PySem.W.Frag) (cls : Nat → Value) (call : Ow → List D → CrM) : Sp := fun vs H Q E => ∃ G a ws o ds, vs = .ref a :: ws ∧ Same G H ∧ G a = none ∧ OwAt K G H a o ∧ Rps K G ws ds ∧ match call o ds with
  | .ret r o' => ∀ v H' G', Post K H G (some a) H' G' → G' a = none → OwAt K G' H' a o' → RV K H H' G' r v → Q v H'
  | .exn c o' => ∀ d H' G', Post K H G (some a) H' G' → G' a = none → OwAt K G' H' a o' → E (cls c) d H'
  | .stuck => False

section
variable {K : PySem.W.Frag} {B : Bs} {env : Ev} {σ : St} {H G H' G' : Hp}
theorem Rel.after (r : Rel K B env σ H G) (p : Post K H G none H' G') : Rel K B env σ H' G' ∧ Keep env σ H G env H' G' := by
  obtain ⟨p1, p2, p3, p4⟩ := p
  refine ⟨⟨r.len, fun i d e => ?_, fun i io o e => ?_, r.dis, p2, r.g0.trans p1, fun a o e n => ?_, r.m⟩, ⟨fun a o e n => p4 a o e (by simp), p3, p1, fun _ _ o h => ⟨o, h⟩, fun _ _ h => h⟩⟩
  · obtain ⟨v, h1, h2⟩ := r.val i d e
    exact ⟨v, h1, h2.same p1⟩
  · obtain ⟨a, h1, h2, h3, h4⟩ := r.own i io o e
    obtain ⟨u, hu⟩ := h3.some
    refine ⟨a, h1, ?_, h3.mono p1 (fun w hw => (p4 a w hw (by simp)).1), h4⟩
    rw [(p4 a u hu (by simp)).2]; exact h2
  · obtain ⟨h1, h2⟩ := r.kept a o e n
    obtain ⟨h3, h4⟩ := p4 a o h1 (by simp)
    exact ⟨h3, h4.trans h2⟩
theorem Rel.afterM (r : Rel K B env σ H G) {a : Addr} {i : Nat} {io : Bool} {o o' : Ow} (e : env[i]? = some (.own io o)) (ha : σ[i]? = some (some (.ref a))) (p : Post K H G (some a) H' G') (hg : G' a = none) (w : OwAt K G' H' a o') :
    Rel K B (env.set i (.own io o')) σ H' G' ∧ Keep env σ H G (env.set i (.own io o')) H' G' := by
  obtain ⟨p1, p2, p3, p4⟩ := p
  obtain ⟨b, h1, h2, h3, h4⟩ := r.own i io o e
  have hab : b = a := by rw [ha] at h1; cases h1; rfl
  subst hab
  have hi : i < env.length := (List.getElem?_eq_some_iff.mp e).1
  have look : ∀ (j : Nat) (x : Slot), (env.set i (.own io o'))[j]? = some x → (j = i ∧ x = .own io o') ∨ (j ≠ i ∧ env[j]? = some x) := fun j x q => by
    by_cases hj : i = j
    · subst hj
      rw [List.getElem?_set_self hi] at q
      exact .inl ⟨rfl, (Option.some.inj q).symm⟩
    · rw [List.getElem?_set_ne hj] at q
      exact .inr ⟨fun z => hj z.symm, q⟩
  refine ⟨⟨?_, ?_, ?_, ?_, p2, r.g0.trans p1, ?_, ?_⟩, ⟨?_, p3, p1, ?_, ?_⟩⟩
  · rw [List.length_set]; exact r.len
  · intro j d q
    rcases look j _ q with ⟨_, z⟩ | ⟨_, q⟩
    · cases z
    · obtain ⟨v, q1, q2⟩ := r.val j d q
      exact ⟨v, q1, q2.same p1⟩
  · intro j jo p q
    rcases look j _ q with ⟨rfl, z⟩ | ⟨hj, q⟩
    · cases z; exact ⟨b, ha, hg, w, h4⟩
    · obtain ⟨c, q1, q2, q3, q4⟩ := r.own j jo p q
      have ne : c ≠ b := fun z => hj (r.dis j i jo io p o b q e (z ▸ q1) ha)
      obtain ⟨u, hu⟩ := q3.some
      have ne' : some b ≠ some c := fun z => ne (Option.some.inj z).symm
      refine ⟨c, q1, by rw [(p4 c u hu ne').2]; exact q2, q3.mono p1 (fun v hv => (p4 c v hv ne').1), q4⟩
  · intro j k jo ko p q c e1 e2
    rcases look j _ e1 with ⟨rfl, z⟩ | ⟨hj, f1⟩
    · rcases look k _ e2 with ⟨rfl, z'⟩ | ⟨hk, f2⟩
      · intros; rfl
      · exact r.dis j k io ko o q c e f2
    · rcases look k _ e2 with ⟨rfl, z'⟩ | ⟨hk, f2⟩
      · exact r.dis j k jo io p o c f1 e
      · exact r.dis j k jo ko p q c f1 f2
  · intro c v q n
    obtain ⟨q1, q2⟩ := r.kept c v q n
    have ne : c ≠ b := fun z => by
      subst z
      cases io with
      | true => exact n (by simpa using h4.1)
      | false => simp [q] at h4
    obtain ⟨q3, q4⟩ := p4 c v q1 (fun z => ne (Option.some.inj z).symm)
    exact ⟨q3, q4.trans q2⟩
  · intro c q
    obtain ⟨q1, p, q2⟩ := r.m c q
    refine ⟨q1, ?_⟩
    by_cases z : i = 0
    · subst z
      rw [q2] at e; cases e
      exact ⟨o', List.getElem?_set_self hi⟩
    · exact ⟨p, by rw [List.getElem?_set_ne z]; exact q2⟩
  · intro c v q n
    exact p4 c v q fun z => n ⟨i, io, o, e, by rw [← Option.some.inj z]; exact ha⟩
  · intro j jo p q
    rcases look j _ q with ⟨rfl, z⟩ | ⟨_, q⟩
    · cases z; exact ⟨o, e⟩
    · exact ⟨p, q⟩
  · intro j d q
    have ne : i ≠ j := fun z => by subst z; rw [e] at q; cases q
    rw [List.getElem?_set_ne ne]; exact q
end

def wx (cls : Nat → Value) (W : XW) : WX := fun c _ σ H => ∃ k, cls k = c ∧ W k σ H
/-- what the body's context must give -/
structure Cc (X : Cx) (W : XW) (cls : Nat → Value) : Prop where
  calm : X.calm = true
  nd : X.N.Nodup
  hu : X.A.units + 65 < cLine
  tk : Takes X (wx cls W)
/-- the def with the number f stands at nm -/
structure Ff (X : Cx) (cls : Nat → Value) (sp : Sp) (nm : Str) : Prop where
  ex : ∃ (fa : Addr) (fd : FuncData) (ps : List Str) (k : Nat), FnOk X.prog X.w X.K X.mg X.base (CX X.prog X.w) k fa fd ps sp ∧ Room k X.A ∧ X.mg nm = some (.ref fa) ∧ PySem.W.keepIn X.K (.ref fa) = true ∧ Binds X.K fd ps []

section
variable {X : Cx} {W : XW} {F : Fns} {cls : Nat → Value} {e ea eb ec : Expr} {a b c : Tx} {es : List Expr} {pos p : Pos}
theorem call_read {f : Nat} {x : Tx} {σ : St} {H : Hp} {Q : V → Hp → Prop} (h : uG X.K W (rE X.K) (denE F (.call f x)) σ H Q) :
    tCallS (spF X.K cls (F.call f)) (WE (wx cls W)) (uG X.K W (rL X.K) (denL F x)) σ H Q := by
  obtain ⟨B, env, G, rl, h⟩ := h
  simp only [denE] at h
  refine step (ρ := rL X.K) (f := denL F x) rl h fun s vs H1 G1 _ r1 k1 o1 h1 => ?_
  refine ⟨G1, s.1, r1.sub, o1, ?_⟩
  cases e1 : F.call f s.1 with
  | ret r =>
    rw [e1] at h1
    intro v H' G' hp hr
    obtain ⟨r2, k2⟩ := r1.after hp
    exact h1 v H' G' r2 k2 hr
  | exn c =>
    rw [e1] at h1
    intro d H' G' hp
    obtain ⟨r2, k2⟩ := r1.after hp
    exact ⟨c, rfl, h1 H' G' r2 k2⟩
  | stuck => rw [e1] at h1; exact h1
theorem u_call {f : Nat} {nm : Str} {x : Tx} (C : Cc X W cls) (T : Ff X cls (spF X.K cls (F.call f)) nm) (hg : Gl X nm) (ha : UA X W F x (e :: es)) (hdb : (nm == ("__debug__" : Str)) = false) : U3 X W F (.call f x) (.Call (.Name nm p) (e :: es) [] pos) := by
  obtain ⟨fa, fd, ps, k, h1, h2, h3, h4, h5⟩ := T.ex
  have ns := ha.ns
  simp only [List.all_cons, Bool.and_eq_true] at ns
  exact U3.mk' (pe_imp (pe_callS h1 h2 hg h3 h4 h5 (passAt C.tk) ha.V hdb (star_of ns.1) (plain_of ns.2)) fun σ H Q q => call_read q) (by funext; rfl) fun _ => rfl
theorem u_call0 {f : Nat} {nm : Str} (C : Cc X W cls) (T : Ff X cls (spF X.K cls (F.call f)) nm) (hg : Gl X nm) (hdb : (nm == ("__debug__" : Str)) = false) : U3 X W F (.call f .nil) (.Call (.Name nm p) [] [] pos) := by
  obtain ⟨fa, fd, ps, k, h1, h2, h3, h4, h5⟩ := T.ex
  have hE : PE X (.Call (.Name nm p) [] [] pos) (tCallS (spF X.K cls (F.call f)) (WE (wx cls W)) tNil) := by
    refine ⟨fun pins s σ H Q I h => ?_⟩
    refine wpAny_Call_Name_kw (ld_glob I hg h3 ?_ hdb)
    exact PySem.W.callWith_K0 I.kIn h4 (run_fnS (us := []) h1 h2 h5 (passAt C.tk σ) I .nil h)
  refine U3.mk' (pe_imp hE fun σ H Q q => ?_) (by funext; rfl) fun _ => rfl
  have q := call_read (cls := cls) q
  obtain ⟨B, env, G, rl, q⟩ := q
  simp only [denL] at q
  exact q [] H G rl Keep.refl .nil
theorem u_callM {f i : Nat} {nm x' : Str} {x : Tx} {p1 : Pos} (C : Cc X W cls) (T : Ff X cls (spM X.K cls (F.callM f)) nm) (hg : Gl X nm) (hN : X.N[i]? = some x') (hv : Vis X.env.scope x') (hd : (x' == ("__debug__" : Str)) = false) (hcd : (x' == ("__classdict__" : Str)) = false)
    (ha : UA X W F x es) (hdb : (nm == ("__debug__" : Str)) = false) : U3 X W F (.callM f i x) (.Call (.Name nm p) (.Name x' p1 :: es) [] pos) := by
  obtain ⟨fa, fd, ps, k, h1, h2, h3, h4, h5⟩ := T.ex
  have hv : PE X (.Name x' p1) (tVar i) := pe_var hN hv hd hcd
  refine U3.mk' (pe_imp (pe_callS h1 h2 hg h3 h4 h5 (passAt C.tk) (pa_cons hv ha.V (star_of rfl)) hdb (star_of rfl) (plain_of ha.ns)) fun σ H Q q => ?_) (by funext; rfl) fun _ => rfl
  obtain ⟨B, env, G, rl, h⟩ := q
  simp only [denE] at h
  split at h
  · rename_i io o e0
    obtain ⟨a, h6, h7, h8, h9⟩ := rl.own i io o e0
    refine ⟨_, h6, ?_⟩
    refine step (ρ := rL X.K) (f := denL F x) rl h fun s vs H1 G1 _ r1 k1 o1 h1 => ?_
    split at h1
    · rename_i io' o' e1
      obtain ⟨a', g6, g7, g8, g9⟩ := r1.own i io' o' e1
      have : a' = a := by rw [h6] at g6; cases g6; rfl
      subst this
      refine ⟨G1, a', vs, o', s.1, rfl, r1.sub, g7, g8, o1, ?_⟩
      cases e2 : F.callM f o' s.1 with
      | ret r o2 =>
        rw [e2] at h1
        intro v H' G' hp hg hw hr
        obtain ⟨r2, k2⟩ := r1.afterM e1 h6 hp hg hw
        exact h1 v H' G' r2 k2 hr
      | exn c o2 =>
        rw [e2] at h1
        intro d H' G' hp hg hw
        obtain ⟨r2, k2⟩ := r1.afterM e1 h6 hp hg hw
        exact ⟨c, rfl, h1 H' G' r2 k2⟩
      | stuck => rw [e2] at h1; exact h1
    · exact h1.elim
  · exact h.elim
end
end U
end

section
namespace U
open PySem PySem.Spec PyProof.Rows L2

/-! ### what can be walked: a list, a tuple, a text -/
inductive Sk where
  | l (a : Addr)
  | t (a : Addr)
  | s (z : Str)
def Sk.val : Sk → V
  | .l a => .ref a
  | .t a => .ref a
  | .s z => .str z
def Sk.ap : Sk → Addr → Prop
  | .l a, b => a ≠ b
  | .t a, b => a ≠ b
  | .s _, _ => True
def Sk.At : Sk → Addr → Nat → Heap → Prop
  | .l a, it, i, h => h.IsListIter it a i
  | .t a, it, i, h => h.IsTupleIter it a i
  | .s z, it, i, h => ∃ t, h.IsStrIter it (strIterType z) z t i
def Sk.See (K : PySem.W.Frag) (H : Hp) : Sk → List V → Prop
  | .l a, xs => SqL K H a xs
  | .t a, xs => SqT K H a xs
  | .s z, xs => xs = (tx z).map fun c => V.str ⟨#[c]⟩
def Sk.beg (k : Sk) (o : Obj) : Prop := ∀ (h : Heap) (it : Addr), h.get? it = some o → k.At it 0 h
theorem Sk.obj {k : Sk} {it : Addr} {i : Nat} {h : Heap} (st : k.At it i h) : ∃ o, h.get? it = some o ∧ ∀ v, o.data ≠ .cell v := by
  cases k with
  | l a => obtain ⟨o, e, c, d⟩ := st; exact ⟨o, e, fun v z => by rw [d] at z; cases z⟩
  | t a => obtain ⟨o, e, c, d⟩ := st; exact ⟨o, e, fun v z => by rw [d] at z; cases z⟩
  | s z => obtain ⟨t, o, e, c, d⟩ := st; exact ⟨o, e, fun v z => by rw [d] at z; cases z⟩
theorem Sk.keep {k : Sk} {it : Addr} {i : Nat} {h h' : Heap} (st : k.At it i h) (f : ∀ o, h.get? it = some o → h'.get? it = some o) : k.At it i h' := by
  cases k with
  | l a => exact Heap.IsListIter.at st fun o e => f o e
  | t a => exact Heap.IsTupleIter.at st fun o e => f o e
  | s z => obtain ⟨t, o, e, r⟩ := st; exact ⟨t, o, f o e, r⟩
theorem Sk.inj {X : Cx} {pins : List (Addr × Obj)} {σ : St} {H : Hp} {s : Shared} (I : Inv X pins σ H s) {k : Sk} {xs ys : List V} (h1 : k.See X.K H xs) (h2 : k.See X.K H ys) : xs = ys := by
  cases k with
  | l a => exact I.list_inj h1 h2
  | t a => exact I.tuple_inj h1 h2
  | s z => exact Eq.trans h1 (Eq.symm h2)
/-- what its iterator draws from now on -/
structure Dr (P : Program) (w : World) (A : Around) (k : Sk) (it : Addr) (i : Nat) (h : Heap) (xs : List V) : Prop where
  ex : ∃ (fp : List Addr) (n : Nat) (Pt : Nat → Value → Prop) (St : Nat → Heap → Prop), Draws P w A it fp n Pt St ∧ n = xs.length ∧ it ∈ fp ∧ (∀ b ∈ fp, b = it ∨ ¬ k.ap b) ∧ St i h ∧ (∀ j h', St j h' → k.At it j h') ∧ ∀ j v, Pt j v → ∃ x, xs[j]? = some x ∧ RelV x v
theorem Sk.draws {X : Cx} {pins : List (Addr × Obj)} {σ : St} {H : Hp} {s : Shared} (I : Inv X pins σ H s) (hc : X.calm = true) {k : Sk} {it : Addr} {i : Nat} (st : k.At it i s.heap) (ap : k.ap it) {xs : List V} (see : k.See X.K H xs) :
    Dr X.prog X.w X.A.in1 k it i s.heap xs := by
  have hh : X.A.in1.handled = none := I.ok.hd hc
  cases k with
  | l a =>
    obtain ⟨its, rv, p, hz⟩ := I.list see
    refine ⟨[it, a], _, _, _, Draws.list hh it a ap its.toArray, by simp [rv.length], by simp, fun b hb => ?_, ⟨st, p.isList⟩, fun j h' q => q.1, fun j v q => ?_⟩
    · rcases List.mem_cons.mp hb with e | e
      · exact .inl e
      · have e := List.mem_singleton.mp e
        exact .inr fun n => n e.symm
    · have q : its[j]? = some v := by simpa using q
      obtain ⟨x, hx, r⟩ := vals_getV rv q
      exact ⟨x, hx, r⟩
  | t a =>
    obtain ⟨its, rv, p, hz⟩ := I.tuple see
    refine ⟨[it, a], _, _, _, Draws.tuple hh it a ap its.toArray, by simp [rv.length], by simp, fun b hb => ?_, ⟨st, p⟩, fun j h' q => q.1, fun j v q => ?_⟩
    · rcases List.mem_cons.mp hb with e | e
      · exact .inl e
      · have e := List.mem_singleton.mp e
        exact .inr fun n => n e.symm
    · have q : its[j]? = some v := by simpa using q
      obtain ⟨x, hx, r⟩ := vals_getV rv q
      exact ⟨x, hx, r⟩
  | s z =>
    obtain ⟨t, st⟩ := st
    have see : xs = (tx z).map fun c => V.str ⟨#[c]⟩ := see
    subst see
    refine ⟨[it], _, _, _, Draws.text hh it z t, by simp [tx], by simp, fun b hb => .inl (List.mem_singleton.mp hb), st, fun j h' q => ⟨t, q⟩, fun j v q => ?_⟩
    obtain ⟨c, u, hx, rfl⟩ := q
    refine ⟨.str ⟨#[c]⟩, ?_, u, rfl⟩
    rw [List.getElem?_map]
    have : (tx z)[j]? = some c := by simpa [tx] using hx
    rw [this]; rfl
where
  vals_getV {xs : List V} {us : List Value} (r : Vals xs us) {i : Nat} {u : Value} (e : us[i]? = some u) : ∃ x, xs[i]? = some x ∧ RelV x u := by
    induction r generalizing i with
    | nil => simp at e
    | cons h r ih =>
      cases i with
      | zero => simp at e; subst e; exact ⟨_, rfl, h⟩
      | succ i => exact ih (by simpa using e)

/-- each turn a new tuple of what See says -/
def ItM (See : Hp → List (List V) → Prop) : It :=
  ⟨fun i H => ∃ ys, See H ys ∧ i < ys.length, fun i H v H' => ∃ T, v = .ref T ∧ H T = none ∧ ∀ ys, See H ys → ∃ vs, ys[i]? = some vs ∧ H' = upd H T (.tup vs), fun i H => ∃ ys, See H ys ∧ ys.length = i⟩
structure WkT (P : Program) (w : World) (A : Around) (I : Addr) (fpT : List Addr) (tn : Nat → Heap → Prop) (i : Nat) (h : Heap) (ys : List (List V)) : Prop where
  ex : ∃ (fp wr : List Addr) (n : Nat) (Pt : Nat → Array Value → Prop) (St : Nat → Heap → Prop) (Mid : Nat → Addr → Heap → Prop), WalksT P w A I fp wr n Pt St Mid ∧ (∀ b ∈ wr, b ∈ fpT) ∧ n = ys.length ∧ St i h ∧ (∀ h', St (i + 1) h' → tn (i + 1) h') ∧
    ∀ vals, Pt i vals → ∃ vs, ys[i]? = some vs ∧ Vals vs vals.toList ∧ vs.length ≤ sizeLine
theorem turn_M {P : Program} {w : World} {K : PySem.W.Frag} {elts : List Expr} {kk : Nat} {tpos : Pos} {See : Hp → List (List V) → Prop} {I0 : Addr} {fpT : List Addr} {tn : Nat → Heap → Prop} (mem : I0 ∈ fpT)
    (obj : ∀ i h, tn i h → ∀ b ∈ fpT, ∃ o, h.get? b = some o ∧ ∀ v, o.data ≠ .cell v) (keep : ∀ i h h', tn i h → (∀ b ∈ fpT, ∀ o, h.get? b = some o → h'.get? b = some o) → tn i h')
    (inj : ∀ (X : Cx) pins σ H s, X.K = K → Inv X pins σ H s → ∀ ys zs, See H ys → See H zs → ys = zs)
    (walk : ∀ (X : Cx), X.prog = P → X.w = w → X.K = K → X.calm = true → ∀ (i : Nat) (pins : List (Addr × Obj)) (s : Shared) (σ : St) (H : Hp), Inv X pins σ H s → (∀ b ∈ fpT, FpOk X pins H b) → tn i s.heap → ∀ ys, See H ys → WkT X.prog X.w X.A I0 fpT tn i s.heap ys)
    (self : ∀ (A : Around) (i : Nat) (s : Shared) (Q : Value → Shared → Prop) (E : Value → Shared → Prop), tn i s.heap → Q (.ref I0) s → wpAny (model P w) A (pyIter (.ref I0)) Q E s) :
    Turn P w K (.Tuple elts kk tpos) (ItM See) fpT I0 tn where
  mem := mem
  obj := obj
  keep := keep
  item := by
    intro X hP hw hK hc i pins s σ H E I hf st hg
    subst hP hw hK
    obtain ⟨ys, hs, hlt⟩ := hg
    obtain ⟨fp, wr, n, Pt, St, Mid, W, hwr, hn, hst, hnx, hpt⟩ := (walk X rfl rfl rfl hc i pins s σ H I hf st ys hs).ex
    refine W.item i s _ _ (by omega) hst fun T vals h' tk hP hsz hT hM hk => ?_
    obtain ⟨vs, hvs, rv, hvl⟩ := hpt vals hP
    refine ⟨_, rfl, W.go elts kk tpos i T { s with heap := h', toks := tk } _ _ hM fun h'' hst2 hk2 => ?_⟩
    have hTw := W.apart i T h' hM
    have hT2 : IsTup h'' T vals.toList.toArray := by
      obtain ⟨o, ho, r⟩ := hT
      exact ⟨o, hk2 T o hTw ho, r⟩
    have hn0 : H T = none := I.hok.fresh hsz
    have new : ObjOk X.prog X.w (upd H T (.tup vs)) h'' T (.tup vs) := ⟨hvl, vals.toList, rv, hT2⟩
    have I1 : Inv X pins σ (upd H T (.tup vs)) { s with heap := h'', toks := tk } :=
      I.turnedNew (ch := fpT) (fun b o hb q => hk2 b o (fun z => hb (hwr b z)) (hk b o (fun z => hb (hwr b z)) q)) hf hsz new
    refine ⟨.ref T, _, I1, rfl, ⟨T, rfl, hn0, fun zs hz => ?_⟩, hnx _ hst2, fun b hb => ?_⟩
    · rw [inj X pins σ H s rfl I zs ys hz hs]; exact ⟨vs, hvs, rfl⟩
    · have hb' : b < s.heap.objs.size := by
        obtain ⟨o, e, _⟩ := obj i s.heap st b hb
        exact Heap.lt_size e
      rw [upd_ne (Nat.ne_of_lt (Nat.lt_of_lt_of_le hb' hsz))]
      exact (hf b hb).1
  done := by
    intro X hP hw hK hc i pins s σ H E I hf st hg
    subst hP hw hK
    obtain ⟨ys, hs, hlt⟩ := hg
    obtain ⟨fp, wr, n, Pt, St, Mid, W, hwr, hn, hst, hnx, hpt⟩ := (walk X rfl rfl rfl hc i pins s σ H I hf st ys hs).ex
    have e : i = n := by omega
    subst e
    exact W.done s _ _ hst fun h' tk hk => ⟨rfl, I.turnedL (t' := tk) (ch := fpT) (fun b o hb q => hk b o (fun z => hb (hwr b z)) q) hf⟩
  self := self
end U
end

section
namespace U
open PySem PySem.Spec PyProof.Rows L2

/-- see of a value at creation: what it begins as -/
theorem Sk.begins {X : Cx} {pins : List (Addr × Obj)} {σ : St} {H : Hp} {s : Shared} (I : Inv X pins σ H s) {k : Sk} {xs : List V} (see : k.See X.K H xs) {u : Value} (r : RelV k.val u) :
    ∃ (o : Obj) (Hh : Heap → Prop), Begins u o Hh ∧ Hh s.heap ∧ k.beg o ∧ ∀ b, s.heap.objs.size ≤ b → k.ap b := by
  cases k with
  | l a =>
    cases r
    obtain ⟨its, rv, p, hz⟩ := I.list see
    exact ⟨_, _, begins_list a its.toArray, p.isList, fun h it e => ⟨_, e, rfl, rfl⟩, fun b hb => Nat.ne_of_lt (Nat.lt_of_lt_of_le p.lt hb)⟩
  | t a =>
    cases r
    obtain ⟨its, rv, p, hz⟩ := I.tuple see
    obtain ⟨o1, ho1, r1⟩ := id p
    exact ⟨_, _, begins_tuple a its.toArray, p, fun h it e => ⟨_, e, rfl, rfl⟩, fun b hb => Nat.ne_of_lt (Nat.lt_of_lt_of_le (Heap.lt_size ho1) hb)⟩
  | s z =>
    obtain ⟨t, rfl⟩ := r
    exact ⟨_, _, begins_text z t, trivial, fun h it e => ⟨t, _, e, rfl, rfl⟩, fun b hb => trivial⟩

/-! ### enumerate -/
def enumV (i : Nat) : List V → List (List V)
  | x :: xs => [.int (i : Nat), x] :: enumV (i + 1) xs
  | [] => []
theorem enumV_len : ∀ (xs : List V) (i : Nat), (enumV i xs).length = xs.length
  | [], _ => rfl
  | x :: xs, i => by rw [enumV, List.length_cons, List.length_cons, enumV_len xs]
theorem enumV_get : ∀ (xs : List V) (i j : Nat) (x : V), xs[j]? = some x → (enumV i xs)[j]? = some [.int ((i + j : Nat) : Int), x]
  | [], _, _, _, e => by simp at e
  | y :: xs, i, 0, x, e => by simp at e; subst e; rfl
  | y :: xs, i, j + 1, x, e => by
    have h := enumV_get xs (i + 1) j x (by simpa using e)
    show (enumV (i + 1) xs)[j]? = _
    rw [h]
    have : i + 1 + j = i + (j + 1) := by omega
    rw [this]
def seeE (K : PySem.W.Frag) (k : Sk) (H : Hp) (ys : List (List V)) : Prop := ∃ xs, k.See K H xs ∧ ys = enumV 0 xs
theorem turn_E {P : Program} {w : World} {K : PySem.W.Frag} {elts : List Expr} {kk : Nat} {tpos : Pos} {k : Sk} {e it : Addr} (hne : e ≠ it) (ae : k.ap e) (ai : k.ap it) :
    Turn P w K (.Tuple elts kk tpos) (ItM (seeE K k)) [e, it] e (fun i h => (∃ old, IsEnum h e it (0 + (i : Int)) old) ∧ k.At it i h) := by
  refine turn_M (by simp) (fun i h st b hb => ?_) (fun i h h' st f => ?_) (fun X pins σ H s hK I ys zs hy hz => ?_) (fun X hP hw hK hc i pins s σ H I hf st ys hs => ?_) (fun A i s Q E st h => ?_)
  · obtain ⟨⟨old, he⟩, st⟩ := st
    have e' : b = e ∨ b = it := by simpa using hb
    rcases e' with z | z
    · rw [z]; exact ⟨_, he, fun v q => nomatch q⟩
    · rw [z]; exact Sk.obj st
  · obtain ⟨⟨old, he⟩, st⟩ := st
    exact ⟨⟨old, f e (by simp) _ he⟩, Sk.keep st fun o q => f it (by simp) o q⟩
  · subst hK
    obtain ⟨xs, h1, rfl⟩ := hy
    obtain ⟨xs', h2, rfl⟩ := hz
    rw [Sk.inj I h1 h2]
  · subst hP hw hK
    obtain ⟨⟨old, he⟩, st⟩ := st
    obtain ⟨xs, see, rfl⟩ := hs
    obtain ⟨fp, n, Pt, St, D, hn, hit, hfp, hst, hat, hpt⟩ := (Sk.draws I hc st ai see).ex
    have hef : e ∉ fp := fun q => by
      rcases hfp e q with z | z
      · exact hne z
      · exact z ae
    refine ⟨_, _, _, _, _, _, WalksT.enumFrom 0 D e hne hef hit, fun b hb => hb, by rw [enumV_len]; exact hn, ⟨⟨old, he⟩, hst⟩, fun h' q => ⟨q.1, hat _ _ q.2⟩, fun vals q => ?_⟩
    obtain ⟨t, x, hx, rfl⟩ := q
    obtain ⟨y, hy, ry⟩ := hpt i x hx
    refine ⟨_, enumV_get xs 0 i y hy, .cons ⟨t, by simp⟩ (.cons ry .nil), by show 2 ≤ sizeLine; decide⟩
  · obtain ⟨⟨old, he⟩, _⟩ := st
    exact wpAny_pyIter_enum he h
set_option maxHeartbeats 1000000 in
theorem meets_enumerate_newB1 {v : Value} {o : Obj} {H : Heap → Prop} (B : Begins v o H) :
    Meets (Builtin.«enumerate.__new__» ⟨[.type "enumerate", v], []⟩) (fun _ R s => H s.heap ∧
      R (.ok (.ret (.ref (s.heap.push o).objs.size))) { s with heap := (s.heap.push o).push { cls := .type "enumerate", data := .fields #[.none, .bool false, .ref s.heap.objs.size, rawInt 0, .none, .none] } }) :=
  .of_wp fun prog w A R s h => by
    obtain ⟨hp, g, d, tk, os⟩ := s; obtain ⟨h1, h⟩ := h
    have hsub := sub_enumerate
    have q1 : ∀ {A' : Around} {E : Value → Shared → Prop} {Q : Value → Shared → Prop}, Q (.ref hp.objs.size) ⟨hp.push o, g, d, tk, os⟩ → wpAny (model prog w) A' (pyIter v) Q E ⟨hp, g, d, tk, os⟩ :=
      fun q => B.iter prog w _ _ ⟨hp, g, d, tk, os⟩ _ h1 q
    wp_walk using q1
    refine wpAny_stack_any fun st => wpAny_pure ?_
    split
    · rename_i c _ _ _ _ _
      cases (c == Value.type "enumerate")
      · wp_walk using q1
        exact ⟨_, rfl, h⟩
      · wp_walk using q1
        exact ⟨_, rfl, h⟩
    · wp_walk using q1
      exact ⟨_, rfl, h⟩
section
variable {prog : Program} {w : World} {A : Around} {E : Value → Shared → Prop} {s : Shared}
theorem enum_begins1 {v : Value} {o : Obj} {H : Heap → Prop} {Q : Value → Shared → Prop} (B : Begins v o H) (h1 : H s.heap)
    (h : ∀ h', IsEnum h' (s.heap.objs.size + 1) s.heap.objs.size 0 .none → h'.get? s.heap.objs.size = some o → h'.objs.size = s.heap.objs.size + 2 →
      (∀ b o, s.heap.get? b = some o → h'.get? b = some o) → Q (.ref (s.heap.objs.size + 1)) { s with heap := h' }) :
    wpAny (model prog w) A (call (.type "enumerate") [v]) Q E s := by
  refine callType_new F.called_enumerate (by decide) (F.typeCall_enumerate_1 _) (F.newCall_enumerate_1 _) (fun obj => F.args_object_init_2 obj _) F.entry_enumerate_new
    (meets_enumerate_newB1 B) ⟨h1, ?_⟩
  have hz : (s.heap.push o).objs.size = s.heap.objs.size + 1 := Heap.size_push ..
  show _ ∧ _
  rw [hz]
  have he : IsEnum ((s.heap.push o).push { cls := .type "enumerate", data := .fields #[.none, .bool false, .ref s.heap.objs.size, rawInt 0, .none, .none] }) (s.heap.objs.size + 1) s.heap.objs.size 0 .none := by
    have := Heap.get?_push_size (s.heap.push o) (o := { cls := .type "enumerate", data := .fields #[.none, .bool false, .ref s.heap.objs.size, rawInt 0, .none, .none] }) rfl
    rw [hz] at this; exact this
  refine ⟨⟨_, he, rfl⟩, h _ he (Heap.get?_push_of_some _ (Heap.get?_push_size _ B.free)) (by rw [Heap.size_push, hz]) fun b o x => Heap.get?_push_of_some _ (Heap.get?_push_of_some _ x)⟩
end
def iEnumK (K : PySem.W.Frag) (ta : TA) : TI := fun σ H R => ta σ H fun vs H1 => ∃ (k : Sk) (xs : List V), vs = [k.val] ∧ k.See K H1 xs ∧ R (ItM (seeE K k)) H1
theorem pi_enumK {X : Cx} {e : Expr} {ta : TA} {p pos tpos : Pos} {elts : List Expr} {kk : Nat} (hg : Gl X "enumerate") (hm : X.mg "enumerate" = none) (ha : PA X [e] ta) (hs : starEach [e] X.env = [(false, eval e X.env)]) :
    PI X (.Tuple elts kk tpos) (.Call (.Name "enumerate" p) [e] [] pos) (iEnumK X.K ta) := by
  refine ⟨fun pins s σ H R I h => ?_⟩
  refine Call_ (ld_blt I hg hm boot_enumerate (PyProof.Rows.callWith_type1 (thn (ha.run pos pins s σ H _ I h) fun us s1 ⟨vs, H1, I1, r1, q1⟩ => ?_) hs rfl))
  obtain ⟨k, xs, ex, hq, q⟩ := q1
  subst ex
  cases r1 with
  | cons r rr =>
    cases rr
    obtain ⟨o, Hh, B, hh, hb, hap⟩ := Sk.begins I1 hq r
    refine enum_begins1 B hh fun h' he hit hsz hk => wpAny_pyIter_enum he ?_
    have I2 : Inv X pins σ H1 { s1 with heap := h' } := I1.kept (t' := s1.toks) hk
    refine ⟨s1.heap.objs.size + 1, [s1.heap.objs.size + 1, s1.heap.objs.size], _, _, H1, rfl, I2, turn_E (Nat.succ_ne_self _) (hap _ (Nat.le_succ _)) (hap _ (Nat.le_refl _)), ⟨⟨.none, by simpa using he⟩, hb _ _ hit⟩, fun b hb => ?_, q⟩
    have e' : b = s1.heap.objs.size + 1 ∨ b = s1.heap.objs.size := by simpa using hb
    have hle : s1.heap.objs.size ≤ b := by
      rcases e' with z | z
      · rw [z]; exact Nat.le_add_right _ _
      · rw [z]; exact Nat.le_refl _
    exact I1.fpOk hle (I1.hok.fresh hle)

/-! ### zip of two -/
def zipV : List V → List V → List (List V)
  | x :: xs, y :: ys => [x, y] :: zipV xs ys
  | _, _ => []
theorem zipV_len : ∀ (xs ys : List V), (zipV xs ys).length = min xs.length ys.length
  | [], _ => by simp [zipV]
  | _ :: _, [] => by simp [zipV]
  | x :: xs, y :: ys => by rw [zipV, List.length_cons, zipV_len xs ys, List.length_cons, List.length_cons]; omega
theorem zipV_get : ∀ (xs ys : List V) (j : Nat) (x y : V), xs[j]? = some x → ys[j]? = some y → (zipV xs ys)[j]? = some [x, y]
  | [], _, _, _, _, e, _ => by simp at e
  | _ :: _, [], _, _, _, _, e => by simp at e
  | a :: xs, b :: ys, 0, x, y, e, f => by simp at e f; subst e f; rfl
  | a :: xs, b :: ys, j + 1, x, y, e, f => zipV_get xs ys j x y (by simpa using e) (by simpa using f)
def seeZ (K : PySem.W.Frag) (k1 k2 : Sk) (H : Hp) (ys : List (List V)) : Prop := ∃ xs zs, k1.See K H xs ∧ k2.See K H zs ∧ ys = zipV xs zs
theorem turn_Z {P : Program} {w : World} {K : PySem.W.Frag} {elts : List Expr} {kk : Nat} {tpos : Pos} {k1 k2 : Sk} {z TI TO i1 i2 : Addr}
    (d1 : TI ≠ z) (d2 : TO ≠ z) (d3 : TI ≠ TO) (d4 : TI ≠ i1) (d5 : TI ≠ i2) (d6 : z ≠ i1) (d7 : z ≠ i2) (d8 : TO ≠ i1) (d9 : TO ≠ i2) (d10 : i1 ≠ i2)
    (a1 : ∀ b ∈ [z, TI, TO, i1, i2], k1.ap b) (a2 : ∀ b ∈ [z, TI, TO, i1, i2], k2.ap b) :
    Turn P w K (.Tuple elts kk tpos) (ItM (seeZ K k1 k2)) [z, TI, TO, i1, i2] z (fun i h => IsZip h z TI TO .none ∧ IsTupOf2 h TI (.ref i1) (.ref i2) ∧ (∃ x y, IsTupOf2 h TO x y) ∧ k1.At i1 i h ∧ k2.At i2 i h) := by
  refine turn_M (by simp) (fun i h st c hc => ?_) (fun i h h' st k => ?_) (fun X pins σ H s hK I ys zs hy hz => ?_) (fun X hP hw hK hc i pins s σ H I hf st ys hs => ?_) (fun A i s Q E st h => wpAny_pyIter_zip st.1 h)
  · obtain ⟨hz, hTI, ⟨x, y, hTO⟩, s1, s2⟩ := st
    have e' : c = z ∨ c = TI ∨ c = TO ∨ c = i1 ∨ c = i2 := by simpa using hc
    rcases e' with q | q | q | q | q
    · rw [q]; exact ⟨_, hz, fun v q => nomatch q⟩
    · rw [q]; exact ⟨_, hTI, fun v q => nomatch q⟩
    · rw [q]; exact ⟨_, hTO, fun v q => nomatch q⟩
    · rw [q]; exact Sk.obj s1
    · rw [q]; exact Sk.obj s2
  · obtain ⟨hz, hTI, ⟨x, y, hTO⟩, h1, h2⟩ := st
    exact ⟨k z (by simp) _ hz, k TI (by simp) _ hTI, ⟨x, y, k TO (by simp) _ hTO⟩, Sk.keep h1 fun o q => k i1 (by simp) o q, Sk.keep h2 fun o q => k i2 (by simp) o q⟩
  · subst hK
    obtain ⟨xs, ws, h1, h2, rfl⟩ := hy
    obtain ⟨xs', ws', h3, h4, rfl⟩ := hz
    rw [Sk.inj I h1 h3, Sk.inj I h2 h4]
  · subst hP hw hK
    obtain ⟨hz, hTI, ⟨x, y, hTO⟩, s1, s2⟩ := st
    obtain ⟨xs, ws, see1, see2, rfl⟩ := hs
    obtain ⟨fp1, n1, P1, St1, D1, hn1, hi1, hf1, hst1, hat1, hp1⟩ := (Sk.draws I hc s1 (a1 i1 (by simp)) see1).ex
    obtain ⟨fp2, n2, P2, St2, D2, hn2, hi2, hf2, hst2, hat2, hp2⟩ := (Sk.draws I hc s2 (a2 i2 (by simp)) see2).ex
    have nin1 : ∀ b, b ∈ [z, TI, TO, i1, i2] → b ≠ i1 → b ∉ fp1 := fun b hb hne q => by
      rcases hf1 b q with e | e
      · exact hne e
      · exact e (a1 b hb)
    have nin2 : ∀ b, b ∈ [z, TI, TO, i1, i2] → b ≠ i2 → b ∉ fp2 := fun b hb hne q => by
      rcases hf2 b q with e | e
      · exact hne e
      · exact e (a2 b hb)
    have S : ZipSep2 z TI TO i1 i2 fp1 fp2 := ⟨d1, d2, d3, d4, hi1, nin1 z (by simp) d6, nin1 TO (by simp) d8, d5, hi2, nin2 z (by simp) d7, nin2 TO (by simp) d9, nin2 i1 (by simp) d10, nin1 i2 (by simp) (Ne.symm d10)⟩
    refine ⟨_, _, _, _, _, _, WalksT.zipD2 S D1 D2, fun b hb => ?_, by rw [zipV_len, hn1, hn2], ⟨hz, hTI, ⟨x, y, hTO⟩, hst1, hst2⟩, fun h' q => ⟨q.1, q.2.1, q.2.2.1, hat1 _ _ q.2.2.2.1, hat2 _ _ q.2.2.2.2⟩, fun vals q => ?_⟩
    · have e' : b = z ∨ b = TO ∨ b = i1 ∨ b = i2 := by simpa using hb
      rcases e' with q | q | q | q <;> simp [q]
    · obtain ⟨x1, x2, h1, h2, rfl⟩ := q
      obtain ⟨y1, hy1, r1⟩ := hp1 i x1 h1
      obtain ⟨y2, hy2, r2⟩ := hp2 i x2 h2
      exact ⟨_, zipV_get xs ws i y1 y2 hy1 hy2, .cons r1 (.cons r2 .nil), by show 2 ≤ sizeLine; decide⟩
def iZipK (K : PySem.W.Frag) (ta : TA) : TI := fun σ H R => ta σ H fun vs H1 => ∃ (k1 k2 : Sk) (xs ys : List V), vs = [k1.val, k2.val] ∧ k1.See K H1 xs ∧ k2.See K H1 ys ∧ R (ItM (seeZ K k1 k2)) H1
theorem pi_zipK {X : Cx} {e e2 : Expr} {ta : TA} {p pos tpos : Pos} {elts : List Expr} {kk : Nat} (hg : Gl X "zip") (hm : X.mg "zip" = none) (ha : PA X [e, e2] ta)
    (hs : starEach [e, e2] X.env = (false, eval e X.env) :: starEach [e2] X.env) (hpl : (backTo pos (starEach [e2] X.env)).any (·.1) = false) :
    PI X (.Tuple elts kk tpos) (.Call (.Name "zip" p) [e, e2] [] pos) (iZipK X.K ta) := by
  refine ⟨fun pins s σ H R I h => ?_⟩
  refine Call_ (ld_blt I hg hm PyProof.Rows.boot_zip (PyProof.Rows.callWith_type1 (thn (ha.run pos pins s σ H _ I h) fun us s1 ⟨vs, H1, I1, r1, q1⟩ => ?_) hs hpl))
  obtain ⟨k1, k2, xs, ys, ex, hqx, hqy, q⟩ := q1
  subst ex
  cases r1 with
  | cons r rr =>
    cases rr with
    | cons r' rr =>
      cases rr
      obtain ⟨o1, Hh1, B1, hh1, hb1, hap1⟩ := Sk.begins I1 hqx r
      obtain ⟨o2, Hh2, B2, hh2, hb2, hap2⟩ := Sk.begins I1 hqy r'
      refine zip_begins2 B1 B2 hh1 hh2 fun h' hz hTI hTO h1 h2 hsz hk => wpAny_pyIter_zip hz ?_
      have I2 : Inv X pins σ H1 { s1 with heap := h' } := I1.kept (t' := s1.toks) hk
      have le5 : ∀ c, c ∈ [s1.heap.objs.size + 4, s1.heap.objs.size + 2, s1.heap.objs.size + 3, s1.heap.objs.size, s1.heap.objs.size + 1] → s1.heap.objs.size ≤ c := fun c hcm => by
        have e' : c = s1.heap.objs.size + 4 ∨ c = s1.heap.objs.size + 2 ∨ c = s1.heap.objs.size + 3 ∨ c = s1.heap.objs.size ∨ c = s1.heap.objs.size + 1 := by simpa using hcm
        rcases e' with z | z | z | z | z
        · rw [z]; exact Nat.le_add_right _ _
        · rw [z]; exact Nat.le_add_right _ _
        · rw [z]; exact Nat.le_add_right _ _
        · rw [z]; exact Nat.le_refl _
        · rw [z]; exact Nat.le_add_right _ _
      refine ⟨s1.heap.objs.size + 4, [s1.heap.objs.size + 4, s1.heap.objs.size + 2, s1.heap.objs.size + 3, s1.heap.objs.size, s1.heap.objs.size + 1], _, _, H1, rfl, I2, turn_Z ?_ ?_ ?_ ?_ ?_ ?_ ?_ ?_ ?_ ?_ (fun b hb => hap1 b (le5 b hb)) (fun b hb => hap2 b (le5 b hb)),
        ⟨hz, hTI, ⟨_, _, hTO⟩, hb1 _ _ h1, hb2 _ _ h2⟩, fun c hcm => I1.fpOk (le5 c hcm) (I1.hok.fresh (le5 c hcm)), q⟩
      all_goals (generalize s1.heap.objs.size = N; show (_ : Nat) ≠ _; omega)
end U
end

section
namespace U
open PySem PySem.Spec PyProof.Rows L2

/-! ### what is walked -/
def WalkD (K : PySem.W.Frag) (G : Hp) (ds : List D) (J : It) : Prop := ∀ G1 H1, Same G G1 → Same G1 H1 →
  (∀ i, i < ds.length → J.go i H1) ∧ J.stop ds.length H1 ∧ ∀ i x H2 d, J.yld i H1 x H2 → ds[i]? = some d → ∃ s G2, s.toR = .val d ∧ New K H1 G1 s x H2 G2
def rI (K : PySem.W.Frag) : RT (List D) It := ⟨fun _ _ _ G' ds J => WalkD K G' ds J, fun _ h => h⟩
theorem WalkD.later {K : PySem.W.Frag} {G G' : Hp} {ds : List D} {J : It} (h : WalkD K G ds J) (s : Same G G') : WalkD K G' ds J := fun G1 H1 s1 s2 => h G1 H1 (s.trans s1) s2

theorem itemsD_see {K : PySem.W.Frag} {G : Hp} {v : V} {d : D} {ds : List D} (h : Rp K G v d) (e : itemsD d = some ds) :
    ∃ (k : Sk) (xs : List V), v = k.val ∧ Rps K G xs ds ∧ ∀ G1 H1, Same G G1 → Same G1 H1 → k.See K H1 xs := by
  cases h <;> simp only [itemsD, reduceCtorEq, Option.some.injEq] at e
  case str x hx =>
    subst e
    refine ⟨.s x, _, rfl, ?_, fun G1 H1 _ _ => rfl⟩
    have : ∀ l : List Nat, sOk l = true → Rps K G (l.map fun c => V.str ⟨#[c]⟩) (l.map fun c => S [c]) := by
      intro l
      induction l with
      | nil => intro _; exact .nil
      | cons c l ih =>
        intro h
        simp only [sOk, List.all_cons, Bool.and_eq_true] at h
        exact .cons (.str _ (by simpa [sOk, tx] using h.1)) (ih h.2)
    exact this _ hx
  case lst =>
    subst e
    rename_i h r
    exact ⟨.l _, _, rfl, r, fun G1 H1 s1 s2 => .inl (.inl (s2 _ _ (s1 _ _ h)))⟩
  case tup =>
    subst e
    rename_i h r
    exact ⟨.t _, _, rfl, r, fun G1 H1 s1 s2 => sqt_same (s1.trans s2) h⟩

section
variable {X : Cx} {W : XW} {F : Fns} {e ea eb ec : Expr} {a b c : Tx} {es : List Expr} {pos p : Pos}
def iAny (K : PySem.W.Frag) (te : TE) : TI := fun σ H R => te σ H fun x H1 => (∃ a xs, x = .ref a ∧ SqL K H1 a xs ∧ R (Itl K a) H1) ∨ (∃ a xs, x = .ref a ∧ SqT K H1 a xs ∧ R (Itt K a) H1) ∨ ∃ z, x = .str z ∧ R (Its z) H1
theorem pi_any {tg l : Expr} {tl : TE} (hl : PE X l tl) : PI X tg l (iAny X.K tl) := by
  refine ⟨fun pins s σ H R I h => ?_⟩
  refine thn (hl.run pins s σ H _ I h) fun v s1 ⟨x, H1, I1, r1, q1⟩ => ?_
  rcases q1 with ⟨a, xs, e, hq, q⟩ | ⟨a, xs, e, hq, q⟩ | ⟨z, ex, q⟩
  · subst e
    cases r1
    obtain ⟨its, rv, p, hz⟩ := I1.list hq
    refine wpAny_pyIter_list p.isList ?_
    refine ⟨s1.heap.objs.size, [s1.heap.objs.size], _, _, H1, rfl, I1.kept (t' := s1.toks) fun b o e => Heap.get?_push_of_some _ e, turn_list a _, ⟨_, Heap.get?_push_size _ rfl, rfl, rfl⟩, fun b hb => ?_, q⟩
    have e : b = s1.heap.objs.size := by simpa using hb
    subst e
    exact I1.fpOk (Nat.le_refl _) (I1.hok.fresh (Nat.le_refl _))
  · subst e
    cases r1
    obtain ⟨its, rv, p, hz⟩ := I1.tuple hq
    refine wpAny_pyIter_tuple (show s1.heap.IsTuple a its.toArray from p) ?_
    refine ⟨s1.heap.objs.size, [s1.heap.objs.size], _, _, H1, rfl, I1.kept (t' := s1.toks) fun b o e => Heap.get?_push_of_some _ e, turn_tuple a _, ⟨_, Heap.get?_push_size _ rfl, rfl, rfl⟩, fun b hb => ?_, q⟩
    have e : b = s1.heap.objs.size := by simpa using hb
    subst e
    exact I1.fpOk (Nat.le_refl _) (I1.hok.fresh (Nat.le_refl _))
  · subst ex
    obtain ⟨t, rfl⟩ := r1
    cases ha : z.cps.all (· < 128)
    · exact wpAny_pyIter_wide ha (pi_one (tk := s1.toks) I1 _ (turn_str _ z t "str_iterator" (.inr rfl)) ⟨_, Heap.get?_push_size _ rfl, rfl, rfl⟩ q)
    · exact wpAny_pyIter_ascii ha (pi_one (tk := s1.toks) I1 _ (turn_str _ z t "str_ascii_iterator" (.inl rfl)) ⟨_, Heap.get?_push_size _ rfl, rfl, rfl⟩ q)

/-- what x stands for, walked for the target tg -/
structure UI' (X : Cx) (W : XW) (F : Fns) (x : Tx) (tg e : Expr) : Prop where
  I : PI X tg e (uG X.K W (rI X.K) (denI F x))
theorem ui_any {tg : Expr} (ha : U3 X W F a ea) : UI' X W F (.cons a .nil) tg ea := by
  refine ⟨pi_imp (pi_any ha.V) fun σ H Q q => ?_⟩
  obtain ⟨B, env, G, rl, h⟩ := q
  simp only [denI] at h
  refine step (ρ := rV X.K) (f := fun env => frz (denE F a env)) rl h fun s v H1 G1 _ r1 k1 o1 h1 => ?_
  cases e1 : itemsD s.1 with
  | none => rw [e1] at h1; exact h1.elim
  | some ds =>
    rw [e1] at h1
    have o1 : Rp X.K G1 v s.1 := o1
    obtain ⟨k, xs, ev, rx, see⟩ := itemsD_see o1 e1
    have s0 := see G1 H1 (Same.refl _) r1.sub
    have hl := rx.length
    cases k with
    | l a =>
      refine .inl ⟨a, xs, ev, s0, h1 _ _ _ r1 Keep.refl fun G2 H2 s1 s2 => ⟨fun i hi => ?_, ?_, fun i x H3 d y hd => ?_⟩⟩
      · have hi : i < xs.length := by rw [hl]; exact hi
        exact ⟨xs, xs[i], see _ _ s1 s2, by simp [hi]⟩
      · exact ⟨xs, see _ _ s1 s2, Nat.le_of_eq hl⟩
      · obtain ⟨y1, y2⟩ := y
        subst y1
        obtain ⟨w, hw, rw'⟩ := rx.get hd
        have := y2 xs (see _ _ s1 s2)
        rw [hw] at this; cases this
        exact ⟨.val d, G2, rfl, rfl, rfl, rw'.same s1⟩
    | t a =>
      refine .inr (.inl ⟨a, xs, ev, s0, h1 _ _ _ r1 Keep.refl fun G2 H2 s1 s2 => ⟨fun i hi => ?_, ?_, fun i x H3 d y hd => ?_⟩⟩)
      · have hi : i < xs.length := by rw [hl]; exact hi
        exact ⟨xs, xs[i], see _ _ s1 s2, by simp [hi]⟩
      · exact ⟨xs, see _ _ s1 s2, Nat.le_of_eq hl⟩
      · obtain ⟨y1, y2⟩ := y
        subst y1
        obtain ⟨w, hw, rw'⟩ := rx.get hd
        have := y2 xs (see _ _ s1 s2)
        rw [hw] at this; cases this
        exact ⟨.val d, G2, rfl, rfl, rfl, rw'.same s1⟩
    | s z =>
      have ex : xs = (tx z).map fun c => V.str ⟨#[c]⟩ := s0
      have hz : z.cps.size = ds.length := by rw [← hl, ex]; simp [tx]
      refine .inr (.inr ⟨z, ev, h1 _ _ _ r1 Keep.refl fun G2 H2 s1 s2 => ⟨fun i hi => ?_, ?_, fun i x H3 d y hd => ?_⟩⟩)
      · show i < z.cps.size
        rw [hz]; exact hi
      · exact Nat.le_of_eq hz
      · obtain ⟨y1, c, hc, y2⟩ := y
        subst y1
        obtain ⟨w, hw, rw'⟩ := rx.get hd
        have : (tx z)[i]? = some c := by simpa [tx] using hc
        rw [ex, List.getElem?_map, this] at hw
        cases hw
        rw [y2]
        exact ⟨.val d, G2, rfl, rfl, rfl, rw'.same s1⟩
theorem rangeT_len : ∀ (n : Nat) (lo : Int), (rangeT lo n).length = n
  | 0, _ => rfl
  | n + 1, lo => by rw [rangeT, List.length_cons, rangeT_len n]
theorem rangeT_get : ∀ (n : Nat) (lo : Int) (i : Nat), i < n → (rangeT lo n)[i]? = some (.int (lo + i))
  | 0, _, _, h => absurd h (Nat.not_lt_zero _)
  | n + 1, lo, 0, _ => by simp [rangeT]
  | n + 1, lo, i + 1, h => by
    have := rangeT_get n (lo + 1) i (by omega)
    show (rangeT (lo + 1) n)[i]? = _
    rw [this]
    have e : lo + 1 + (i : Int) = lo + ((i + 1 : Nat) : Int) := by omega
    rw [e]
theorem walk_rangeD {K : PySem.W.Frag} {G : Hp} {lo : Int} {n : Nat} : WalkD K G (rangeT lo n) (Itr lo n) := fun G1 H1 s1 s2 => by
  rw [rangeT_len]
  refine ⟨fun i hi => hi, Nat.le_refl _, fun i x H2 d y hd => ?_⟩
  obtain ⟨y1, y2⟩ := y
  have hi : i < n := by
    have := (List.getElem?_eq_some_iff.mp hd).1
    rwa [rangeT_len] at this
  rw [rangeT_get n lo i hi] at hd
  cases hd
  subst y1
  rw [y2]
  exact ⟨.val _, G1, rfl, rfl, rfl, .int _⟩
theorem denL_len (F : Fns) (y : Tx) (env : Ev) (s : List D × Ev) (h : denL F (.cons y .nil) env = .ok s) : s.1.length = 1 := by
  simp only [denL] at h
  cases e : frz (denE F y env) with
  | ok p => rw [e] at h; simp only [Out.bind] at h; cases h; rfl
  | exn c q => rw [e] at h; cases h
  | stuck => rw [e] at h; cases h
theorem ui_range1 {tg : Expr} (hg : Gl X "range") (hm : X.mg "range" = none) (ha : UA X W F (.cons a .nil) [ea]) : UI' X W F (.itR (.cons a .nil)) tg (.Call (.Name "range" p) [ea] [] pos) := by
  have ns := ha.ns
  simp only [List.all_cons, Bool.and_eq_true] at ns
  refine ⟨pi_imp (pi_range1 hg hm ha.V (star_of ns.1)) fun σ H Q q => ?_⟩
  obtain ⟨B, env, G, rl, h⟩ := q
  rw [denI] at h
  refine step (ρ := rL X.K) (f := denL F (.cons a .nil)) rl h fun s vs H1 G1 e0 r1 k1 o1 h1 => ?_
  have o1 : Rps X.K G1 vs s.1 := o1
  have l1 := denL_len F a env s e0
  split at h1
  · rename_i j e1
    split at h1
    · rename_i hj
      simp only [Bool.and_eq_true, decide_eq_true_eq] at hj
      rw [e1] at o1
      cases o1 with
      | cons r rr =>
        cases rr
        cases r
        exact ⟨j, rfl, hj.1, hj.2, h1 _ _ _ r1 Keep.refl walk_rangeD⟩
    · exact h1.elim
  · rename_i i j e1
    rw [e1] at l1
    cases l1
  · exact h1.elim
theorem denL_len2 (F : Fns) (y z : Tx) (env : Ev) (s : List D × Ev) (h : denL F (.cons y (.cons z .nil)) env = .ok s) : s.1.length = 2 := by
  simp only [denL] at h
  cases e : frz (denE F y env) with
  | ok p =>
    rw [e] at h; simp only [Out.bind] at h
    cases e2 : frz (denE F z p.2) with
    | ok q => rw [e2] at h; simp only [Out.bind] at h; cases h; rfl
    | exn c q => rw [e2] at h; cases h
    | stuck => rw [e2] at h; cases h
  | exn c q => rw [e] at h; cases h
  | stuck => rw [e] at h; cases h
theorem ui_range2 {tg : Expr} (hg : Gl X "range") (hm : X.mg "range" = none) (ha : UA X W F (.cons a (.cons b .nil)) [ea, eb]) : UI' X W F (.itR (.cons a (.cons b .nil))) tg (.Call (.Name "range" p) [ea, eb] [] pos) := by
  have ns := ha.ns
  simp only [List.all_cons, Bool.and_eq_true] at ns
  refine ⟨pi_imp (pi_range2 hg hm ha.V (by rw [star_of ns.1, star_of ns.2.1]; rfl) (star_of ns.2.1)) fun σ H Q q => ?_⟩
  obtain ⟨B, env, G, rl, h⟩ := q
  rw [denI] at h
  refine step (ρ := rL X.K) (f := denL F (.cons a (.cons b .nil))) rl h fun s vs H1 G1 e0 r1 k1 o1 h1 => ?_
  have o1 : Rps X.K G1 vs s.1 := o1
  have l1 := denL_len2 F a b env s e0
  split at h1
  · rename_i j e1
    rw [e1] at l1
    cases l1
  · rename_i i j e1
    split at h1
    · rename_i hj
      simp only [Bool.and_eq_true, decide_eq_true_eq] at hj
      rw [e1] at o1
      cases o1 with
      | cons r rr =>
        cases rr with
        | cons r' rr =>
          cases rr
          cases r
          cases r'
          exact ⟨i, j, rfl, ⟨hj.1.1.1, hj.1.1.2, hj.1.2, hj.2⟩, h1 _ _ _ r1 Keep.refl walk_rangeD⟩
    · exact h1.elim
  · exact h1.elim
/-! ### zip, enumerate -/
theorem enumT_len : ∀ (ds : List D) (i : Nat), (enumT i ds).length = ds.length
  | [], _ => rfl
  | x :: xs, i => by rw [enumT, List.length_cons, List.length_cons, enumT_len xs]
theorem enumT_get : ∀ (xs : List D) (i j : Nat) (d : D), (enumT i xs)[j]? = some d → ∃ x, xs[j]? = some x ∧ d = .tuple [.int ((i + j : Nat) : Int), x]
  | [], _, _, _, e => by simp [enumT] at e
  | y :: xs, i, 0, d, e => by
    simp [enumT] at e
    exact ⟨y, rfl, by rw [← e]; rfl⟩
  | y :: xs, i, j + 1, d, e => by
    obtain ⟨x, h1, h2⟩ := enumT_get xs (i + 1) j d (by simpa [enumT] using e)
    refine ⟨x, by simpa using h1, ?_⟩
    have : i + 1 + j = i + (j + 1) := by omega
    rw [h2, this]
theorem ui_enum {elts : List Expr} {kk : Nat} {tpos : Pos} (hg : Gl X "enumerate") (hm : X.mg "enumerate" = none) (ha : U3 X W F a ea) (n : nst ea = true) : UI' X W F (.itE a) (.Tuple elts kk tpos) (.Call (.Name "enumerate" p) [ea] [] pos) := by
  refine ⟨pi_imp (pi_enumK hg hm (pa_cons ha.V pa_nil (star_of n)) (star_of n)) fun σ H Q q => ?_⟩
  obtain ⟨B, env, G, rl, h⟩ := q
  simp only [denI] at h
  refine step (ρ := rV X.K) (f := fun env => frz (denE F a env)) rl h fun s v H1 G1 _ r1 k1 o1 h1 => ?_
  cases e1 : itemsD s.1 with
  | none => rw [e1] at h1; exact h1.elim
  | some ds =>
    rw [e1] at h1
    have o1 : Rp X.K G1 v s.1 := o1
    obtain ⟨k, xs, ev, rx, see⟩ := itemsD_see o1 e1
    have s0 := see G1 H1 (Same.refl _) r1.sub
    have hl := rx.length
    refine ⟨k, xs, by rw [ev], s0, h1 _ _ _ r1 Keep.refl fun G2 H2 s1 s2 => ⟨fun i hi => ?_, ?_, fun i x H3 d y hd => ?_⟩⟩
    · rw [enumT_len] at hi
      exact ⟨_, ⟨xs, see _ _ s1 s2, rfl⟩, by rw [enumV_len, hl]; exact hi⟩
    · exact ⟨_, ⟨xs, see _ _ s1 s2, rfl⟩, by rw [enumV_len, enumT_len, hl]⟩
    · obtain ⟨T, rfl, hT, y⟩ := y
      obtain ⟨vs, h3, rfl⟩ := y _ ⟨xs, see _ _ s1 s2, rfl⟩
      obtain ⟨z, h4, rfl⟩ := enumT_get ds 0 i d hd
      obtain ⟨w, hw, rw'⟩ := rx.get h4
      rw [enumV_get xs 0 i w hw] at h3
      cases h3
      exact ⟨.nt _, _, rfl, T, _, rfl, hT, rfl, rfl, .cons (.int _) (.cons (rw'.same s1) .nil)⟩
theorem zipT_len : ∀ (xs ys : List D), (zipT xs ys).length = min xs.length ys.length
  | [], _ => by simp [zipT]
  | _ :: _, [] => by simp [zipT]
  | x :: xs, y :: ys => by rw [zipT, List.length_cons, zipT_len xs ys, List.length_cons, List.length_cons]; omega
theorem zipT_get : ∀ (xs ys : List D) (j : Nat) (d : D), (zipT xs ys)[j]? = some d → ∃ x y, xs[j]? = some x ∧ ys[j]? = some y ∧ d = .tuple [x, y]
  | [], _, _, _, e => by simp [zipT] at e
  | _ :: _, [], _, _, e => by simp [zipT] at e
  | a :: xs, b :: ys, 0, d, e => by simp [zipT] at e; exact ⟨a, b, rfl, rfl, e.symm⟩
  | a :: xs, b :: ys, j + 1, d, e => by
    obtain ⟨x, y, h1, h2, h3⟩ := zipT_get xs ys j d (by simpa [zipT] using e)
    exact ⟨x, y, by simpa using h1, by simpa using h2, h3⟩
theorem ui_zip {elts : List Expr} {kk : Nat} {tpos : Pos} (hg : Gl X "zip") (hm : X.mg "zip" = none) (ha : U3 X W F a ea) (hb : U3 X W F b eb) (n : nst ea = true) (n2 : nst eb = true) : UI' X W F (.itZ a b) (.Tuple elts kk tpos) (.Call (.Name "zip" p) [ea, eb] [] pos) := by
  refine ⟨pi_imp (pi_zipK hg hm (pa_cons ha.V (pa_cons hb.V pa_nil (star_of n2)) (star_of n)) (star_of n) (plain_of (by simp [n2]))) fun σ H Q q => ?_⟩
  obtain ⟨B, env, G, rl, h⟩ := q
  simp only [denI] at h
  refine step (ρ := rV X.K) (f := fun env => frz (denE F a env)) rl h fun s v H1 G1 _ r1 k1 o1 h1 => ?_
  refine step (ρ := rV X.K) (f := fun env => frz (denE F b env)) r1 h1 fun t v' H2 G2 _ r2 k2 o2 h2 => ?_
  have o1 : Rp X.K G1 v s.1 := o1
  have o2 : Rp X.K G2 v' t.1 := o2
  cases e1 : itemsD s.1 with
  | none => rw [e1] at h2; exact h2.elim
  | some ds =>
    cases e2 : itemsD t.1 with
    | none => rw [e1, e2] at h2; exact h2.elim
    | some es =>
      rw [e1, e2] at h2
      obtain ⟨k, xs, ev, rx, see⟩ := itemsD_see (o1.same k2.sub) e1
      obtain ⟨k', xs', ev', rx', see'⟩ := itemsD_see o2 e2
      have hl := rx.length
      have hl' := rx'.length
      refine ⟨k, k', xs, xs', by rw [ev, ev'], see G2 H2 (Same.refl _) r2.sub, see' G2 H2 (Same.refl _) r2.sub, h2 _ _ _ r2 Keep.refl fun G3 H3 s1 s2 => ⟨fun i hi => ?_, ?_, fun i x H4 d y hd => ?_⟩⟩
      · rw [zipT_len] at hi
        exact ⟨_, ⟨xs, xs', see _ _ s1 s2, see' _ _ s1 s2, rfl⟩, by rw [zipV_len, hl, hl']; exact hi⟩
      · exact ⟨_, ⟨xs, xs', see _ _ s1 s2, see' _ _ s1 s2, rfl⟩, by rw [zipV_len, zipT_len, hl, hl']⟩
      · obtain ⟨T, rfl, hT, y⟩ := y
        obtain ⟨vs, h3, rfl⟩ := y _ ⟨xs, xs', see _ _ s1 s2, see' _ _ s1 s2, rfl⟩
        obtain ⟨z, z', h4, h5, rfl⟩ := zipT_get ds es i d hd
        obtain ⟨w, hw, rw1⟩ := rx.get h4
        obtain ⟨w', hw', rw2⟩ := rx'.get h5
        rw [zipV_get xs xs' i w w' hw hw'] at h3
        cases h3
        exact ⟨.nt _, _, rfl, T, _, rfl, hT, rfl, rfl, .cons (rw1.same s1) (.cons (rw2.same s1) .nil)⟩
end
end U
end

section
namespace U
open PySem PySem.Spec PyProof.Rows L2

/-! ### slots forgotten and put back -/
theorem wipeE_len (env : Ev) : ∀ vs : List Nat, (wipeE env vs).length = env.length
  | [] => rfl
  | v :: vs => by rw [wipeE, List.length_set, wipeE_len env vs]
theorem backE_len (e0 env : Ev) : ∀ vs : List Nat, (backE e0 env vs).length = env.length
  | [] => rfl
  | v :: vs => by rw [backE, List.length_set, backE_len e0 env vs]
theorem wipeE_in {env : Ev} {i : Nat} : ∀ {vs : List Nat}, i ∈ vs → ∀ x, (wipeE env vs)[i]? = some x → x = .no
  | v :: vs, h, x, e => by
    rw [wipeE] at e
    by_cases hv : v = i
    · subst hv
      rw [List.getElem?_set] at e
      simp only [if_true] at e
      split at e
      · cases e; rfl
      · cases e
    · rw [List.getElem?_set_ne hv] at e
      refine wipeE_in ?_ x e
      rcases List.mem_cons.mp h with z | z
      · exact absurd z.symm hv
      · exact z
theorem wipeE_out {env : Ev} {i : Nat} : ∀ {vs : List Nat}, i ∉ vs → (wipeE env vs)[i]? = env[i]?
  | [], _ => rfl
  | v :: vs, h => by
    have h1 : v ≠ i := fun e => h (by rw [e]; exact List.mem_cons_self)
    have h2 : i ∉ vs := fun m => h (List.mem_cons_of_mem _ m)
    rw [wipeE, List.getElem?_set_ne h1]
    exact wipeE_out h2
theorem backE_in {e0 env : Ev} {i : Nat} : ∀ {vs : List Nat}, i ∈ vs → i < env.length → (backE e0 env vs)[i]? = some (e0.getD i .no)
  | v :: vs, h, hi => by
    rw [backE]
    by_cases hv : v = i
    · subst hv
      rw [List.getElem?_set_self (by rw [backE_len]; exact hi)]
    · rw [List.getElem?_set_ne hv]
      refine backE_in ?_ hi
      rcases List.mem_cons.mp h with z | z
      · exact absurd z.symm hv
      · exact z
theorem backE_out {e0 env : Ev} {i : Nat} : ∀ {vs : List Nat}, i ∉ vs → (backE e0 env vs)[i]? = env[i]?
  | [], _ => rfl
  | v :: vs, h => by
    have h1 : v ≠ i := fun e => h (by rw [e]; exact List.mem_cons_self)
    have h2 : i ∉ vs := fun m => h (List.mem_cons_of_mem _ m)
    rw [backE, List.getElem?_set_ne h1]
    exact backE_out h2
theorem wipe_out' {σ : St} {i : Nat} : ∀ {vs : List Nat}, i ∉ vs → (wipe σ vs)[i]? = σ[i]?
  | [], _ => rfl
  | v :: vs, h => by
    have h1 : v ≠ i := fun e => h (by rw [e]; exact List.mem_cons_self)
    have h2 : i ∉ vs := fun m => h (List.mem_cons_of_mem _ m)
    rw [wipe, List.getElem?_set_ne h1]
    exact wipe_out' h2
theorem getD_some {e0 : Ev} {i : Nat} {x : Slot} (h : e0.getD i .no = x) (hx : x ≠ .no) : e0[i]? = some x := by
  rw [List.getD_eq_getElem?_getD] at h
  cases q : e0[i]? with
  | none => rw [q] at h; exact absurd h.symm hx
  | some y => rw [q] at h; rw [← h]; rfl
theorem wipe_in {σ : St} {i : Nat} : ∀ {vs : List Nat}, i ∈ vs → (wipe σ vs)[i]? = (σ[i]?).map fun _ => none
  | v :: vs, h => by
    rw [wipe]
    by_cases hv : v = i
    · subst hv
      rw [List.getElem?_set]
      simp only [if_true, wipe_length]
      split
      · rename_i hl
        rw [List.getElem?_eq_getElem hl]; rfl
      · rename_i hl
        rw [List.getElem?_eq_none (by omega)]; rfl
    · rw [List.getElem?_set_ne hv]
      refine wipe_in ?_
      rcases List.mem_cons.mp h with z | z
      · exact absurd z.symm hv
      · exact z
theorem wipe_set {σ : St} {i : Nat} {y : Option V} {vs : List Nat} (h : i ∈ vs) : wipe (σ.set i y) vs = wipe σ vs := by
  refine List.ext_getElem? fun j => ?_
  by_cases hj : j ∈ vs
  · rw [wipe_in hj, wipe_in hj]
    by_cases e : i = j
    · subst e
      rw [List.getElem?_set]
      simp only [if_true]
      split
      · rename_i hl
        rw [List.getElem?_eq_getElem hl]; rfl
      · rename_i hl
        rw [List.getElem?_eq_none (by omega)]
    · rw [List.getElem?_set_ne e]
  · have e : i ≠ j := fun z => hj (z ▸ h)
    rw [wipe_out' hj, wipe_out' hj, List.getElem?_set_ne e]
theorem isIo_no {env : Ev} {i : Nat} {o : Ow} (h : isIo env[i]? = false) : env[i]? ≠ some (.own true o) := fun e => by
  rw [e] at h; cases h

section
variable {K : PySem.W.Frag} {B : Bs} {env env0 env' : Ev} {σ σ' : St} {H G H0 G0 : Hp} {vs : List Nat}
theorem wipeE_get {i : Nat} {x : Slot} (e : (wipeE env vs)[i]? = some x) (h : x ≠ .no) : i ∉ vs ∧ env[i]? = some x := by
  by_cases hv : i ∈ vs
  · exact absurd (wipeE_in hv x e) h
  · rw [wipeE_out hv] at e; exact ⟨hv, e⟩
theorem Rel.wipe (r : Rel K B env σ H G) (hio : ∀ i ∈ vs, isIo env[i]? = false) : Rel K B (wipeE env vs) (L2.wipe σ vs) H G where
  len := by rw [wipe_length, wipeE_len]; exact r.len
  val := fun i d e => by
    obtain ⟨h1, h2⟩ := wipeE_get e (by simp)
    rw [wipe_out' h1]; exact r.val i d h2
  own := fun i io o e => by
    obtain ⟨h1, h2⟩ := wipeE_get e (by simp)
    rw [wipe_out' h1]; exact r.own i io o h2
  dis := fun i j io jo o p a e1 e2 s1 s2 => by
    obtain ⟨h1, h2⟩ := wipeE_get e1 (by simp)
    obtain ⟨h3, h4⟩ := wipeE_get e2 (by simp)
    rw [wipe_out' h1] at s1
    rw [wipe_out' h3] at s2
    exact r.dis i j io jo o p a h2 h4 s1 s2
  sub := r.sub
  g0 := r.g0
  kept := r.kept
  m := fun a e => by
    obtain ⟨h1, o, h2⟩ := r.m a e
    have h3 : 0 ∉ vs := fun z => isIo_no (hio 0 z) h2
    exact ⟨by rw [wipe_out' h3]; exact h1, o, by rw [wipeE_out h3]; exact h2⟩
theorem Rel.back (r0 : Rel K B env0 σ H0 G0) (hio : ∀ i ∈ vs, isIo env0[i]? = false) (k : Keep (wipeE env0 vs) (L2.wipe σ vs) H0 G0 (wipeE env' vs) H G) (r : Rel K B (wipeE env' vs) (L2.wipe σ vs) H G) :
    Rel K B (backE env0 env' vs) σ H G ∧ Keep env0 σ H0 G0 (backE env0 env' vs) H G := by
  have hl : env'.length = env0.length := by
    have := r.len
    rw [wipe_length, wipeE_len, r0.len] at this
    exact this.symm
  have look : ∀ (i : Nat) (x : Slot), x ≠ .no → (backE env0 env' vs)[i]? = some x → (i ∈ vs ∧ env0[i]? = some x) ∨ (i ∉ vs ∧ (wipeE env' vs)[i]? = some x) := fun i x hx e => by
    by_cases hv : i ∈ vs
    · have hi : i < env'.length := by
        have := (List.getElem?_eq_some_iff.mp e).1
        rwa [backE_len] at this
      rw [backE_in hv hi] at e
      exact .inl ⟨hv, getD_some (Option.some.inj e) hx⟩
    · rw [backE_out hv] at e
      exact .inr ⟨hv, by rw [wipeE_out hv]; exact e⟩
  have old : ∀ (i : Nat) (io : Bool) (o : Ow), (wipeE env' vs)[i]? = some (.own io o) → ∃ o', i ∉ vs ∧ env0[i]? = some (.own io o') := fun i io o e => by
    obtain ⟨o', e'⟩ := k.ownle i io o e
    obtain ⟨h1, h2⟩ := wipeE_get e' (by simp)
    exact ⟨o', h1, h2⟩
  have nown : ∀ (i : Nat) (io : Bool) (o : Ow) (a : Addr), i ∈ vs → env0[i]? = some (.own io o) → σ[i]? = some (some (.ref a)) → ¬ Owned (wipeE env0 vs) (L2.wipe σ vs) a := fun i io o a hi e s => by
    rintro ⟨j, jo, p, e2, s2⟩
    obtain ⟨h1, h2⟩ := wipeE_get e2 (by simp)
    rw [wipe_out' h1] at s2
    exact h1 (r0.dis i j io jo o p a e h2 s s2 ▸ hi)
  refine ⟨⟨by rw [backE_len, hl]; exact r0.len, fun i d e => ?_, fun i io o e => ?_, fun i j io jo o p a e1 e2 s1 s2 => ?_, r.sub, r.g0, r.kept, fun a e => ?_⟩, ⟨fun a o h n => ?_, k.dom, k.sub, fun i io o e => ?_, fun i d e => ?_⟩⟩
  · rcases look i _ (by simp) e with ⟨h1, h2⟩ | ⟨h1, h2⟩
    · obtain ⟨v, q1, q2⟩ := r0.val i d h2
      exact ⟨v, q1, q2.same k.sub⟩
    · obtain ⟨v, q1, q2⟩ := r.val i d h2
      rw [wipe_out' h1] at q1
      exact ⟨v, q1, q2⟩
  · rcases look i _ (by simp) e with ⟨h1, h2⟩ | ⟨h1, h2⟩
    · obtain ⟨a, q1, q2, q3, q4⟩ := r0.own i io o h2
      obtain ⟨u, hu⟩ := q3.some
      obtain ⟨q5, q6⟩ := k.heap a u hu (nown i io o a h1 h2 q1)
      refine ⟨a, q1, q6.trans q2, q3.mono k.sub (fun w hw => ?_), q4⟩
      rw [hu] at hw; cases hw; exact q5
    · obtain ⟨a, q1, q2⟩ := r.own i io o h2
      rw [wipe_out' h1] at q1
      exact ⟨a, q1, q2⟩
  · rcases look i _ (by simp) e1 with ⟨h1, h2⟩ | ⟨h1, h2⟩
    · rcases look j _ (by simp) e2 with ⟨h3, h4⟩ | ⟨h3, h4⟩
      · exact r0.dis i j io jo o p a h2 h4 s1 s2
      · obtain ⟨p', _, h5⟩ := old j jo p h4
        exact r0.dis i j io jo o p' a h2 h5 s1 s2
    · rcases look j _ (by simp) e2 with ⟨h3, h4⟩ | ⟨h3, h4⟩
      · obtain ⟨o', _, h5⟩ := old i io o h2
        exact r0.dis i j io jo o' p a h5 h4 s1 s2
      · exact r.dis i j io jo o p a h2 h4 (by rw [wipe_out' h1]; exact s1) (by rw [wipe_out' h3]; exact s2)
  · obtain ⟨h1, o, h2⟩ := r0.m a e
    have h3 : 0 ∉ vs := fun z => isIo_no (hio 0 z) h2
    obtain ⟨_, o', h5⟩ := r.m a e
    rw [wipeE_out h3] at h5
    exact ⟨h1, o', by rw [backE_out h3]; exact h5⟩
  · refine k.heap a o h fun ⟨j, jo, p, e2, s2⟩ => n ?_
    obtain ⟨h1, h2⟩ := wipeE_get e2 (by simp)
    rw [wipe_out' h1] at s2
    exact ⟨j, jo, p, h2, s2⟩
  · rcases look i _ (by simp) e with ⟨h1, h2⟩ | ⟨h1, h2⟩
    · exact ⟨o, h2⟩
    · obtain ⟨o', _, h3⟩ := old i io o h2
      exact ⟨o', h3⟩
  · by_cases hv : i ∈ vs
    · have hi : i < env'.length := by rw [hl]; exact (List.getElem?_eq_some_iff.mp e).1
      rw [backE_in hv hi, List.getD_eq_getElem?_getD, e]; rfl
    · have := k.vals i d (by rw [wipeE_out hv]; exact e)
      rw [wipeE_out hv] at this
      rw [backE_out hv]; exact this

/-! ### a name gets a kept value -/
theorem Rel.bind (r : Rel K B env σ H G) {i : Nat} {v : V} {d : D} (h : Rp K G v d) (hio : isIo env[i]? = false) : Rel K B (env.set i (.val d)) (σ.set i (some v)) H G := by
  have look : ∀ (j : Nat) (x : Slot), (env.set i (.val d))[j]? = some x → (j = i ∧ i < env.length ∧ x = .val d) ∨ (i ≠ j ∧ env[j]? = some x) := fun j x q => by
    by_cases hj : i = j
    · subst hj
      rw [List.getElem?_set] at q
      simp only [if_true] at q
      split at q
      · rename_i hl
        cases q
        exact .inl ⟨rfl, hl, rfl⟩
      · cases q
    · rw [List.getElem?_set_ne hj] at q
      exact .inr ⟨hj, q⟩
  refine ⟨by rw [List.length_set, List.length_set]; exact r.len, fun j e q => ?_, fun j io o q => ?_, fun j k io jo o p a e1 e2 s1 s2 => ?_, r.sub, r.g0, r.kept, fun a q => ?_⟩
  · rcases look j _ q with ⟨rfl, hl, z⟩ | ⟨hj, q⟩
    · cases z
      exact ⟨v, by rw [List.getElem?_set_self (by rw [r.len]; exact hl)], h⟩
    · rw [List.getElem?_set_ne hj]; exact r.val j e q
  · rcases look j _ q with ⟨rfl, hl, z⟩ | ⟨hj, q⟩
    · cases z
    · rw [List.getElem?_set_ne hj]; exact r.own j io o q
  · rcases look j _ e1 with ⟨rfl, hl, z⟩ | ⟨hj, e1⟩
    · cases z
    · rcases look k _ e2 with ⟨rfl, hl, z⟩ | ⟨hk, e2⟩
      · cases z
      · rw [List.getElem?_set_ne hj] at s1
        rw [List.getElem?_set_ne hk] at s2
        exact r.dis j k io jo o p a e1 e2 s1 s2
  · obtain ⟨h1, o, h2⟩ := r.m a q
    have h3 : i ≠ 0 := fun z => by subst z; exact isIo_no hio h2
    exact ⟨by rw [List.getElem?_set_ne h3]; exact h1, o, by rw [List.getElem?_set_ne h3]; exact h2⟩

/-- what stays at a binding of the names vs -/
structure Bd (vs : List Nat) (env : Ev) (σ : St) (env' : Ev) (σ' : St) : Prop where
  wip : ∀ ws, (∀ i ∈ vs, i ∈ ws) → L2.wipe σ' ws = L2.wipe σ ws
  own : ∀ (j : Nat) (io : Bool) (o : Ow), env'[j]? = some (.own io o) → env[j]? = some (.own io o) ∧ σ'[j]? = σ[j]?
  val : ∀ (j : Nat), j ∉ vs → env'[j]? = env[j]? ∧ σ'[j]? = σ[j]?
theorem Bd.refl {env : Ev} {σ : St} : Bd [] env σ env σ := ⟨fun _ _ => rfl, fun _ _ _ h => ⟨h, rfl⟩, fun _ _ => ⟨rfl, rfl⟩⟩
theorem Bd.one {env : Ev} {σ : St} {i : Nat} {v : V} {d : D} : Bd [i] env σ (env.set i (.val d)) (σ.set i (some v)) := by
  refine ⟨fun ws h => wipe_set (h i (by simp)), fun j io o q => ?_, fun j h => ?_⟩
  · have hj : i ≠ j := fun z => by
      subst z
      rw [List.getElem?_set] at q
      simp only [if_true] at q
      split at q <;> cases q
    rw [List.getElem?_set_ne hj] at q
    exact ⟨q, List.getElem?_set_ne hj⟩
  · have hj : i ≠ j := fun z => h (by simp [z])
    exact ⟨List.getElem?_set_ne hj, List.getElem?_set_ne hj⟩
theorem Bd.trans {vs ws : List Nat} {e0 e1 e2 : Ev} {s0 s1 s2 : St} (a : Bd vs e0 s0 e1 s1) (b : Bd ws e1 s1 e2 s2) : Bd (vs ++ ws) e0 s0 e2 s2 := by
  refine ⟨fun us h => (b.wip us fun i hi => h i (List.mem_append_right _ hi)).trans (a.wip us fun i hi => h i (List.mem_append_left _ hi)), fun j io o q => ?_, fun j h => ?_⟩
  · obtain ⟨h1, h2⟩ := b.own j io o q
    obtain ⟨h3, h4⟩ := a.own j io o h1
    exact ⟨h3, h2.trans h4⟩
  · obtain ⟨h1, h2⟩ := b.val j fun z => h (List.mem_append_right _ z)
    obtain ⟨h3, h4⟩ := a.val j fun z => h (List.mem_append_left _ z)
    exact ⟨h1.trans h3, h2.trans h4⟩
end

/-! ### targets -/
def tgLen : Tx → Nat
  | .cons _ es => tgLen es + 1
  | _ => 0
mutual
def tgOf (K : PySem.W.Frag) : Tx → TG
  | .slot i => gName i
  | .tup es => gTup K (tgLen es) (tgsOf K es)
  | _ => fun _ _ _ _ => False
def tgsOf (K : PySem.W.Frag) : Tx → TGs
  | .nil => gNil
  | .cons e es => gCons (tgOf K e) (tgsOf K es)
  | _ => fun _ _ _ _ => False
end
theorem bindTs_len : ∀ (x : Tx) (ds : List D) (env env' : Ev), bindTs x ds env = some env' → ds.length = tgLen x
  | .nil, [], _, _, _ => rfl
  | .nil, _ :: _, _, _, e => by simp [bindTs] at e
  | .cons y z, [], _, _, e => by simp [bindTs] at e
  | .cons y z, d :: ds, env, env', e => by
    simp only [bindTs, Option.bind_eq_some_iff] at e
    obtain ⟨env1, e1, e2⟩ := e
    rw [List.length_cons, tgLen, bindTs_len z ds env1 env' e2]
mutual
theorem tgOf_read {K : PySem.W.Frag} {H G : Hp} {B : Bs} : ∀ (x : Tx) {v : V} {σ : St} {Q : St → Hp → Prop} {env : Ev} {d : D} {env' : Ev}, Rel K B env σ H G → Rp K G v d → bindT x d env = some env' →
    (∀ σ', Rel K B env' σ' H G → Bd (tgNames x) env σ env' σ' → Q σ' H) → tgOf K x v σ H Q
  | .slot i, v, σ, Q, env, d, env', r, h, e, q => by
    simp only [bindT] at e
    split at e
    · cases e
    · rename_i hio
      cases e
      rw [tgOf]
      exact q _ (r.bind h (by simpa using hio)) Bd.one
  | .tup es, v, σ, Q, env, d, env', r, h, e, q => by
    cases d with
    | tuple ds =>
      simp only [bindT] at e
      cases h with
      | tup hq hr =>
        rw [tgOf]
        exact ⟨_, _, rfl, sqt_same r.sub hq, by rw [hr.length]; exact bindTs_len _ _ _ _ e, tgsOf_read es r hr e fun σ' r' b' => q σ' r' (by simp only [tgNames]; exact b')⟩
    | _ => simp [bindT] at e
  | .lit _, _, _, _, _, _, _, _, _, e, _ => by simp [bindT] at e
  | .glob _, _, _, _, _, _, _, _, _, e, _ => by simp [bindT] at e
  | .bin _ _ _, _, _, _, _, _, _, _, _, e, _ => by simp [bindT] at e
  | .neg _, _, _, _, _, _, _, _, _, e, _ => by simp [bindT] at e
  | .not _, _, _, _, _, _, _, _, _, e, _ => by simp [bindT] at e
  | .cmp _ _ _, _, _, _, _, _, _, _, _, e, _ => by simp [bindT] at e
  | .chain _ _ _ _ _, _, _, _, _, _, _, _, _, e, _ => by simp [bindT] at e
  | .and _ _, _, _, _, _, _, _, _, _, e, _ => by simp [bindT] at e
  | .or _ _, _, _, _, _, _, _, _, _, e, _ => by simp [bindT] at e
  | .ite _ _ _, _, _, _, _, _, _, _, _, e, _ => by simp [bindT] at e
  | .call _ _, _, _, _, _, _, _, _, _, e, _ => by simp [bindT] at e
  | .callM _ _ _, _, _, _, _, _, _, _, _, e, _ => by simp [bindT] at e
  | .bi _ _, _, _, _, _, _, _, _, _, e, _ => by simp [bindT] at e
  | .me _ _ _, _, _, _, _, _, _, _, _, e, _ => by simp [bindT] at e
  | .idx _ _, _, _, _, _, _, _, _, _, e, _ => by simp [bindT] at e
  | .sl _ _ _, _, _, _, _, _, _, _, _, e, _ => by simp [bindT] at e
  | .rev _, _, _, _, _, _, _, _, _, e, _ => by simp [bindT] at e
  | .popAt _ _, _, _, _, _, _, _, _, _, e, _ => by simp [bindT] at e
  | .pop0 _, _, _, _, _, _, _, _, _, e, _ => by simp [bindT] at e
  | .lst _, _, _, _, _, _, _, _, _, e, _ => by simp [bindT] at e
  | .dict0, _, _, _, _, _, _, _, _, e, _ => by simp [bindT] at e
  | .comp _ _ _ _ _, _, _, _, _, _, _, _, _, e, _ => by simp [bindT] at e
  | .comp2 _ _ _ _ _ _ _ _, _, _, _, _, _, _, _, _, e, _ => by simp [bindT] at e
  | .nil, _, _, _, _, _, _, _, _, e, _ => by simp [bindT] at e
  | .cons _ _, _, _, _, _, _, _, _, _, e, _ => by simp [bindT] at e
  | .itR _, _, _, _, _, _, _, _, _, e, _ => by simp [bindT] at e
  | .itZ _ _, _, _, _, _, _, _, _, _, e, _ => by simp [bindT] at e
  | .itE _, _, _, _, _, _, _, _, _, e, _ => by simp [bindT] at e
theorem tgsOf_read {K : PySem.W.Frag} {H G : Hp} {B : Bs} : ∀ (x : Tx) {vs : List V} {σ : St} {Q : St → Hp → Prop} {env : Ev} {ds : List D} {env' : Ev}, Rel K B env σ H G → Rps K G vs ds → bindTs x ds env = some env' →
    (∀ σ', Rel K B env' σ' H G → Bd (tgNames x) env σ env' σ' → Q σ' H) → tgsOf K x vs σ H Q
  | .nil, vs, σ, Q, env, ds, env', r, h, e, q => by
    cases h with
    | nil =>
      simp only [bindTs] at e
      cases e
      rw [tgsOf]
      exact ⟨rfl, q _ r Bd.refl⟩
    | cons h hs => simp [bindTs] at e
  | .cons y z, vs, σ, Q, env, ds, env', r, h, e, q => by
    cases h with
    | nil => simp [bindTs] at e
    | cons h hr =>
      simp only [bindTs, Option.bind_eq_some_iff] at e
      obtain ⟨env1, e1, e2⟩ := e
      rw [tgsOf]
      refine ⟨_, _, rfl, tgOf_read y r h e1 fun σ1 r1 b1 => ?_⟩
      refine tgsOf_read z r1 hr e2 fun σ2 r2 b2 => ?_
      exact q σ2 r2 (by simp only [tgNames]; exact b1.trans b2)
  | .slot _, _, _, _, _, _, _, _, _, e, _ => by simp [bindTs] at e
  | .tup _, _, _, _, _, _, _, _, _, e, _ => by simp [bindTs] at e
  | .lit _, _, _, _, _, _, _, _, _, e, _ => by simp [bindTs] at e
  | .glob _, _, _, _, _, _, _, _, _, e, _ => by simp [bindTs] at e
  | .bin _ _ _, _, _, _, _, _, _, _, _, e, _ => by simp [bindTs] at e
  | .neg _, _, _, _, _, _, _, _, _, e, _ => by simp [bindTs] at e
  | .not _, _, _, _, _, _, _, _, _, e, _ => by simp [bindTs] at e
  | .cmp _ _ _, _, _, _, _, _, _, _, _, e, _ => by simp [bindTs] at e
  | .chain _ _ _ _ _, _, _, _, _, _, _, _, _, e, _ => by simp [bindTs] at e
  | .and _ _, _, _, _, _, _, _, _, _, e, _ => by simp [bindTs] at e
  | .or _ _, _, _, _, _, _, _, _, _, e, _ => by simp [bindTs] at e
  | .ite _ _ _, _, _, _, _, _, _, _, _, e, _ => by simp [bindTs] at e
  | .call _ _, _, _, _, _, _, _, _, _, e, _ => by simp [bindTs] at e
  | .callM _ _ _, _, _, _, _, _, _, _, _, e, _ => by simp [bindTs] at e
  | .bi _ _, _, _, _, _, _, _, _, _, e, _ => by simp [bindTs] at e
  | .me _ _ _, _, _, _, _, _, _, _, _, e, _ => by simp [bindTs] at e
  | .idx _ _, _, _, _, _, _, _, _, _, e, _ => by simp [bindTs] at e
  | .sl _ _ _, _, _, _, _, _, _, _, _, e, _ => by simp [bindTs] at e
  | .rev _, _, _, _, _, _, _, _, _, e, _ => by simp [bindTs] at e
  | .popAt _ _, _, _, _, _, _, _, _, _, e, _ => by simp [bindTs] at e
  | .pop0 _, _, _, _, _, _, _, _, _, e, _ => by simp [bindTs] at e
  | .lst _, _, _, _, _, _, _, _, _, e, _ => by simp [bindTs] at e
  | .dict0, _, _, _, _, _, _, _, _, e, _ => by simp [bindTs] at e
  | .comp _ _ _ _ _, _, _, _, _, _, _, _, _, e, _ => by simp [bindTs] at e
  | .comp2 _ _ _ _ _ _ _ _, _, _, _, _, _, _, _, _, e, _ => by simp [bindTs] at e
  | .itR _, _, _, _, _, _, _, _, _, e, _ => by simp [bindTs] at e
  | .itZ _ _, _, _, _, _, _, _, _, _, e, _ => by simp [bindTs] at e
  | .itE _, _, _, _, _, _, _, _, _, e, _ => by simp [bindTs] at e
end
section
variable {X : Cx} {W : XW} {F : Fns} {e : Expr} {es : List Expr} {pos : Pos}
structure UG (X : Cx) (x : Tx) (e : Expr) : Prop where
  P : PG X e (tgOf X.K x)
structure UGs (X : Cx) (x : Tx) (es : List Expr) : Prop where
  P : PGs X es (tgsOf X.K x)
  ns : es.all nst = true
  len : tgLen x = es.length
theorem ug_name {i : Nat} {x : Str} (hN : X.N.Nodup) (hi : X.N[i]? = some x) (hx : Loc X.env.scope x) (hf : X.fn x = true ∨ X.env.scope.names.lookup x = some .local) : UG X (.slot i) (.Name x pos) :=
  ⟨by rw [tgOf]; exact pg_name hN hi hx hf⟩
theorem ugs_nil : UGs X .nil [] := ⟨by rw [tgsOf]; exact pgs_nil, rfl, rfl⟩
theorem assignEach_cons {e : Expr} {es : List Expr} {env : PySem.Env} (h : nst e = true) : assignEach (e :: es) env = (false, assign e env) :: assignEach es env := by
  cases e <;> first | rfl | simp [nst] at h
theorem assignEach_len {env : PySem.Env} : ∀ {es : List Expr}, es.all nst = true → (assignEach es env).length = es.length ∧ (assignEach es env).findIdx? (·.1) = none
  | [], _ => ⟨by rw [assignEach]; rfl, by rw [assignEach]; rfl⟩
  | e :: es, h => by
    simp only [List.all_cons, Bool.and_eq_true] at h
    obtain ⟨h1, h2⟩ := assignEach_len (env := env) (es := es) h.2
    rw [assignEach_cons h.1]
    refine ⟨by rw [List.length_cons, List.length_cons, h1], ?_⟩
    rw [List.findIdx?_cons, h2]
    rfl
theorem ugs_cons {x y : Tx} (ha : UG X x e) (hs : UGs X y es) (n : nst e = true) : UGs X (.cons x y) (e :: es) :=
  ⟨by rw [tgsOf]; exact pgs_cons ha.P hs.P (by rw [assignEach_cons n]; rfl), by simp [n, hs.ns], by rw [tgLen, hs.len]; rfl⟩
theorem ug_tup {x : Tx} {k : Nat} (hc : X.calm = true) (h : UGs X x es) : UG X (.tup x) (.Tuple es k pos) := by
  obtain ⟨l1, l2⟩ := assignEach_len (env := X.env) h.ns
  exact ⟨by rw [tgOf]; exact pg_tup hc h.P (by rw [l1, h.len]) l2⟩
end
end U
end

section
namespace U
open PySem PySem.Spec PyProof.Rows L2

section
variable {K : PySem.W.Frag} {B : Bs} {env env0 env' env2 : Ev} {σ σ' : St} {H G H0 G0 : Hp} {vs ws : List Nat}
theorem wipe_wipe {σ : St} (h : ∀ i ∈ ws, i ∈ vs) : L2.wipe (L2.wipe σ ws) vs = L2.wipe σ vs := by
  refine List.ext_getElem? fun j => ?_
  by_cases hj : j ∈ vs
  · rw [wipe_in hj, wipe_in hj]
    by_cases hw : j ∈ ws
    · rw [wipe_in hw]
      cases σ[j]? <;> rfl
    · rw [wipe_out' hw]
  · rw [wipe_out' hj, wipe_out' hj, wipe_out' fun z => hj (h j z)]
theorem wipeE_wipeE {env : Ev} (h : ∀ i ∈ ws, i ∈ vs) : wipeE (wipeE env ws) vs = wipeE env vs := by
  refine List.ext_getElem? fun j => ?_
  by_cases hj : j ∈ vs
  · cases q : (wipeE env vs)[j]? with
    | none =>
      have : (wipeE (wipeE env ws) vs).length ≤ j := by
        rw [wipeE_len, wipeE_len, ← wipeE_len env vs]
        exact List.getElem?_eq_none_iff.mp q
      exact List.getElem?_eq_none this
    | some x =>
      have hx := wipeE_in hj x q
      have hl : j < (wipeE (wipeE env ws) vs).length := by
        rw [wipeE_len, wipeE_len, ← wipeE_len env vs]
        exact (List.getElem?_eq_some_iff.mp q).1
      have q2 : (wipeE (wipeE env ws) vs)[j]? = some _ := List.getElem?_eq_getElem hl
      rw [q2, wipeE_in hj _ q2, hx]
  · rw [wipeE_out hj, wipeE_out hj, wipeE_out fun z => hj (h j z)]
theorem wipe_nil {σ : St} : L2.wipe σ [] = σ := rfl

/-- an object that is nobody's is written -/
theorem Rel.free (r : Rel K B env σ H G) {p : Addr} {u u' : HO} (hp : H p = some u) (hg : G p = none) (no : ¬ Owned env σ p) (h0 : B.H0 p = none) : Rel K B env σ (upd H p u') G where
  len := r.len
  val := r.val
  own := fun i io o e => by
    obtain ⟨a, h1, h2, h3, h4⟩ := r.own i io o e
    have ne : a ≠ p := fun q => no ⟨i, io, o, e, q ▸ h1⟩
    exact ⟨a, h1, h2, h3.mono (Same.refl _) (fun u h => by rw [upd_ne ne]; exact h), h4⟩
  dis := r.dis
  sub := fun a o e => by
    have ne : a ≠ p := fun q => by rw [q, hg] at e; cases e
    rw [upd_ne ne]; exact r.sub _ _ e
  g0 := r.g0
  kept := fun a o h n => by
    obtain ⟨h1, h2⟩ := r.kept a o h n
    have ne : a ≠ p := fun q => by rw [q, h0] at h; cases h
    exact ⟨by rw [upd_ne ne]; exact h1, h2⟩
  m := r.m

/-- within a block: the names vs are the block's, those of ws are forgotten now; D the new list -/
structure Blk (K : PySem.W.Frag) (B : Bs) (vs : List Nat) (e0 : Ev) (σw : St) (H0 G0 : Hp) (Da : Addr) (ws : List Nat) (τ : St) (env : Ev) (H G : Hp) (acc : List D) : Prop where
  rel : Rel K B (wipeE env ws) τ H G
  keep : Keep e0 σw H0 G0 (wipeE env vs) H G
  nov : ∀ (j : Nat) (io : Bool) (o : Ow), (wipeE env ws)[j]? = some (.own io o) → j ∉ vs
  tw : L2.wipe τ vs = σw
  tws : L2.wipe τ ws = τ
  sub : ∀ i ∈ ws, i ∈ vs
  at' : ∃ accV, H Da = some (.lst accV) ∧ Rps K G accV acc
  gD : G Da = none
  hD0 : H0 Da = none
  r0 : Rel K B e0 σw H0 G0
variable {e0 : Ev} {σw τ : St} {Da : Addr} {acc : List D}
theorem Blk.nown (b : Blk K B vs e0 σw H0 G0 Da ws τ env H G acc) {a : Addr} (h : Owned (wipeE env ws) τ a) : Owned e0 σw a := by
  obtain ⟨j, io, o, e, s⟩ := h
  have hj := b.nov j io o e
  obtain ⟨hw, e1⟩ := wipeE_get e (by simp)
  obtain ⟨o', e2⟩ := b.keep.ownle j io o (by rw [wipeE_out hj]; exact e1)
  refine ⟨j, io, o', e2, ?_⟩
  rw [← b.tw, wipe_out' hj]; exact s
theorem Blk.nD (b : Blk K B vs e0 σw H0 G0 Da ws τ env H G acc) : ¬ Owned (wipeE env ws) τ Da := fun h => by
  obtain ⟨j, io, o, e, s⟩ := b.nown h
  obtain ⟨a, h1, h2, h3, _⟩ := b.r0.own j io o e
  rw [s] at h1; cases h1
  obtain ⟨u, hu⟩ := h3.some
  rw [b.hD0] at hu; cases hu
theorem Blk.bind (b : Blk K B vs e0 σw H0 G0 Da ws τ env H G acc) {tg : Tx} {s : Rs} {d : D} {x : V} {H' G2 : Hp} {Q : St → Hp → Prop} (n : New K H G s x H' G2) (hs : s.toR = .val d) (hb : bindT tg d (wipeE env ws) = some env2)
    (hn : ∀ i ∈ tgNames tg, i ∈ ws) (q : ∀ σ3, Blk K B vs e0 σw H0 G0 Da [] σ3 env2 H' G2 acc → L2.wipe σ3 ws = τ → Q σ3 H') : tgOf K tg x τ H' Q := by
  obtain ⟨r2, k2, n2⟩ := n.fin b.rel
  rw [hs] at n2
  refine tgOf_read tg r2 n2 hb fun σ3 r3 bd => q σ3 ?_ ?_
  · have own : ∀ (j : Nat) (io : Bool) (o : Ow), env2[j]? = some (.own io o) → j ∉ vs ∧ ∃ o', (wipeE env vs)[j]? = some (.own io o') := fun j io o e => by
      obtain ⟨h1, h2⟩ := bd.own j io o e
      have hj := b.nov j io o h1
      obtain ⟨_, h3⟩ := wipeE_get h1 (by simp)
      exact ⟨hj, o, by rw [wipeE_out hj]; exact h3⟩
    refine ⟨r3, ⟨fun a o h n => ?_, fun a h => k2.dom a (b.keep.dom a h), b.keep.sub.trans k2.sub, fun j io o e => ?_, fun j d' e => ?_⟩, fun j io o e => ?_, ?_, rfl, (fun i h => nomatch h), ?_, ?_, b.hD0, b.r0⟩
    · obtain ⟨h1, h2⟩ := b.keep.heap a o h n
      obtain ⟨h3, h4⟩ := k2.heap a o h1 fun z => n (b.nown z)
      exact ⟨h3, h4.trans h2⟩
    · obtain ⟨h1, h2⟩ := wipeE_get e (by simp)
      obtain ⟨_, o', h3⟩ := own j io o h2
      exact b.keep.ownle j io o' h3
    · have h1 := b.keep.vals j d' e
      obtain ⟨hj, h2⟩ := wipeE_get h1 (by simp)
      have hw : j ∉ ws := fun z => hj (b.sub j z)
      have h3 := (bd.val j fun z => hw (hn j z)).1
      rw [wipeE_out hj, h3, wipeE_out hw]; exact h2
    · exact (own j io o e).1
    · rw [← b.tw]; exact bd.wip vs fun i hi => b.sub i (hn i hi)
    · obtain ⟨accV, h1, h2⟩ := b.at'
      obtain ⟨h3, _⟩ := k2.heap _ _ h1 b.nD
      exact ⟨accV, h3, h2.same k2.sub⟩
    · obtain ⟨accV, h1, h2⟩ := b.at'
      obtain ⟨_, h4⟩ := k2.heap _ _ h1 b.nD
      rw [h4]; exact b.gD
  · rw [bd.wip ws hn, b.tws]
theorem Blk.later {σ3 : St} {env4 : Ev} {H4 G4 : Hp} (b : Blk K B vs e0 σw H0 G0 Da [] σ3 env2 H G acc) (r : Rel K B env4 σ3 H4 G4) (k : Keep env2 σ3 H G env4 H4 G4) : Blk K B vs e0 σw H0 G0 Da [] σ3 env4 H4 G4 acc := by
  have nov : ∀ (j : Nat) (io : Bool) (o : Ow), env4[j]? = some (.own io o) → j ∉ vs := fun j io o e => by
    obtain ⟨o', e'⟩ := k.ownle j io o e
    exact b.nov j io o' e'
  refine ⟨r, ⟨fun a o h n => ?_, fun a h => k.dom a (b.keep.dom a h), b.keep.sub.trans k.sub, fun j io o e => ?_, fun j d' e => ?_⟩, nov, b.tw, rfl, (fun i h => nomatch h), ?_, ?_, b.hD0, b.r0⟩
  · obtain ⟨h1, h2⟩ := b.keep.heap a o h n
    obtain ⟨h3, h4⟩ := k.heap a o h1 fun z => n (b.nown z)
    exact ⟨h3, h4.trans h2⟩
  · obtain ⟨h1, h2⟩ := wipeE_get e (by simp)
    obtain ⟨o', h3⟩ := k.ownle j io o h2
    exact b.keep.ownle j io o' (by rw [wipeE_out h1]; exact h3)
  · obtain ⟨hj, h2⟩ := wipeE_get (b.keep.vals j d' e) (by simp)
    rw [wipeE_out hj]; exact k.vals j d' h2
  · obtain ⟨accV, h1, h2⟩ := b.at'
    obtain ⟨h3, _⟩ := k.heap _ _ h1 b.nD
    exact ⟨accV, h3, h2.same k.sub⟩
  · obtain ⟨accV, h1, h2⟩ := b.at'
    obtain ⟨_, h4⟩ := k.heap _ _ h1 b.nD
    rw [h4]; exact b.gD
theorem Blk.app (b : Blk K B vs e0 σw H0 G0 Da ws τ env H G acc) {v : V} {d : D} (h : Rp K G v d) : ∃ accV, H Da = some (.lst accV) ∧ accV.length = acc.length ∧ Blk K B vs e0 σw H0 G0 Da ws τ env (upd H Da (.lst (accV ++ [v]))) G (acc ++ [d]) := by
  obtain ⟨accV, h1, h2⟩ := b.at'
  have ne : ∀ a, H0 a ≠ none → a ≠ Da := fun a h z => h (by rw [z]; exact b.hD0)
  refine ⟨accV, h1, h2.length, b.rel.free h1 b.gD b.nD (b.r0.h0free b.hD0), ⟨fun a o h n => ?_, fun a h => ?_, b.keep.sub, b.keep.ownle, b.keep.vals⟩, b.nov, b.tw, b.tws, b.sub, ⟨_, upd_same, h2.append (.cons h .nil)⟩, b.gD, b.hD0, b.r0⟩
  · obtain ⟨h3, h4⟩ := b.keep.heap a o h n
    exact ⟨by rw [upd_ne (ne a (by rw [h]; simp))]; exact h3, h4⟩
  · rw [upd_ne (ne a h)]; exact b.keep.dom a h
theorem Blk.wipe (b : Blk K B vs e0 σw H0 G0 Da [] τ env H G acc) (hw : ∀ i ∈ ws, i ∈ vs) : Blk K B vs e0 σw H0 G0 Da ws (L2.wipe τ ws) env H G acc := by
  refine ⟨Rel.wipe b.rel fun i hi => ?_, b.keep, fun j io o e => ?_, ?_, wipe_wipe fun i h => h, hw, b.at', b.gD, b.hD0, b.r0⟩
  · cases q : env[i]? with
    | none => rfl
    | some x =>
      cases x with
      | own io o => exact absurd (hw i hi) (b.nov i io o q)
      | _ => rfl
  · exact b.nov j io o (wipeE_get e (by simp)).2
  · rw [wipe_wipe hw]; exact b.tw
theorem Blk.out (b : Blk K B vs e0 σw H0 G0 Da ws τ env H G acc) : Blk K B vs e0 σw H0 G0 Da vs σw env H G acc := by
  have h := Rel.wipe (vs := vs) b.rel fun i hi => by
    cases q : (wipeE env ws)[i]? with
    | none => rfl
    | some x =>
      cases x with
      | own io o => exact absurd hi (b.nov i io o q)
      | _ => rfl
  rw [wipeE_wipeE b.sub, b.tw] at h
  have t : L2.wipe σw vs = σw := by rw [← b.tw]; exact wipe_wipe fun i h => h
  exact ⟨h, b.keep, fun j io o e => (wipeE_get e (by simp)).1, t, t, fun i h => h, b.at', b.gD, b.hD0, b.r0⟩
end

/-! ### comprehensions -/
def WF : XW := fun _ _ _ => False
theorem noX_ok {α : Type} {o : Out α} {a : α} (h : noX o = .ok a) : o = .ok a := by cases o <;> first | exact h | cases h
theorem bind_ok {α β : Type} {o : Out α} {f : α → Out β} {b : β} (h : o.bind f = .ok b) : ∃ a, o = .ok a ∧ f a = .ok b := by
  cases o with
  | ok a => exact ⟨a, rfl, h⟩
  | exn c e => cases h
  | stuck => cases h
theorem ofO_ok {α : Type} {o : Option α} {a : α} (h : ofO o = .ok a) : o = some a := by cases o <;> cases h; rfl
theorem all_in {xs vs : List Nat} (h : xs.all vs.contains = true) : ∀ i ∈ xs, i ∈ vs := fun i hi => by
  have := List.all_eq_true.mp h i hi
  simpa using this

section
variable {X : Cx} {W : XW} {F : Fns} {e : Expr} {es : List Expr} {pos : Pos}
/-- the tests of a clause -/
structure UC (X : Cx) (W : XW) (F : Fns) (x : Tx) (ifs : List Expr) : Prop where
  T : PTs X ifs (uG X.K W rB (denC F x))
theorem uc_nil : UC X W F .nil [] := by
  refine ⟨pts_imp pts_nil fun σ H Q q => ?_⟩
  obtain ⟨B, env, G, rl, h⟩ := q
  simp only [denC] at h
  exact h true H G rl Keep.refl rfl
theorem uc_one {a : Tx} (ha : U3 X W F a e) (hn : noT a = false) : UC X W F (.cons a .nil) [e] := by
  refine ⟨pts_imp (pts_one (ha.T hn)) fun σ H Q q => ?_⟩
  obtain ⟨B, env, G, rl, h⟩ := q
  simp only [denC] at h
  refine step (ρ := rB) (f := tst (opd a (denE F a))) rl h fun s b H1 G1 _ r1 k1 o1 h1 => ?_
  cases o1
  cases e1 : s.1 with
  | true =>
    rw [e1] at h1
    exact h1 true _ _ r1 Keep.refl rfl
  | false =>
    rw [e1] at h1
    exact h1 false _ _ r1 Keep.refl rfl
theorem End.of_ok {α β : Type} {K : PySem.W.Frag} {W : XW} {ρ : RT α β} {B : Bs} {env : Ev} {σ : St} {H G : Hp} {Q : β → Hp → Prop} {o : Out (α × Ev)} {p : α × Ev} (h : End K W ρ B env σ H G Q (.ok p)) (e : o = .ok p) : End K W ρ B env σ H G Q o := e ▸ h

theorem lc_read {own : List Nat} {tg it cs el : Tx} {σ : St} {H : Hp} {Q : V → Hp → Prop} {K : PySem.W.Frag} (h : uG K W (rE K) (denE F (.comp own tg it cs el)) σ H Q) :
    tLc (uG K W (rI K) (denI F it)) (tgOf K tg) (uG K WF rB (denC F cs)) (uG K WF (rV K) (fun env => frz (denE F el env))) own σ H Q := by
  obtain ⟨B, env, G, rl, h⟩ := h
  simp only [denE] at h
  refine step (ρ := rI K) (f := denI F it) rl h fun p J H1 G1 e0 r1 k1 o1 h1 => ?_
  have o1 : WalkD K G1 p.1 J := o1
  intro Da hD
  split at h1
  · rename_i hc
    simp only [Bool.and_eq_true] at hc
    have htg := all_in hc.1
    have hio : ∀ i ∈ own, isIo p.2[i]? = false := fun i hi => by
      have := List.all_eq_true.mp hc.2 i hi
      simpa using this
    cases L : noX (loopC (fun d env => bindT tg d (wipeE env own)) (denC F cs) (fun env => frz (denE F el env)) p.1 [] p.2) with
    | exn c env => cases hq : loopC (fun d env => bindT tg d (wipeE env own)) (denC F cs) (fun env => frz (denE F el env)) p.1 [] p.2 <;> rw [hq] at L <;> cases L
    | stuck => rw [L] at h1; exact h1.elim
    | ok q =>
      rw [L] at h1
      have L := noX_ok L
      have r0 := Rel.wipe (vs := own) r1 hio
      have t0 : L2.wipe (L2.wipe σ own) own = L2.wipe σ own := wipe_wipe fun i h => h
      have b0 : Blk K B own (wipeE p.2 own) (L2.wipe σ own) H1 G1 Da own (L2.wipe σ own) p.2 (upd H1 Da (.lst [])) G1 [] :=
        ⟨r0.alloc hD, Keep.alloc hD, fun j io o e => (wipeE_get e (by simp)).1, t0, t0, fun i h => h, ⟨[], upd_same, .nil⟩, r1.sub.free hD, hD, r0⟩
      refine ⟨fun i m H => m = p.1.length - i ∧ i ≤ p.1.length ∧ ∃ envi G acc, Blk K B own (wipeE p.2 own) (L2.wipe σ own) H1 G1 Da own (L2.wipe σ own) envi H G acc ∧ loopC (fun d env => bindT tg d (wipeE env own)) (denC F cs) (fun env => frz (denE F el env)) (p.1.drop i) acc envi = .ok q,
        ⟨p.1.length, rfl, Nat.zero_le _, p.2, G1, [], b0, L⟩, ?_⟩
      rintro i m H ⟨rfl, hi, envi, Gi, acc, b, hl⟩
      obtain ⟨w1, w2, w3⟩ := o1 Gi H b.keep.sub b.rel.sub
      by_cases hlt : i < p.1.length
      · refine .inr ⟨w1 i hlt, fun H' => ∃ envi G acc, Blk K B own (wipeE p.2 own) (L2.wipe σ own) H1 G1 Da own (L2.wipe σ own) envi H' G acc ∧ loopC (fun d env => bindT tg d (wipeE env own)) (denC F cs) (fun env => frz (denE F el env)) (p.1.drop (i + 1)) acc envi = .ok q,
          fun H' nx => ⟨p.1.length - (i + 1), by omega, rfl, hlt, nx⟩, fun x H' y => ?_⟩
        obtain ⟨s, G2, hs, n⟩ := w3 i x H' (p.1[i]) y (List.getElem?_eq_getElem hlt)
        rw [List.drop_eq_getElem_cons hlt, loopC] at hl
        obtain ⟨env2, e2, hl⟩ := bind_ok hl
        obtain ⟨tb, e3, hl⟩ := bind_ok hl
        have e2 := ofO_ok e2
        refine Blk.bind b n hs e2 htg fun σ3 b3 hw => ⟨hw, B, env2, G2, b3.rel, End.of_ok ?_ e3⟩
        intro b' H3 G3 r3 k3 hb
        cases hb
        have b4 := b3.later r3 k3
        cases tb1 : tb.1 with
        | false =>
          rw [tb1] at hl
          simp only [Bool.false_eq_true, if_false] at hl ⊢
          refine ⟨tb.2, G3, acc, ?_, hl⟩
          have := b4.wipe (ws := own) fun i h => h
          rw [hw] at this
          exact this
        | true =>
          rw [tb1] at hl
          simp only [if_true] at hl ⊢
          obtain ⟨te, e4, hl⟩ := bind_ok hl
          refine ⟨B, tb.2, G3, b4.rel, End.of_ok ?_ e4⟩
          intro yv H5 G5 r5 k5 ry
          have b5 := b4.later r5 k5
          have ry : Rp K G5 yv te.1 := ry
          obtain ⟨accV, h6, h7, b6⟩ := b5.app ry
          split at hl
          · rename_i hsz
            refine ⟨accV, h6, by rw [h7, ← line_eq]; exact hsz, te.2, G5, acc ++ [te.1], ?_, hl⟩
            have := b6.wipe (ws := own) fun i h => h
            rw [hw] at this
            exact this
          · cases hl
      · have ei : i = p.1.length := by omega
        subst ei
        refine .inl ⟨w2, ?_⟩
        rw [List.drop_length, loopC] at hl
        cases hl
        obtain ⟨r6, k6⟩ := Rel.back r1 hio b.keep b.rel
        obtain ⟨accV, h7, h8⟩ := b.at'
        exact h1 (.ref Da) H Gi r6 k6 ⟨Da, rfl, hD, b.gD, accV, h7, h8⟩
  · exact h1.elim
end
end U
end

section
namespace U
open PySem PySem.Spec PyProof.Rows L2

section
variable {X : Cx} {W : XW} {F : Fns} {e : Expr} {es : List Expr} {pos : Pos}
/-- the contexts of the block of a comprehension with this scope -/
def BX (X : Cx) (scope : Scope) (P : Cx → Prop) : Prop := ∀ (s : Shared) (H : Hp) (C : Addr) (cl : List (Str × Addr)) (fp : List Addr), P (X.blk s H scope (compEnvC scope cl C X.env) fp)
theorem u_comp {scope : Scope} {own : List (Str × Nat)} {tg it cs el : Tx} {tge iter elt : Expr} {ifs : List Expr} (hc : X.calm = true) (hN : X.N.Nodup) (ok : BlkOk X.N X.env.scope scope own) (hi : UI' X W F it tge iter)
    (hg : BX X scope fun Y => UG Y tg tge) (ht : BX X scope fun Y => UC Y WF F cs ifs) (he : BX X scope fun Y => U3 Y WF F el elt) (hs : ∀ x, foldedSetIterable iter X.env x = pure x) :
    U3 X W F (.comp (own.map (·.2)) tg it cs el) (.ListComp elt [⟨tge, iter, ifs, 0⟩] scope pos) := by
  refine U3.mk' (pe_imp (pe_lc (g := tgOf X.K tg) (tt := uG X.K WF rB (denC F cs)) (te := uG X.K WF (rV X.K) (fun env => frz (denE F el env))) hc hN hi.I ok (fun s H C cl fp => (hg s H C cl fp).P) (fun s H C cl fp => (ht s H C cl fp).T) (fun s H C cl fp => (he s H C cl fp).V) hs) fun σ H Q q => ?_) (by funext; rfl) fun _ => rfl
  exact lc_read q

theorem lc2_read {own : List Nat} {tg it cs tg1 it1 cs1 el : Tx} {σ : St} {H : Hp} {Q : V → Hp → Prop} {K : PySem.W.Frag} (h : uG K W (rE K) (denE F (.comp2 own tg it cs tg1 it1 cs1 el)) σ H Q) :
    tLc2 (uG K W (rI K) (denI F it)) (tgOf K tg) (uG K WF rB (denC F cs)) (uG K WF (rI K) (denI F it1)) (tgOf K tg1) (uG K WF rB (denC F cs1)) (uG K WF (rV K) (fun env => frz (denE F el env))) own (tgNames tg1) σ H Q := by
  obtain ⟨B, env, G, rl, h⟩ := h
  simp only [denE] at h
  refine step (ρ := rI K) (f := denI F it) rl h fun p J H1 G1 e0 r1 k1 o1 h1 => ?_
  have o1 : WalkD K G1 p.1 J := o1
  intro Da hD
  split at h1
  · rename_i hc
    simp only [Bool.and_eq_true] at hc
    have htg := all_in hc.1.1
    have htg1 := all_in hc.1.2
    have hio : ∀ i ∈ own, isIo p.2[i]? = false := fun i hi => by
      have := List.all_eq_true.mp hc.2 i hi
      simpa using this
    generalize hinn : (fun (acc : List D) (env : Ev) => (denI F it1 env).bind fun q => loopC (fun d env => bindT tg1 d (wipeE env (tgNames tg1))) (denC F cs1) (fun env => frz (denE F el env)) q.1 acc q.2) = inn at h1
    cases L : noX (loopC2 (fun d env => bindT tg d (wipeE env own)) (denC F cs) inn p.1 [] p.2) with
    | exn c env => cases hq : loopC2 (fun d env => bindT tg d (wipeE env own)) (denC F cs) inn p.1 [] p.2 <;> rw [hq] at L <;> cases L
    | stuck => rw [L] at h1; exact h1.elim
    | ok q =>
      rw [L] at h1
      have L := noX_ok L
      have r0 := Rel.wipe (vs := own) r1 hio
      have t0 : L2.wipe (L2.wipe σ own) own = L2.wipe σ own := wipe_wipe fun i h => h
      have b0 : Blk K B own (wipeE p.2 own) (L2.wipe σ own) H1 G1 Da own (L2.wipe σ own) p.2 (upd H1 Da (.lst [])) G1 [] :=
        ⟨r0.alloc hD, Keep.alloc hD, fun j io o e => (wipeE_get e (by simp)).1, t0, t0, fun i h => h, ⟨[], upd_same, .nil⟩, r1.sub.free hD, hD, r0⟩
      refine ⟨fun i m H => m = p.1.length - i ∧ i ≤ p.1.length ∧ ∃ envi G acc, Blk K B own (wipeE p.2 own) (L2.wipe σ own) H1 G1 Da own (L2.wipe σ own) envi H G acc ∧ loopC2 (fun d env => bindT tg d (wipeE env own)) (denC F cs) inn (p.1.drop i) acc envi = .ok q,
        ⟨p.1.length, rfl, Nat.zero_le _, p.2, G1, [], b0, L⟩, ?_⟩
      rintro i m H ⟨rfl, hi, envi, Gi, acc, b, hl⟩
      obtain ⟨w1, w2, w3⟩ := o1 Gi H b.keep.sub b.rel.sub
      by_cases hlt : i < p.1.length
      · refine .inr ⟨w1 i hlt, fun H' => ∃ envi G acc, Blk K B own (wipeE p.2 own) (L2.wipe σ own) H1 G1 Da own (L2.wipe σ own) envi H' G acc ∧ loopC2 (fun d env => bindT tg d (wipeE env own)) (denC F cs) inn (p.1.drop (i + 1)) acc envi = .ok q,
          fun H' nx => ⟨p.1.length - (i + 1), by omega, rfl, hlt, nx⟩, fun x H' y => ?_⟩
        obtain ⟨s, G2, hs, n⟩ := w3 i x H' (p.1[i]) y (List.getElem?_eq_getElem hlt)
        rw [List.drop_eq_getElem_cons hlt, loopC2] at hl
        obtain ⟨env2, e2, hl⟩ := bind_ok hl
        obtain ⟨tb, e3, hl⟩ := bind_ok hl
        have e2 := ofO_ok e2
        refine Blk.bind b n hs e2 htg fun σ3 b3 hw => ⟨hw, B, env2, G2, b3.rel, End.of_ok ?_ e3⟩
        intro b' H3 G3 r3 k3 hb
        cases hb
        have b4 := b3.later r3 k3
        cases tb1 : tb.1 with
        | false =>
          rw [tb1] at hl
          simp only [Bool.false_eq_true, if_false] at hl ⊢
          exact ⟨tb.2, G3, acc, b4.out, hl⟩
        | true =>
          rw [tb1] at hl
          simp only [if_true] at hl ⊢
          obtain ⟨qi, e4, hl⟩ := bind_ok hl
          rw [← hinn] at e4
          obtain ⟨ip, e5, e4⟩ := bind_ok e4
          refine ⟨B, tb.2, G3, b4.rel, End.of_ok ?_ e5⟩
          intro J1 H5 G5 r5 k5 w5
          have w5 : WalkD K G5 ip.1 J1 := w5
          have b5 := b4.later r5 k5
          have b5w := b5.wipe (ws := tgNames tg1) htg1
          refine ⟨fun j k H => k = ip.1.length - j ∧ j ≤ ip.1.length ∧ ∃ envj G acc, Same G5 G ∧ Blk K B own (wipeE p.2 own) (L2.wipe σ own) H1 G1 Da (tgNames tg1) (L2.wipe σ3 (tgNames tg1)) envj H G acc ∧ loopC (fun d env => bindT tg1 d (wipeE env (tgNames tg1))) (denC F cs1) (fun env => frz (denE F el env)) (ip.1.drop j) acc envj = .ok qi,
            ⟨ip.1.length, rfl, Nat.zero_le _, ip.2, G5, acc, Same.refl _, b5w, e4⟩, ?_⟩
          rintro j k H ⟨rfl, hj, envj, Gj, accj, sj, bj, hlj⟩
          obtain ⟨v1, v2, v3⟩ := w5 Gj H sj bj.rel.sub
          by_cases hltj : j < ip.1.length
          · refine .inr ⟨v1 j hltj, fun H' => ∃ envj G acc, Same G5 G ∧ Blk K B own (wipeE p.2 own) (L2.wipe σ own) H1 G1 Da (tgNames tg1) (L2.wipe σ3 (tgNames tg1)) envj H' G acc ∧ loopC (fun d env => bindT tg1 d (wipeE env (tgNames tg1))) (denC F cs1) (fun env => frz (denE F el env)) (ip.1.drop (j + 1)) acc envj = .ok qi,
              fun H' nx => ⟨ip.1.length - (j + 1), by omega, rfl, hltj, nx⟩, fun x H' y => ?_⟩
            obtain ⟨s1, G6, hs1, n1⟩ := v3 j x H' (ip.1[j]) y (List.getElem?_eq_getElem hltj)
            rw [List.drop_eq_getElem_cons hltj, loopC] at hlj
            obtain ⟨env6, e6, hlj⟩ := bind_ok hlj
            obtain ⟨tc, e7, hlj⟩ := bind_ok hlj
            have e6 := ofO_ok e6
            obtain ⟨rn, kn, _⟩ := n1.fin bj.rel
            refine Blk.bind bj n1 hs1 e6 (fun i h => h) fun σ4 b7 hw4 => ⟨hw4, B, env6, G6, b7.rel, End.of_ok ?_ e7⟩
            intro b' H7 G7 r7 k7 hb
            cases hb
            have b8 := b7.later r7 k7
            have s7 := sj.trans (kn.sub.trans k7.sub)
            cases tc1 : tc.1 with
            | false =>
              rw [tc1] at hlj
              simp only [Bool.false_eq_true, if_false] at hlj ⊢
              refine ⟨tc.2, G7, accj, s7, ?_, hlj⟩
              have := b8.wipe (ws := tgNames tg1) htg1
              rw [hw4] at this
              exact this
            | true =>
              rw [tc1] at hlj
              simp only [if_true] at hlj ⊢
              obtain ⟨te, e8, hlj⟩ := bind_ok hlj
              refine ⟨B, tc.2, G7, b8.rel, End.of_ok ?_ e8⟩
              intro yv H9 G9 r9 k9 ry
              have b9 := b8.later r9 k9
              have ry : Rp K G9 yv te.1 := ry
              obtain ⟨accV, h6, h7, b6⟩ := b9.app ry
              split at hlj
              · rename_i hsz
                refine ⟨accV, h6, by rw [h7, ← line_eq]; exact hsz, te.2, G9, accj ++ [te.1], s7.trans k9.sub, ?_, hlj⟩
                have := b6.wipe (ws := tgNames tg1) htg1
                rw [hw4] at this
                exact this
              · cases hlj
          · have ej : j = ip.1.length := by omega
            subst ej
            refine .inl ⟨v2, ?_⟩
            rw [List.drop_length, loopC] at hlj
            cases hlj
            exact ⟨envj, Gj, accj, bj.out, hl⟩
      · have ei : i = p.1.length := by omega
        subst ei
        refine .inl ⟨w2, ?_⟩
        rw [List.drop_length, loopC2] at hl
        cases hl
        obtain ⟨r6, k6⟩ := Rel.back r1 hio b.keep b.rel
        obtain ⟨accV, h7, h8⟩ := b.at'
        exact h1 (.ref Da) H Gi r6 k6 ⟨Da, rfl, hD, b.gD, accV, h7, h8⟩
  · exact h1.elim
theorem u_comp2 {scope : Scope} {own : List (Str × Nat)} {tg it cs tg1 it1 cs1 el : Tx} {tge iter tge1 iter1 elt : Expr} {ifs ifs1 : List Expr} (hc : X.calm = true) (hN : X.N.Nodup) (ok : BlkOk X.N X.env.scope scope own) (hi : UI' X W F it tge iter)
    (hv : ∀ i ∈ tgNames tg1, i ∈ own.map (·.2))
    (hg : BX X scope fun Y => UG Y tg tge) (ht : BX X scope fun Y => UC Y WF F cs ifs) (hi1 : BX X scope fun Y => UI' Y WF F it1 tge1 iter1) (hg1 : BX X scope fun Y => UG Y tg1 tge1) (ht1 : BX X scope fun Y => UC Y WF F cs1 ifs1)
    (he : BX X scope fun Y => U3 Y WF F el elt) (hs : ∀ x, foldedSetIterable iter X.env x = pure x) (hs1 : ∀ env x, foldedSetIterable iter1 env x = pure x) :
    U3 X W F (.comp2 (own.map (·.2)) tg it cs tg1 it1 cs1 el) (.ListComp elt [⟨tge, iter, ifs, 0⟩, ⟨tge1, iter1, ifs1, 0⟩] scope pos) := by
  refine U3.mk' (pe_imp (pe_lc2 (vs1 := tgNames tg1) (wi1 := uG X.K WF (rI X.K) (denI F it1)) (g := tgOf X.K tg) (g1 := tgOf X.K tg1) (tt := uG X.K WF rB (denC F cs)) (tt1 := uG X.K WF rB (denC F cs1)) (te := uG X.K WF (rV X.K) (fun env => frz (denE F el env))) hc hN hi.I ok hv (fun s H C cl fp => (hg s H C cl fp).P) (fun s H C cl fp => (ht s H C cl fp).T) (fun s H C cl fp => (hi1 s H C cl fp).I) (fun s H C cl fp => (hg1 s H C cl fp).P) (fun s H C cl fp => (ht1 s H C cl fp).T) (fun s H C cl fp => (he s H C cl fp).V) hs hs1) fun σ H Q q => ?_) (by funext; rfl) fun _ => rfl
  exact lc2_read q
end
end U
end

section
namespace U
open PySem PySem.Spec PyProof.Rows L2

def abOk : Expr → Bool
  | .Call _ [] [] _ => false
  | _ => true
theorem ab_of {e : Expr} {f : Str} {env : PySem.Env} (h : abOk e = true) : attributeBase e f env (eval e env) = eval e env := by
  cases e with
  | Call g as ks p =>
    cases as with
    | nil =>
      cases ks with
      | nil => cases h
      | cons _ _ => cases g <;> rfl
    | cons _ _ => cases g <;> rfl
  | _ => rfl
theorem lenS (x : Str) : x.length = (tx x).length := (tx_len x).symm
theorem Str_ext {x y : Str} (h : tx x = tx y) : x = y := by
  cases x with | mk a => cases y with | mk b => exact congrArg Str.mk (Array.toList_inj.mp h)

section
variable {X : Cx}
/-- a method of one argument, the receiver's type known when it is asked -/
def tBMP (X : Cx) (name : Str) (to te : TE) : TE := fun σ H Q => to σ H fun x H1 => ∃ (T id : String) (r : V → List V → Hp → VK → Prop), PlainAttrs T ∧ PySem.Slot T name id ∧ typeOf (.builtin id) = pure (.type "method_descriptor") ∧ MtR X id r ∧ tyV X.K T x H1 ∧ te σ H1 fun y H2 => r x [y] H2 Q
theorem pe_bmP {o e : Expr} {name : Str} {apos cpos : Pos} {to te : TE} (ho : PE X o to) (he : PE X e te) (n : nst e = true)
    (hbase : attributeBase o name X.env (eval o X.env) = eval o X.env) (hline : (apos.endLine == cpos.line) = true) : PE X (.Call (.Attribute o name apos) [e] [] cpos) (tBMP X name to te) := by
  have ha : PA X [e] (tCons te tNil) := pa_cons he pa_nil (star_of n)
  have hs : starEach [e] X.env = (false, eval e X.env) :: starEach [] X.env := star_of n
  have hfew : ((backTo cpos (starEach [e] X.env)).all (fun x => !x.1) && (backToKw cpos (keywordEach [] X.env)).all (fun x => x.1.isSome)
      && decide (([e] : List Expr).length + ([] : List Keyword).length + (if ([] : List Keyword).isEmpty then 0 else 1) < 30)) = true := by
    rw [hs]; rfl
  refine ⟨fun pins s σ H Q I h => ?_⟩
  refine wpAny_Call_method_late hbase hfew hline rfl (thn (ho.run pins s σ H _ I h) fun v s1 ⟨x, H1, I1, r1, q1⟩ => ?_)
  obtain ⟨T, id, r, pa, slot, hty, hm, ty, q1⟩ := q1
  obtain ⟨h1, h2⟩ := tyV_is I1 r1 ty
  refine ⟨T, id, pa, slot, hty, h1, h2, ?_⟩
  have hA := ha.run cpos pins s1 σ H1 (fun vs H2 => r x vs H2 Q) I1 (show te σ H1 fun y H2 => r x [y] H2 Q from q1)
  rw [hs] at hA ⊢
  refine Calls.callWith_builtin rfl (Calls.evalArgs_plain ?_)
  exact thn hA fun us s2 ⟨vs, H2, I2, r2, q2⟩ => hm pins s2 σ H2 x vs v us Q I2 r1 r2 q2
end
/-- the method by name, at a receiver it is asked of -/
structure Me1 (X : Cx) (m : Me) (name : Str) : Prop where
  ex : ∀ (G H : Hp) (x : V) (d0 : D), Same G H → Vw X.K G H x d0 → meR m d0 = true → ∃ (T id : String) (r : V → List V → Hp → VK → Prop), PlainAttrs T ∧ PySem.Slot T name id ∧ typeOf (.builtin id) = pure (.type "method_descriptor") ∧ MtR X id r ∧ tyV X.K T x H ∧
    ∀ (G2 H2 : Hp) (d : D) (y : V) (dy : D) (s : Rs) (Q : V → Hp → Prop), Same G2 H2 → Vw X.K G2 H2 x d → knd d = knd d0 → Vw X.K G2 H2 y dy → meD m d [dy] = some s → (∀ v H' G', New X.K H2 G2 s v H' G' → Q v H') → r x [y] H2 Q
section
variable {X : Cx} {W : XW} {F : Fns} {e ea eb : Expr} {a b : Tx} {es : List Expr} {pos p : Pos}
theorem u_me1 {m : Me} {name : Str} {apos : Pos} (M : Me1 X m name) (ha : U3 X W F a ea) (hb : U3 X W F b eb) (n : nst eb = true) (hab : abOk ea = true) (hl : (apos.endLine == pos.line) = true) :
    U3 X W F (.me m a (.cons b .nil)) (.Call (.Attribute ea name apos) [eb] [] pos) := by
  refine U3.mk' (pe_imp (pe_bmP ha.O hb.O n (ab_of hab) hl) fun σ H Q q => ?_) (by funext; rfl) fun _ => rfl
  obtain ⟨B, env, G, rl, h⟩ := q
  simp only [denE, denOs] at h
  refine step (ρ := rO X.K) (f := opd a (denE F a)) rl h fun s v H1 G1 _ r1 k1 o1 h1 => ?_
  cases e0 : res s.2 s.1 with
  | none => rw [e0] at h1; exact h1.elim
  | some d0 =>
    rw [e0] at h1
    simp only [ofO, Out.bind] at h1
    split at h1
    · rename_i hm
      obtain ⟨T, id, r, pa, slot, hty, hmt, ty, fin⟩ := M.ex G1 H1 v d0 r1.sub (o1.view r1 e0) hm
      refine ⟨T, id, r, pa, slot, hty, hmt, ty, ?_⟩
      refine step (ρ' := rE X.K) (Q := Q) (ρ := rO X.K) (f := opd b (denE F b)) (g := fun t => (ofO (res t.2 s.1)).bind fun d => if knd d = knd d0 then (ofO (resAll t.2 [t.1])).bind fun ds => (ofO (meD m d ds)).bind fun r => .ok (r.toR, t.2) else .stuck) r1 ?_ fun t w H2 G2 _ r2 k2 o2 h2 => ?_
      · cases e1 : opd b (denE F b) s.2 with
        | ok t => rw [e1] at h1; exact h1
        | exn c env' => rw [e1] at h1; exact h1
        | stuck => rw [e1] at h1; exact h1
      · cases e1 : res t.2 s.1 with
        | none => rw [e1] at h2; exact h2.elim
        | some d =>
          rw [e1] at h2
          simp only [ofO, Out.bind] at h2
          split at h2
          · rename_i hk
            cases e2 : res t.2 t.1 with
            | none => simp [resAll, e2, ofO, Out.bind, End] at h2
            | some dx =>
              have e3 : resAll t.2 [t.1] = some [dx] := by simp [resAll, e2]
              rw [e3] at h2
              simp only [ofO, Out.bind] at h2
              cases e4 : meD m d [dx] with
              | none => rw [e4] at h2; exact h2.elim
              | some r =>
                rw [e4] at h2
                refine fin G2 H2 d w dx r Q r2.sub ((OpV.keep o1 k2.sub).view r2 e1) hk (o2.view r2 e2) e4 fun u H' G' n => ?_
                obtain ⟨r3, k3, n3⟩ := n.fin r2
                exact h2 u H' G' r3 k3 n3
          · exact h2.elim
    · exact h1.elim
theorem knd_str {d : D} (h : knd d = 3) : ∃ z, d = .str z := by cases d <;> first | exact ⟨_, rfl⟩ | cases h
theorem knd_list {d : D} (h : knd d = 4) : ∃ z, d = .list z := by cases d <;> first | exact ⟨_, rfl⟩ | cases h
theorem me_join : Me1 X .join "join" := by
  refine ⟨fun G H x d0 g vx hm => ?_⟩
  have hz : ∃ z, d0 = .str z := by cases d0 <;> first | exact ⟨_, rfl⟩ | cases hm
  obtain ⟨z, rfl⟩ := hz
  obtain ⟨rfl, hz⟩ := vx.str
  refine ⟨"str", _, _, F.plainAttrs_str, F.slot_str_join, F.type_str_join, mt_join, rfl, fun G2 H2 d y dy s Q g2 vd hk vy e q => ?_⟩
  obtain ⟨z', rfl⟩ := knd_str hk
  cases vd.str.1
  have fin : ∀ (ls : List (List Nat)) (ys : List Str), ls = ys.map tx → (∀ y ∈ ys, sOk (tx y) = true) → (ls.map (·.length)).sum + ls.length * (tx z).length ≤ line →
      (ys.map (·.length)).sum + ys.length * z.length ≤ 16777216 ∧ ((∀ v H' G', New X.K H2 G2 (.val (S (joinL (tx z) ls))) v H' G' → Q v H') → Q (.str (Txt.join z ys)) H2) := by
    intro ls ys e1 hy hl
    subst e1
    refine ⟨?_, fun q => q _ H2 G2 ⟨rfl, rfl, ?_⟩⟩
    · have : ((ys.map tx).map (·.length)) = ys.map (·.length) := by
        rw [List.map_map]
        exact List.map_congr_left fun y _ => tx_len y
      rw [this, List.length_map, tx_len] at hl
      exact hl
    · have h1 : tx (Txt.join z ys) = joinL (tx z) (ys.map tx) := by rw [TL.join_eq]; exact join_L z ys
      have h2 : Txt.join z ys = ⟨⟨joinL (tx z) (ys.map tx)⟩⟩ := Str_ext h1
      rw [h2]
      refine .str _ ?_
      show sOk (joinL (tx z) (ys.map tx)) = true
      rw [sOk, List.all_eq_true]
      intro c hc
      rcases joinL_mem _ _ c hc with w | ⟨l, hl, hcl⟩
      · exact List.all_eq_true.mp hz c w
      · obtain ⟨y, hy1, rfl⟩ := List.mem_map.mp hl
        exact List.all_eq_true.mp (hy y hy1) c hcl
  cases dy with
  | list ds =>
    simp only [meD, joinD, Option.bind_eq_some_iff] at e
    obtain ⟨ls, e1, e2⟩ := e
    split at e2
    · rename_i hl
      cases e2
      obtain ⟨p, vs, rfl, h1, r1⟩ := vy.list g2
      obtain ⟨ys, ev, el, hy⟩ := strsOf_v r1 e1
      obtain ⟨f1, f2⟩ := fin ls ys el hy hl
      exact ⟨z, p, ys, rfl, rfl, .inl (ev ▸ .inl (.inl h1)), f1, f2 q⟩
    · cases e2
  | tuple ds =>
    simp only [meD, joinD, Option.bind_eq_some_iff] at e
    obtain ⟨ls, e1, e2⟩ := e
    split at e2
    · rename_i hl
      cases e2
      obtain ⟨p, vs, rfl, h1, r1, _⟩ := vy.tup g2
      obtain ⟨ys, ev, el, hy⟩ := strsOf_v r1 e1
      obtain ⟨f1, f2⟩ := fin ls ys el hy hl
      exact ⟨z, p, ys, rfl, rfl, .inr (ev ▸ h1), f1, f2 q⟩
    · cases e2
  | _ => simp [meD] at e
end
end U
end

section
namespace U
open PySem PySem.Spec PyProof.Rows L2

/-! ### text.index(sign), text.count(sign) -/
open Builtin.Str StrLaws in
theorem occ_one (x y : Str) (hi : Nat) : ∀ (l : List Nat) (a : Nat) (free : Nat), (forIn l (#[a], free) (occBody x y hi 1)).run.fst = #[a]
  | [], a, free => by simp
  | b :: l, a, free => by
    rw [List.forIn_cons]
    unfold occBody
    rw [if_neg (by simp)]
    exact occ_one x y hi l a free
open Builtin.Str StrLaws in
theorem occ_first (x y : Str) (hi k : Nat) (hk : k + y.length ≤ hi ∧ subAt x y k = true) : ∀ (n lo free : Nat), free ≤ lo → lo ≤ k → k < lo + n → (∀ j, lo ≤ j → j < k → ¬ (j + y.length ≤ hi ∧ subAt x y j = true)) →
    (forIn (List.range' lo n) ((#[] : Array Nat), free) (occBody x y hi 1)).run.fst = #[k]
  | 0, lo, free, _, h1, h2, _ => by omega
  | n + 1, lo, free, hf, h1, h2, hno => by
    rw [List.range'_succ, List.forIn_cons]
    unfold occBody
    by_cases e : lo = k
    · subst e
      rw [if_pos ⟨⟨⟨by simp, hf⟩, hk.1⟩, hk.2⟩]
      exact occ_one x y hi _ lo _
    · rw [if_neg (fun h => hno lo (Nat.le_refl _) (by omega) ⟨h.1.2, h.2⟩)]
      exact occ_first x y hi k hk n (lo + 1) free (by omega) (by omega) (by omega) fun j hj => hno j (by omega)
theorem ixS_get {c : Nat} : ∀ {l : List Nat} {i : Nat}, ixS c l = some i → l[i]? = some c ∧ ∀ j, j < i → l[j]? ≠ some c
  | [], _, h => by cases h
  | d :: ds, i, h => by
    rw [ixS] at h
    split at h
    · rename_i e
      cases h
      exact ⟨by rw [e]; rfl, fun j hj => absurd hj (Nat.not_lt_zero _)⟩
    · rename_i e
      cases q : ixS c ds with
      | none => rw [q] at h; cases h
      | some k =>
        rw [q] at h
        cases h
        obtain ⟨h1, h2⟩ := ixS_get q
        refine ⟨by simpa using h1, fun j hj => ?_⟩
        cases j with
        | zero => simpa using e
        | succ j => simpa using h2 j (Nat.lt_of_succ_lt_succ hj)
open Builtin.Str StrLaws in
theorem occ_ix (x : Str) {c i : Nat} (h : ixS c (tx x) = some i) : occurrences x ⟨#[c]⟩ 0 x.length 1 = [i] := by
  obtain ⟨h1, h2⟩ := ixS_get h
  have hk := (subAt_one x c i).mpr h1
  have hl : i < x.length := by have := hk.1; simp [Str.length] at this ⊢; omega
  rw [occ_eq, occ_first x ⟨#[c]⟩ x.length i hk (x.length + 1 - 0) 0 0 (Nat.le_refl _) (Nat.zero_le _) (by omega) fun j _ hj z => h2 j hj ((subAt_one x c j).mp z)]
open Builtin.Str StrLaws in
theorem occ_cnt (x : Str) (c : Nat) : ∀ (n lo free : Nat) (acc : Array Nat), free ≤ lo → acc.size ≤ lo → lo + n ≤ x.length + 1 →
    (forIn (List.range' lo n) (acc, free) (occBody x ⟨#[c]⟩ x.length (x.length + 1))).run.fst.size = acc.size + ((tx x).drop lo |>.take n).countP fun d => decide (d = c)
  | 0, lo, free, acc, _, _, _ => by simp
  | n + 1, lo, free, acc, hf, ha, hn => by
    rw [List.range'_succ, List.forIn_cons]
    unfold occBody
    by_cases e : (tx x)[lo]? = some c
    · have hk := (subAt_one x c lo).mpr e
      rw [if_pos ⟨⟨⟨by show acc.size < x.length + 1; omega, hf⟩, hk.1⟩, hk.2⟩]
      have hl : lo < (tx x).length := (List.getElem?_eq_some_iff.mp e).1
      have ih := occ_cnt x c n (lo + 1) (lo + (⟨#[c]⟩ : Str).length) (acc.push lo) (Nat.le_refl _) (by simp; omega) (by omega)
      refine Eq.trans ih ?_
      rw [List.drop_eq_getElem_cons hl, List.take_succ_cons, List.countP_cons, (List.getElem?_eq_some_iff.mp e).2]
      simp
      omega
    · rw [if_neg (fun h => e ((subAt_one x c lo).mp ⟨h.1.2, h.2⟩))]
      have ih := occ_cnt x c n (lo + 1) free acc (by omega) (by omega) (by omega)
      refine Eq.trans ih ?_
      by_cases hl : lo < (tx x).length
      · rw [List.drop_eq_getElem_cons hl, List.take_succ_cons, List.countP_cons]
        have : ¬ (tx x)[lo] = c := fun z => e (by rw [List.getElem?_eq_getElem hl, z])
        simp [this]
      · rw [List.drop_eq_nil_of_le (by omega), List.drop_eq_nil_of_le (by omega)]
        simp
theorem count_one (x : Str) (c : Nat) : Txt.count x ⟨#[c]⟩ = (((tx x).countP fun d => decide (d = c) : Nat) : Int) := by
  unfold Txt.count
  rw [StrLaws.occ_eq]
  have h := occ_cnt x c (x.length + 1 - 0) 0 0 #[] (Nat.le_refl _) (by simp) (by omega)
  rw [Array.length_toList, h]
  have : (tx x).length = x.length := tx_len x
  simp
  rw [List.take_of_length_le (by omega)]
section
variable {X : Cx}
theorem ixD_get {x : D} : ∀ {l : List D} {i : Nat}, ixD x l = some i → ∃ z, l[i]? = some z ∧ eqD z x = true ∧ ∀ j z', j < i → l[j]? = some z' → eqD z' x = false
  | [], _, h => by cases h
  | d :: ds, i, h => by
    rw [ixD] at h
    split at h
    · rename_i e
      cases h
      exact ⟨d, rfl, e, fun j z' hj => absurd hj (Nat.not_lt_zero _)⟩
    · rename_i e
      cases q : ixD x ds with
      | none => rw [q] at h; cases h
      | some k =>
        rw [q] at h
        cases h
        obtain ⟨z, h1, h2, h3⟩ := ixD_get q
        refine ⟨z, by simpa using h1, h2, fun j z' hj hz => ?_⟩
        cases j with
        | zero => simp at hz; subst hz; simpa using e
        | succ j => exact h3 j z' (Nat.lt_of_succ_lt_succ hj) (by simpa using hz)
theorem me_index (hu : X.A.units + 65 < cLine) : Me1 X .index "index" := by
  refine ⟨fun G H x d0 g vx hm => ?_⟩
  cases d0 <;> first | (cases hm; done) | skip
  case str z =>
    obtain ⟨rfl, hz⟩ := vx.str
    refine ⟨"str", _, _, F.plainAttrs_str, F.slot_str_index, F.type_str_index, mt_sindex, rfl, fun G2 H2 d y dy s Q g2 vd hk vy e q => ?_⟩
    obtain ⟨z', rfl⟩ := knd_str hk
    cases vd.str.1
    cases dy with
    | str b =>
      obtain ⟨rfl, hb⟩ := vy.str
      simp only [meD] at e
      split at e
      · rename_i c hc
        cases q' : ixS c (tx z) with
        | none => rw [q'] at e; cases e
        | some i =>
          rw [q'] at e
          cases e
          have hb' := one_sign hc
          subst hb'
          exact ⟨z, _, i, [], rfl, rfl, occ_ix z q', q _ H2 G2 ⟨rfl, rfl, .int _⟩⟩
      · cases e
    | _ => simp [meD] at e
  case list xs =>
    obtain ⟨a, vs, rfl, h1, r1⟩ := vx.list g
    refine ⟨"list", _, _, F.plainAttrs_list, F.slot_list_index, F.type_list_index, mt_indexD hu, .inl ⟨rfl, vs, .inl (.inl h1)⟩, fun G2 H2 d y dy s Q g2 vd hk vy e q => ?_⟩
    obtain ⟨ds, rfl⟩ := knd_list hk
    simp only [meD] at e
    split at e
    · rename_i ok
      simp only [Bool.and_eq_true] at ok
      cases q' : ixD dy ds with
      | none => rw [q'] at e; cases e
      | some i =>
        rw [q'] at e
        cases e
        obtain ⟨z, h2, h3, h4⟩ := ixD_get q'
        refine ⟨a, y, dy, ds, i, z, rfl, rfl, vd.dp g2 (okD_nd ok.2), vy.dp g2 (okD_nd ok.1), vd.shaped ok.2, vy.shaped ok.1, h2, ?_, fun m z' hm hz => ?_, q _ H2 G2 ⟨rfl, rfl, .int _⟩⟩
        · rw [← eqD_eqv]; exact h3
        · rw [← eqD_eqv]; exact h4 m z' hm hz
    · cases e
/-- l.count(x) -/
def rCntD (K : PySem.W.Frag) : V → List V → Hp → VK → Prop := fun x xs H Q => ∃ (a : Addr) (y : V) (d : PyData) (ds : List PyData), x = V.ref a ∧ xs = [y] ∧ Dp K H (V.ref a) (.list ds) ∧ Dp K H y d ∧
  SeqAt.shaped (.list ds) = true ∧ SeqAt.shaped d = true ∧ Q (.int ((ds.countP fun z => PyData.eqv z d : Nat))) H
theorem mt_countD (hu : X.A.units + 65 < cLine) : MtR X "list.count" (rCntD X.K) := by
  intro pins s σ H x xs v us Q I rx rxs h
  obtain ⟨a, y, d, ds, rfl, rfl, hl, hy, sl, sd, q⟩ := h
  cases rx
  cases rxs with
  | cons ry rt =>
    rename_i uy ut
    cases rt
    obtain ⟨bs, r1⟩ := Dp.reads I d y uy hy ry
    have hxs : PyData.canLayAll0 ds = true := SeqAt.canLay_of_shaped sl
    have hroom : X.A.units + 1 + min (PyData.depthAll ds) d.depth < cLine := room_in_shaped sd hu
    cases hl with
    | lst hs ha =>
      obtain ⟨its, rv, ⟨⟨cls, dd, data, sls⟩, n, ho, hc, hdn, hdt⟩, hlen⟩ := I.list hs
      simp only at hc hdt
      subst hc hdt
      obtain ⟨as, h4⟩ := Dp.readsAll I ds _ its ha rv
      have hmap : its.map (SeqAt.readOf s.heap) = ds := SeqAt.readsAll_map ds its as hxs h4
      refine call_meets PySem.F.slot_list_count ⟨_, ho, rfl⟩ PySem.F.entry_list_count (PySem.F.args_list_count_2 _ _)
        (SeqAt.list_countAt a its.toArray n dd sls uy (fun u => PyData.eqv (SeqAt.readOf s.heap u) d)) ⟨ho, SeqAt.items_eqAt (vs := its.toArray) (show ReadsAll s.heap its.toArray.toList ds as from h4) r1 hxs (SeqAt.canLay_of_shaped sd) hroom, ?_⟩
      have ec : its.toArray.toList.countP (fun u => PyData.eqv (SeqAt.readOf s.heap u) d) = ds.countP fun z => PyData.eqv z d := by
        rw [← hmap, List.countP_map]; rfl
      refine ⟨.int ((ds.countP fun z => PyData.eqv z d : Nat)), H, I.tok _, ⟨s.toks, ?_⟩, q⟩
      rw [ec]
theorem me_count (hu : X.A.units + 65 < cLine) : Me1 X .count "count" := by
  refine ⟨fun G H x d0 g vx hm => ?_⟩
  cases d0 <;> first | (cases hm; done) | skip
  case str z =>
    obtain ⟨rfl, hz⟩ := vx.str
    refine ⟨"str", _, _, F.plainAttrs_str, F.slot_str_count, F.type_str_count, mt_count, rfl, fun G2 H2 d y dy s Q g2 vd hk vy e q => ?_⟩
    obtain ⟨z', rfl⟩ := knd_str hk
    cases vd.str.1
    cases dy with
    | str b =>
      obtain ⟨rfl, hb⟩ := vy.str
      simp only [meD] at e
      split at e
      · rename_i c hc
        cases e
        have hb' := one_sign hc
        subst hb'
        refine ⟨z, _, rfl, rfl, ?_⟩
        rw [count_one]
        exact q _ H2 G2 ⟨rfl, rfl, .int _⟩
      · cases e
    | _ => simp [meD] at e
  case list xs =>
    obtain ⟨a, vs, rfl, h1, r1⟩ := vx.list g
    refine ⟨"list", _, _, F.plainAttrs_list, F.slot_list_count, F.type_list_count, mt_countD hu, .inl ⟨rfl, vs, .inl (.inl h1)⟩, fun G2 H2 d y dy s Q g2 vd hk vy e q => ?_⟩
    obtain ⟨ds, rfl⟩ := knd_list hk
    simp only [meD] at e
    split at e
    · rename_i ok
      simp only [Bool.and_eq_true] at ok
      cases e
      refine ⟨a, y, dy, ds, rfl, rfl, vd.dp g2 (okD_nd ok.2), vy.dp g2 (okD_nd ok.1), vd.shaped ok.2, vy.shaped ok.1, ?_⟩
      have : (ds.countP fun z => PyData.eqv z dy) = ds.countP fun z => eqD z dy := by
        congr 1; funext z; exact (eqD_eqv z dy).symm
      rw [this]
      exact q _ H2 G2 ⟨rfl, rfl, .int _⟩
    · cases e
end
end U
end

section
namespace U
open PySem PySem.Spec PyProof.Rows L2

/-! ### statements read -/
def EndS (K : PySem.W.Frag) (W : XW) (B : Bs) (G : Hp) (Dn : Ends) : Out (Fl × Ev) → Prop
  | .ok (.next, env') => ∀ σ' H' G', Rel K B env' σ' H' G' → Same G G' → Dn.nx σ' H'
  | .ok (.brk, env') => ∀ σ' H' G', Rel K B env' σ' H' G' → Same G G' → Dn.bk σ' H'
  | .ok (.cnt, env') => ∀ σ' H' G', Rel K B env' σ' H' G' → Same G G' → Dn.ct σ' H'
  | .ok (.ret r, env') => ∀ v σ' H' G', Rel K B env' σ' H' G' → Same G G' → RV K B.H0 H' G' r v → Dn.rt v H'
  | .exn c env' => ∀ σ' H' G', Rel K B env' σ' H' G' → Same G G' → W c σ' H'
  | .stuck => False
def uS (K : PySem.W.Frag) (W : XW) (f : Ev → Out (Fl × Ev)) : TS := fun Dn σ H => ∃ B env G, Rel K B env σ H G ∧ EndS K W B G Dn (f env)
theorem EndS.later {K : PySem.W.Frag} {W : XW} {B : Bs} {G G1 : Hp} {Dn : Ends} {o : Out (Fl × Ev)} (h : EndS K W B G Dn o) (s : Same G G1) : EndS K W B G1 Dn o := by
  match o, h with
  | .ok (.next, _), h => exact fun σ' H' G' r q => h σ' H' G' r (s.trans q)
  | .ok (.brk, _), h => exact fun σ' H' G' r q => h σ' H' G' r (s.trans q)
  | .ok (.cnt, _), h => exact fun σ' H' G' r q => h σ' H' G' r (s.trans q)
  | .ok (.ret _, _), h => exact fun v σ' H' G' r q => h v σ' H' G' r (s.trans q)
  | .exn _ _, h => exact fun σ' H' G' r q => h σ' H' G' r (s.trans q)
/-- an expression, then the rest of a statement -/
theorem stepS {α β : Type} {K : PySem.W.Frag} {W : XW} {ρ : RT α β} {B : Bs} {env : Ev} {σ : St} {H G : Hp} {Dn : Ends} {Q1 : β → Hp → Prop} {f : Ev → Out (α × Ev)} {g : α × Ev → Out (Fl × Ev)}
    (r : Rel K B env σ H G) (h : EndS K W B G Dn ((f env).bind g))
    (next : ∀ p b H1 G1, f env = .ok p → Rel K B p.2 σ H1 G1 → Keep env σ H G p.2 H1 G1 → ρ.r σ H H1 G1 p.1 b → EndS K W B G1 Dn (g p) → Q1 b H1) : uG K W ρ f σ H Q1 := by
  refine ⟨B, env, G, r, ?_⟩
  cases e : f env with
  | ok p =>
    rw [e] at h
    exact fun b H1 G1 r1 k1 q => next p b H1 G1 e r1 k1 q (EndS.later h k1.sub)
  | exn c env' => rw [e] at h; exact fun H1 G1 r1 k1 => h σ H1 G1 r1 k1.sub
  | stuck => rw [e] at h; exact h

section
variable {K : PySem.W.Frag} {B : Bs} {env : Ev} {σ : St} {H G : Hp}
theorem Rel.bindOwn (r : Rel K B env σ H G) {i : Nat} {a : Addr} {o : Ow} (hg : G a = none) (w : OwAt K G H a o) (h0 : B.H0 a = none) (no : ∀ (j : Nat) (io : Bool) (p : Ow), j ≠ i → env[j]? = some (.own io p) → σ[j]? ≠ some (some (.ref a))) (hio : isIo env[i]? = false) :
    Rel K B (env.set i (.own false o)) (σ.set i (some (.ref a))) H G := by
  have look : ∀ (j : Nat) (x : Slot), (env.set i (.own false o))[j]? = some x → (j = i ∧ i < env.length ∧ x = .own false o) ∨ (i ≠ j ∧ env[j]? = some x) := fun j x q => by
    by_cases hj : i = j
    · subst hj
      rw [List.getElem?_set] at q
      simp only [if_true] at q
      split at q
      · rename_i hl
        cases q
        exact .inl ⟨rfl, hl, rfl⟩
      · cases q
    · rw [List.getElem?_set_ne hj] at q
      exact .inr ⟨hj, q⟩
  refine ⟨by rw [List.length_set, List.length_set]; exact r.len, fun j e q => ?_, fun j io p q => ?_, fun j k io jo p q' b e1 e2 s1 s2 => ?_, r.sub, r.g0, r.kept, fun b q => ?_⟩
  · rcases look j _ q with ⟨rfl, hl, z⟩ | ⟨hj, q⟩
    · cases z
    · rw [List.getElem?_set_ne hj]; exact r.val j e q
  · rcases look j _ q with ⟨rfl, hl, z⟩ | ⟨hj, q⟩
    · cases z
      exact ⟨a, by rw [List.getElem?_set_self (by rw [r.len]; exact hl)], hg, w, by simpa using h0⟩
    · rw [List.getElem?_set_ne hj]; exact r.own j io p q
  · rcases look j _ e1 with ⟨hj, hl, z⟩ | ⟨hj, f1⟩
    · rcases look k _ e2 with ⟨hk, hl', z'⟩ | ⟨hk, f2⟩
      · rw [hj, hk]
      · rw [hj, List.getElem?_set_self (by rw [r.len]; exact hl)] at s1
        cases s1
        rw [List.getElem?_set_ne hk] at s2
        exact absurd s2 (no k jo q' (Ne.symm hk) f2)
    · rcases look k _ e2 with ⟨hk, hl', z'⟩ | ⟨hk, f2⟩
      · rw [hk, List.getElem?_set_self (by rw [r.len]; exact hl')] at s2
        cases s2
        rw [List.getElem?_set_ne hj] at s1
        exact absurd s1 (no j io p (Ne.symm hj) f1)
      · rw [List.getElem?_set_ne hj] at s1
        rw [List.getElem?_set_ne hk] at s2
        exact r.dis j k io jo p q' b f1 f2 s1 s2
  · obtain ⟨h1, p, h2⟩ := r.m b q
    have h3 : i ≠ 0 := fun z => by subst z; exact isIo_no hio h2
    exact ⟨by rw [List.getElem?_set_ne h3]; exact h1, p, by rw [List.getElem?_set_ne h3]; exact h2⟩
/-- a result goes to a name -/
theorem Rel.asg {env0 : Ev} {H0 G0 : Hp} (r0 : Rel K B env0 σ H0 G0) (k : Keep env0 σ H0 G0 env H G) (r : Rel K B env σ H G) {i : Nat} {x : R} {v : V} (h : RV K H0 H G x v) {env' : Ev} (e : asgR i x env = .ok env') : Rel K B env' (σ.set i (some v)) H G := by
  unfold asgR at e
  split at e
  · cases e
  · rename_i hio
    have hio : isIo env[i]? = false := by simpa using hio
    cases x with
    | val d => cases e; exact r.bind h hio
    | fr o =>
      cases e
      obtain ⟨a, rfl, h1, h2, h3⟩ := h
      refine r.bindOwn h2 h3 (r0.h0free h1) (fun j io p hj e s => ?_) hio
      obtain ⟨p', e'⟩ := k.ownle j io p e
      obtain ⟨b, q1, _, q3, _⟩ := r0.own j io p' e'
      rw [s] at q1; cases q1
      obtain ⟨u, hu⟩ := q3.some
      rw [h1] at hu; cases hu
end

section
variable {X : Cx} {W : XW} {F : Fns} {e ea eb : Expr} {a b : Tx} {es : List Expr} {pos p : Pos} {st : Stmt} {sts : List Stmt} {x : Str}
structure US (X : Cx) (W : XW) (F : Fns) (s : St') (st : Stmt) : Prop where
  S : PS X st (uS X.K W (denS F s))
structure USs (X : Cx) (W : XW) (F : Fns) (s : St') (st : List Stmt) : Prop where
  S : PSs X st (uS X.K W (denS F s))
theorem us_pass : US X W F .nop (.Pass pos) := by
  refine ⟨ps_imp ps_pass fun Dn σ H q => ?_⟩
  obtain ⟨B, env, G, r, h⟩ := q
  exact h σ H G r (Same.refl _)
theorem us_doc {z : Str} {j : Nat} {p2 : Pos} : US X W F .nop (.Expr (.Constant (.str z) j p2) pos) := by
  refine ⟨ps_imp ps_doc fun Dn σ H q => ?_⟩
  obtain ⟨B, env, G, r, h⟩ := q
  exact h σ H G r (Same.refl _)
theorem uss_nil : USs X W F .nop [] := by
  refine ⟨pss_imp pss_nil fun Dn σ H q => ?_⟩
  obtain ⟨B, env, G, r, h⟩ := q
  exact h σ H G r (Same.refl _)
theorem EndS.seq {K : PySem.W.Frag} {B : Bs} {G : Hp} {Dn : Ends} {s t : St'} {env : Ev} (h : EndS K W B G Dn (denS F (.seq s t) env)) : EndS K W B G { Dn with nx := uS K W (denS F t) Dn } (denS F s env) := by
  simp only [denS] at h
  match e : denS F s env with
  | .ok (.next, env1) =>
    rw [e] at h
    exact fun σ' H' G' r s1 => ⟨B, env1, G', r, EndS.later h s1⟩
  | .ok (.brk, env1) => rw [e] at h; exact h
  | .ok (.cnt, env1) => rw [e] at h; exact h
  | .ok (.ret r, env1) => rw [e] at h; exact h
  | .exn c env1 => rw [e] at h; exact h
  | .stuck => rw [e] at h; exact h
theorem uss_cons {s t : St'} (h1 : US X W F s st) (h2 : USs X W F t sts) : USs X W F (.seq s t) (st :: sts) := by
  refine ⟨pss_imp (pss_cons h1.S h2.S) fun Dn σ H q => ?_⟩
  obtain ⟨B, env, G, r, h⟩ := q
  exact ⟨B, env, G, r, EndS.seq h⟩
theorem us_break : US X W F .brk (.Break pos) := by
  refine ⟨ps_imp ps_break fun Dn σ H q => ?_⟩
  obtain ⟨B, env, G, r, h⟩ := q
  exact h σ H G r (Same.refl _)
theorem us_continue : US X W F .cnt (.Continue pos) := by
  refine ⟨ps_imp ps_continue fun Dn σ H q => ?_⟩
  obtain ⟨B, env, G, r, h⟩ := q
  exact h σ H G r (Same.refl _)
theorem RV.base {K : PySem.W.Frag} {B : Bs} {env env' : Ev} {σ : St} {H G H1 G1 : Hp} {r : R} {v : V} (rl : Rel K B env σ H G) (h : RV K H H1 G1 r v) : RV K B.H0 H1 G1 r v := by
  cases r with
  | val d => exact h
  | fr o =>
    obtain ⟨a, e, h1, h2, h3⟩ := h
    exact ⟨a, e, rl.h0free h1, h2, h3⟩
theorem us_ret (ha : U3 X W F a e) : US X W F (.ret a) (.Return (some e) pos) := by
  refine ⟨ps_imp (ps_ret ha.E) fun Dn σ H q => ?_⟩
  obtain ⟨B, env, G, r, h⟩ := q
  simp only [denS] at h
  exact stepS (ρ := rE X.K) (f := denE F a) r h fun s v H1 G1 _ r1 k1 o1 h1 => h1 v σ H1 G1 r1 (Same.refl _) (RV.base (env' := env) r o1)
theorem us_retN : US X W F (.ret (.lit .none)) (.Return none pos) := by
  refine ⟨ps_imp ps_retN fun Dn σ H q => ?_⟩
  obtain ⟨B, env, G, r, h⟩ := q
  simp only [denS, denE] at h
  exact h .non σ H G r (Same.refl _) .non
theorem us_expr (ha : U3 X W F a e) (hs : swapsWith e none pos.line X.env = pure false) : US X W F (.expr a) (.Expr e pos) := by
  refine ⟨ps_imp (ps_expr ha.E hs) fun Dn σ H q => ?_⟩
  obtain ⟨B, env, G, r, h⟩ := q
  simp only [denS] at h
  exact stepS (ρ := rE X.K) (f := denE F a) r h fun s v H1 G1 _ r1 k1 o1 h1 => h1 σ H1 G1 r1 (Same.refl _)

/-! ### name = e -/
theorem set_read {i : Nat} {Dn : Ends} {σ : St} {H : Hp} {K : PySem.W.Frag} (q : uS K W (denS F (.asg (.slot i) a)) Dn σ H) : tAsg (uG K W (rE K) (denE F a)) (gName i) Dn σ H := by
  obtain ⟨B, env, G, r, h⟩ := q
  simp only [denS] at h
  refine stepS (ρ := rE K) (f := denE F a) r h fun s v H1 G1 _ r1 k1 o1 h1 => ?_
  cases e1 : asgR i s.1 s.2 with
  | ok env' =>
    rw [e1] at h1
    exact h1 _ H1 G1 (Rel.asg r k1 r1 o1 e1) (Same.refl _)
  | exn c env' => unfold asgR at e1; split at e1 <;> cases e1
  | stuck => rw [e1] at h1; exact h1.elim
theorem us_set {i : Nat} {p' : Pos} (hN : X.N.Nodup) (hi : X.N[i]? = some x) (hx : Loc X.env.scope x) (ha : U3 X W F a e) (hs : swapsWith e (some (.Name x p')) pos.line X.env = pure false) (hf : X.fn x = true ∨ X.env.scope.names.lookup x = some .local) :
    US X W F (.asg (.slot i) a) (.Assign [.Name x p'] e pos) := ⟨ps_imp (ps_set hN hi hx ha.E hs hf) fun Dn σ H q => set_read q⟩
theorem us_setLc {i : Nat} {py : Pos} {scope : Scope} {own : List (Str × Nat)} {tg it cs el : Tx} {tge iter elt : Expr} {ifs : List Expr} {spos : Pos} (hc : X.calm = true) (hN : X.N.Nodup) (hi' : X.N[i]? = some x) (hyl : X.env.scope.names.lookup x = some .local)
    (hsw : swapsWith (.ListComp elt [⟨tge, iter, ifs, 0⟩] scope pos) (some (.Name x py)) spos.line X.env = pure true) (ok : BlkOk X.N X.env.scope scope own) (hi : UI' X W F it tge iter)
    (hg : BX X scope fun Y => UG Y tg tge) (ht : BX X scope fun Y => UC Y WF F cs ifs) (he : BX X scope fun Y => U3 Y WF F el elt) (hs : ∀ x, foldedSetIterable iter X.env x = pure x) :
    US X W F (.asg (.slot i) (.comp (own.map (·.2)) tg it cs el)) (.Assign [.Name x py] (.ListComp elt [⟨tge, iter, ifs, 0⟩] scope pos) spos) := by
  refine ⟨ps_imp (ps_setLc (g := tgOf X.K tg) (tt := uG X.K WF rB (denC F cs)) (te := uG X.K WF (rV X.K) (fun env => frz (denE F el env))) hc hN hi' hyl hsw hi.I ok (fun s H C cl fp => (hg s H C cl fp).P) (fun s H C cl fp => (ht s H C cl fp).T) (fun s H C cl fp => (he s H C cl fp).V) hs) fun Dn σ H q => ?_⟩
  exact lc_read (set_read q)
theorem us_setLc2 {i : Nat} {py : Pos} {scope : Scope} {own : List (Str × Nat)} {tg it cs tg1 it1 cs1 el : Tx} {tge iter tge1 iter1 elt : Expr} {ifs ifs1 : List Expr} {spos : Pos} (hc : X.calm = true) (hN : X.N.Nodup) (hi' : X.N[i]? = some x) (hyl : X.env.scope.names.lookup x = some .local)
    (hsw : swapsWith (.ListComp elt [⟨tge, iter, ifs, 0⟩, ⟨tge1, iter1, ifs1, 0⟩] scope pos) (some (.Name x py)) spos.line X.env = pure true) (ok : BlkOk X.N X.env.scope scope own) (hi : UI' X W F it tge iter) (hv : ∀ i ∈ tgNames tg1, i ∈ own.map (·.2))
    (hg : BX X scope fun Y => UG Y tg tge) (ht : BX X scope fun Y => UC Y WF F cs ifs) (hi1 : BX X scope fun Y => UI' Y WF F it1 tge1 iter1) (hg1 : BX X scope fun Y => UG Y tg1 tge1) (ht1 : BX X scope fun Y => UC Y WF F cs1 ifs1)
    (he : BX X scope fun Y => U3 Y WF F el elt) (hs : ∀ x, foldedSetIterable iter X.env x = pure x) (hs1 : ∀ env x, foldedSetIterable iter1 env x = pure x) :
    US X W F (.asg (.slot i) (.comp2 (own.map (·.2)) tg it cs tg1 it1 cs1 el)) (.Assign [.Name x py] (.ListComp elt [⟨tge, iter, ifs, 0⟩, ⟨tge1, iter1, ifs1, 0⟩] scope pos) spos) := by
  refine ⟨ps_imp (ps_setLc2 (vs1 := tgNames tg1) (wi1 := uG X.K WF (rI X.K) (denI F it1)) (g := tgOf X.K tg) (g1 := tgOf X.K tg1) (tt := uG X.K WF rB (denC F cs)) (tt1 := uG X.K WF rB (denC F cs1)) (te := uG X.K WF (rV X.K) (fun env => frz (denE F el env)))
    hc hN hi' hyl hsw hi.I ok hv (fun s H C cl fp => (hg s H C cl fp).P) (fun s H C cl fp => (ht s H C cl fp).T) (fun s H C cl fp => (hi1 s H C cl fp).I) (fun s H C cl fp => (hg1 s H C cl fp).P) (fun s H C cl fp => (ht1 s H C cl fp).T) (fun s H C cl fp => (he s H C cl fp).V) hs hs1) fun Dn σ H q => ?_⟩
  exact lc2_read (set_read q)
/-! ### (..) = e -/
theorem us_tup {t : Tx} {tge : Expr} (ha : U3 X W F a e) (hg : UG X (.tup t) tge) (hs : swapsWithSole [tge] e pos.line X.env = pure false) (hw : swappedStores [tge] e X.env = pure none) (n : nst tge = true) : US X W F (.asg (.tup t) a) (.Assign [tge] e pos) := by
  refine ⟨ps_imp (ps_asg ha.V hg.P hs hw (by rw [assignEach_cons n]; rfl)) fun Dn σ H q => ?_⟩
  obtain ⟨B, env, G, r, h⟩ := q
  simp only [denS] at h
  refine stepS (ρ := rV X.K) (f := fun env => frz (denE F a env)) r h fun s v H1 G1 _ r1 k1 o1 h1 => ?_
  cases e1 : bindT (.tup t) s.1 s.2 with
  | none => rw [e1] at h1; exact h1.elim
  | some env' =>
    rw [e1] at h1
    exact tgOf_read (.tup t) r1 o1 e1 fun σ' r' _ => h1 σ' H1 G1 r' (Same.refl _)
/-- i, j = a, b -/
theorem us_par {i j : Nat} {y : Str} {px py pt : Pos} {kt k2 : Nat} {pt2 : Pos} (hc : X.calm = true) (hN : X.N.Nodup) (hi : X.N[i]? = some x) (hj : X.N[j]? = some y) (hij : i ≠ j)
    (hx : X.env.scope.names.lookup x = some .local) (hy : X.env.scope.names.lookup y = some .local) (ha : U3 X W F a ea) (hb : U3 X W F b eb) (n1 : nst ea = true) (n2 : nst eb = true)
    (hw : swappedStores [.Tuple [.Name x px, .Name y py] kt pt] (.Tuple [ea, eb] k2 pt2) X.env = pure (some [x, y])) (hs : swapsWithSole [.Tuple [.Name x px, .Name y py] kt pt] (.Tuple [ea, eb] k2 pt2) pos.line X.env = pure false) :
    US X W F (.par i j a b) (.Assign [.Tuple [.Name x px, .Name y py] kt pt] (.Tuple [ea, eb] k2 pt2) pos) := by
  refine ⟨ps_imp (ps_par hc hN hi hj hij hx hy (pa_cons ha.E (pa_cons hb.E pa_nil (star_of n2)) (star_of n1)) hw hs) fun Dn σ H q => ?_⟩
  obtain ⟨B, env, G, r, h⟩ := q
  simp only [denS] at h
  refine stepS (ρ := rE X.K) (f := denE F a) r h fun s v H1 G1 _ r1 k1 o1 h1 => ?_
  refine stepS (ρ := rE X.K) (f := denE F b) r1 h1 fun t w H2 G2 _ r2 k2 o2 h2 => ?_
  refine ⟨v, w, rfl, ?_⟩
  -- the first result as it stands behind the second
  have o1' : RV X.K H H2 G2 s.1 v := by
    cases e1 : s.1 with
    | val d =>
      have o1 : RV X.K H H1 G1 s.1 v := o1
      rw [e1] at o1
      exact Rp.same k2.sub o1
    | fr o =>
      have o1 : RV X.K H H1 G1 s.1 v := o1
      rw [e1] at o1
      obtain ⟨c, rfl, q1, q2, q3⟩ := o1
      obtain ⟨u, hu⟩ := q3.some
      have no : ¬ Owned s.2 σ c := fun z => by
        obtain ⟨l, io, o', e, s'⟩ := z.le k1.ownle
        obtain ⟨c', w1, _, w3, _⟩ := r.own l io o' e
        rw [s'] at w1; cases w1
        obtain ⟨u', hu'⟩ := w3.some
        rw [q1] at hu'; cases hu'
      obtain ⟨w1, w2⟩ := k2.heap c u hu no
      exact ⟨c, rfl, q1, w2.trans q2, q3.mono k2.sub fun z hz => by rw [hu] at hz; cases hz; exact w1⟩
  cases e1 : asgR i s.1 t.2 with
  | exn c env' => unfold asgR at e1; split at e1 <;> cases e1
  | stuck => rw [e1] at h2; exact h2.elim
  | ok env' =>
    rw [e1] at h2
    simp only [Out.bind] at h2
    have k12 := k1.trans k2
    have r3 := Rel.asg r k12 r2 o1' e1
    cases e2 : asgR j t.1 env' with
    | exn c env' => unfold asgR at e2; split at e2 <;> cases e2
    | stuck => rw [e2] at h2; exact h2.elim
    | ok env'' =>
      rw [e2] at h2
      refine h2 _ H2 G2 ?_ (Same.refl _)
      -- the second result goes to j
      unfold asgR at e2
      split at e2
      · cases e2
      · rename_i hio
        have hio : isIo env'[j]? = false := by simpa using hio
        cases e3 : t.1 with
        | val d =>
          rw [e3] at e2
          cases e2
          have o2 : RV X.K H1 H2 G2 t.1 w := o2
          rw [e3] at o2
          exact r3.bind o2 hio
        | fr o =>
          rw [e3] at e2
          cases e2
          have o2 : RV X.K H1 H2 G2 t.1 w := o2
          rw [e3] at o2
          obtain ⟨c, rfl, q1, q2, q3⟩ := o2
          refine r3.bindOwn q2 q3 (r1.h0free q1) (fun l io p' hl e4 s4 => ?_) hio
          unfold asgR at e1
          split at e1
          · cases e1
          · cases e1
            by_cases hli : i = l
            · subst hli
              have hlen : i < t.2.length := by
                have := (List.getElem?_eq_some_iff.mp e4).1
                rwa [List.length_set] at this
              rw [List.getElem?_set_self (by rw [r2.len]; exact hlen)] at s4
              cases s4
              rw [List.getElem?_set_self hlen] at e4
              cases e5 : s.1 with
              | val d => rw [e5] at e4; cases e4
              | fr o' =>
                have o1 : RV X.K H H1 G1 s.1 (.ref c) := o1
                rw [e5] at o1
                obtain ⟨c', w0, _, _, w3⟩ := o1
                cases w0
                obtain ⟨u', hu'⟩ := w3.some
                rw [q1] at hu'; cases hu'
            · rw [List.getElem?_set_ne hli] at e4 s4
              obtain ⟨p'', e5⟩ := k2.ownle l io p' e4
              obtain ⟨c', w1, _, w3, _⟩ := r1.own l io p'' e5
              rw [s4] at w1; cases w1
              obtain ⟨u', hu'⟩ := w3.some
              rw [q1] at hu'; cases hu'
end
end U
end

section
namespace U
open PySem PySem.Spec PyProof.Rows L2

/-- a name that is read -/
structure NmOk (X : Cx) (i : Nat) (x : Str) : Prop where
  hN : X.N[i]? = some x
  hv : Vis X.env.scope x
  hd : (x == ("__debug__" : Str)) = false
  hcd : (x == ("__classdict__" : Str)) = false
/-- a name that is stored to -/
structure NmSt (X : Cx) (i : Nat) (x : Str) : Prop where
  hN : X.N[i]? = some x
  hx : Loc X.env.scope x
  hf : X.fn x = true ∨ X.env.scope.names.lookup x = some .local
def nsl : Expr → Bool
  | .Slice _ _ _ _ => false
  | _ => true
theorem isL_own {o : Option Slot} (h : isL o = true) : ∃ io ds, o = some (.own io (.lst ds)) := by
  match o with
  | some (.own io (.lst ds)) => exact ⟨io, ds, rfl⟩
  | some (.own io (.dic ds)) => cases h
  | some .no => cases h
  | some (.val d) => cases h
  | none => cases h
section
variable {X : Cx} {W : XW} {F : Fns} {e ea eb : Expr} {a b : Tx} {es : List Expr} {pos p apos : Pos} {st : Stmt} {sts : List Stmt} {x : Str} {i : Nat}
theorem NmOk.pe (h : NmOk X i x) : PE X (.Name x p) (tVar i) := pe_var h.hN h.hv h.hd h.hcd
theorem few1 {env : PySem.Env} (n : nst e = true) : ((backTo pos (starEach [e] env)).all (fun x => !x.1) && (backToKw pos (keywordEach [] env)).all (fun x => x.1.isSome)
      && decide (([e] : List Expr).length + ([] : List Keyword).length + (if ([] : List Keyword).isEmpty then 0 else 1) < 30)) = true := by
  rw [star_of n]; rfl
theorem Rel.ownList {K : PySem.W.Frag} {B : Bs} {env : Ev} {σ : St} {H G : Hp} (r : Rel K B env σ H G) {io : Bool} {ds : List D} (e : env[i]? = some (.own io (.lst ds))) :
    ∃ c vs, σ[i]? = some (some (.ref c)) ∧ G c = none ∧ H c = some (.lst vs) ∧ Rps K G vs ds := by
  obtain ⟨c, h1, h2, ⟨vs, h3, h4⟩, _⟩ := r.own i io _ e
  exact ⟨c, vs, h1, h2, h3, h4⟩

/-! ### x.append(e), x.extend(e) -/
theorem us_app (h : NmOk X i x) (ha : U3 X W F a e) (n : nst e = true) (hl : (apos.endLine == pos.line) = true) {pos2 : Pos} : US X W F (.app i a) (.Expr (.Call (.Attribute (.Name x p) "append" apos) [e] [] pos) pos2) := by
  refine ⟨ps_imp (ps_expr (pe_bm PySem.F.plainAttrs_list PySem.F.slot_list_append PySem.F.type_list_append mt_append h.pe (pa_cons ha.V pa_nil (star_of n)) rfl (few1 n) hl (star_of n) rfl) rfl) fun Dn σ H q => ?_⟩
  obtain ⟨B, env, G, r, q⟩ := q
  simp only [denS] at q
  split at q
  · rename_i hL
    obtain ⟨io, ds, e0⟩ := isL_own hL
    obtain ⟨c, vs, h1, h2, h3, h4⟩ := r.ownList e0
    refine ⟨_, h1, .inl ⟨rfl, vs, .inl (.inl h3)⟩, ?_⟩
    refine stepS (ρ := rV X.K) (f := fun env => frz (denE F a env)) r q fun s v H1 G1 _ r1 k1 o1 q1 => ?_
    split at q1
    · rename_i io' ds' e1
      split at q1
      · rename_i hz
        obtain ⟨c', vs', w1, w2, w3, w4⟩ := r1.ownList e1
        rw [h1] at w1; cases w1
        refine ⟨c, vs', v, rfl, rfl, w3, by rw [w4.length, ← line_eq]; exact hz, ?_⟩
        obtain ⟨r2, k2⟩ := r1.write (o' := .lst (ds' ++ [s.1])) e1 h1 ⟨_, upd_same, w4.append (.cons o1 .nil)⟩
        exact q1 σ _ G1 r2 (Same.refl _)
      · exact q1.elim
    · exact q1.elim
  · exact q.elim
theorem us_ext (h : NmOk X i x) (ha : U3 X W F a e) (n : nst e = true) (hl : (apos.endLine == pos.line) = true) {pos2 : Pos} : US X W F (.ext i a) (.Expr (.Call (.Attribute (.Name x p) "extend" apos) [e] [] pos) pos2) := by
  refine ⟨ps_imp (ps_expr (pe_bm PySem.F.plainAttrs_list PySem.F.slot_list_extend PySem.F.type_list_extend mt_extend h.pe (pa_cons ha.V pa_nil (star_of n)) rfl (few1 n) hl (star_of n) rfl) rfl) fun Dn σ H q => ?_⟩
  obtain ⟨B, env, G, r, q⟩ := q
  simp only [denS] at q
  split at q
  · rename_i hL
    obtain ⟨io, ds, e0⟩ := isL_own hL
    obtain ⟨c, vs, h1, h2, h3, h4⟩ := r.ownList e0
    refine ⟨_, h1, .inl ⟨rfl, vs, .inl (.inl h3)⟩, ?_⟩
    refine stepS (ρ := rV X.K) (f := fun env => frz (denE F a env)) r q fun s v H1 G1 _ r1 k1 o1 q1 => ?_
    split at q1
    · rename_i io' ds' es' e1 e2
      split at q1
      · rename_i hz
        obtain ⟨c', vs', w1, w2, w3, w4⟩ := r1.ownList e1
        rw [h1] at w1; cases w1
        have o1 : Rp X.K G1 v s.1 := o1
        rw [e2] at o1
        cases o1 with
        | lst hb rb =>
          rename_i d zs
          refine ⟨c, _, vs', _, rfl, rfl, w3, r1.sub _ _ hb, by rw [w4.length, rb.length, ← line_eq]; exact hz, ?_⟩
          obtain ⟨r2, k2⟩ := r1.write (o' := .lst (ds' ++ es')) e1 h1 ⟨_, upd_same, w4.append rb⟩
          exact q1 σ _ G1 r2 (Same.refl _)
      · exact q1.elim
    · exact q1.elim
  · exact q.elim

/-! ### x.pop(), x.pop(k) -/
theorem ixAt_seq {n : Nat} {k : Int} {j : Nat} (h : ixAt n k = some j) : seqIndex? k n = some j := by
  obtain ⟨h1, _⟩ := ixN_seq h
  exact h1
theorem u_pop0 (h : NmOk X i x) (hl : (apos.endLine == pos.line) = true) : U3 X W F (.pop0 i) (.Call (.Attribute (.Name x p) "pop" apos) [] [] pos) := by
  refine U3.mk' (pe_imp (pe_bm0 PySem.F.plainAttrs_list PySem.F.slot_list_pop PySem.F.type_list_pop mt_pop h.pe rfl hl) fun σ H Q q => ?_) (by funext; rfl) fun _ => rfl
  obtain ⟨B, env, G, r, q⟩ := q
  simp only [denE] at q
  split at q
  · rename_i io ds e0
    split at q
    · rename_i d e1
      obtain ⟨c, vs, h1, h2, h3, h4⟩ := r.ownList e0
      obtain ⟨v, w1, w2⟩ := h4.get e1
      refine ⟨_, h1, .inl ⟨rfl, vs, .inl (.inl h3)⟩, c, vs, v, rfl, rfl, h3, by rw [h4.length]; exact w1, ?_⟩
      have hd : Rps X.K G vs.dropLast ds.dropLast := by
        rw [List.dropLast_eq_take, List.dropLast_eq_take, h4.length]; exact h4.take _
      obtain ⟨r2, k2⟩ := r.write (o' := .lst ds.dropLast) e0 h1 ⟨_, upd_same, hd⟩
      exact q v _ G r2 k2 w2
    · exact q.elim
  · exact q.elim
theorem u_popAt (h : NmOk X i x) (ha : U3 X W F a e) (n : nst e = true) (hl : (apos.endLine == pos.line) = true) : U3 X W F (.popAt i a) (.Call (.Attribute (.Name x p) "pop" apos) [e] [] pos) := by
  refine U3.mk' (pe_imp (pe_bm PySem.F.plainAttrs_list PySem.F.slot_list_pop PySem.F.type_list_pop mt_popAt h.pe (pa_cons ha.V pa_nil (star_of n)) rfl (few1 n) hl (star_of n) rfl) fun σ H Q q => ?_) (by funext; rfl) fun _ => rfl
  obtain ⟨B, env, G, r, q⟩ := q
  simp only [denE] at q
  split at q
  · rename_i hL
    obtain ⟨io, ds, e0⟩ := isL_own hL
    obtain ⟨c, vs, h1, h2, h3, h4⟩ := r.ownList e0
    refine ⟨_, h1, .inl ⟨rfl, vs, .inl (.inl h3)⟩, ?_⟩
    refine step (ρ := rV X.K) (f := fun env => frz (denE F a env)) r q fun s v H1 G1 _ r1 k1 o1 q1 => ?_
    split at q1
    · rename_i io' ds' j e1 e2
      split at q1
      · rename_i hj
        simp only [Bool.and_eq_true, decide_eq_true_eq] at hj
        split at q1
        · rename_i k e3
          split at q1
          · rename_i d e4
            obtain ⟨c', vs', w1, w2, w3, w4⟩ := r1.ownList e1
            rw [h1] at w1; cases w1
            have o1 : Rp X.K G1 v s.1 := o1
            rw [e2] at o1
            cases o1
            obtain ⟨v, w5, w6⟩ := w4.get e4
            refine ⟨c, vs', j, k, v, rfl, rfl, w3, hj.1, hj.2, ?_, w5, ?_⟩
            · rw [w4.length]; exact ixAt_seq e3
            · obtain ⟨r2, k2⟩ := r1.write (o' := .lst (ds'.eraseIdx k)) e1 h1 ⟨_, upd_same, w4.erase k⟩
              exact q1 v _ G1 r2 k2 w6
          · exact q1.elim
        · exact q1.elim
      · exact q1.elim
    · exact q1.elim
  · exact q.elim

/-! ### x[k] = e -/
theorem assign_sub {o i : Expr} {q : Pos} {env : PySem.Env} (h : nsl i = true) : ∀ v, assign (.Subscript o i q) env v = (do
      let ov ← holding [v] (eval o env)
      let iv ← holding [v, ov] (eval i env)
      standAt q
      holding [v, ov, iv] (setItem ov iv v)
      release [v, ov, iv] []) := by
  intro v
  cases i <;> first | rfl | cases h
theorem PSet.or {X : Cx} {t t' : TSet} (h : PSet X t) (h' : PSet X t') : PSet X (fun o i v H Q => t o i v H Q ∨ t' o i v H Q) := by
  intro pins s σ H o i v ov iv u Q I ro ri rv q
  rcases q with q | q
  · exact h pins s σ H o i v ov iv u Q I ro ri rv q
  · exact h' pins s σ H o i v ov iv u Q I ro ri rv q
theorem isDc_own {env : Ev} {i : Nat} (h : isDc env[i]? = true) : ∃ io ds, env[i]? = some (.own io (.dic ds)) := by
  unfold isDc at h
  split at h
  · rename_i io ds e; exact ⟨io, ds, e⟩
  · cases h
theorem us_setI (hu : X.A.units + 65 < cLine) (h : NmOk X i x) (hn : nsl eb = true) (hb : U3 X W F b eb) (ha : U3 X W F a e) {p2 : Pos} (hs : swapsWithSole [.Subscript (.Name x p) eb p2] e pos.line X.env = pure false) (hw : swappedStores [.Subscript (.Name x p) eb p2] e X.env = pure none) :
    US X W F (.setI i b a) (.Assign [.Subscript (.Name x p) eb p2] e pos) := by
  refine ⟨ps_imp (ps_asg ha.V (pg_sub h.pe hb.V (PSet.or set_list (set_dict (by omega))) (assign_sub hn)) hs hw (by rw [assignEach_cons rfl]; rfl)) fun Dn σ H q => ?_⟩
  obtain ⟨B, env, G, r, q⟩ := q
  simp only [denS] at q
  split at q
  · rename_i hL
    obtain ⟨io, ds, e0⟩ := isL_own hL
    obtain ⟨c, vs, h1, h2, h3, h4⟩ := r.ownList e0
    refine stepS (ρ := rV X.K) (f := fun env => frz (denE F a env)) r q fun s v H1 G1 _ r1 k1 o1 q1 => ?_
    refine ⟨_, h1, ?_⟩
    refine stepS (ρ := rV X.K) (f := fun env => frz (denE F b env)) r1 q1 fun t w H2 G2 _ r2 k2 o2 q2 => ?_
    split at q2
    · rename_i io' ds' j e1 e2
      split at q2
      · rename_i k e3
        obtain ⟨c', vs', w1, w2, w3, w4⟩ := r2.ownList e1
        rw [h1] at w1; cases w1
        have o2 : Rp X.K G2 w t.1 := o2
        rw [e2] at o2
        cases o2
        have o1 : Rp X.K G1 v s.1 := o1
        refine .inl ⟨c, vs', j, k, rfl, rfl, w3, by rw [w4.length]; exact e3, ?_⟩
        obtain ⟨r3, k3⟩ := r2.write (o' := .lst (ds'.set k s.1)) e1 h1 ⟨_, upd_same, Rps.set (o1.same k2.sub) k w4⟩
        exact q2 σ _ G2 r3 (Same.refl _)
      · exact q2.elim
    · exact q2.elim
  · split at q
    · rename_i hL
      obtain ⟨io, ds, e0⟩ := isDc_own hL
      obtain ⟨c, h1, h2, h3, h4⟩ := r.own i io _ e0
      refine stepS (ρ := rV X.K) (f := fun env => frz (denE F a env)) r q fun s v H1 G1 _ r1 k1 o1 q1 => ?_
      refine ⟨_, h1, ?_⟩
      refine stepS (ρ := rV X.K) (f := fun env => frz (denE F b env)) r1 q1 fun t w H2 G2 _ r2 k2 o2 q2 => ?_
      split at q2
      · rename_i io' ds' e1
        split at q2
        · rename_i hk
          simp only [Bool.and_eq_true, decide_eq_true_eq] at hk
          obtain ⟨c', w1, w2, ⟨kvs, w3, w4⟩, w5⟩ := r2.own i io' _ e1
          rw [h1] at w1; cases w1
          have o2 : Rp X.K G2 w t.1 := o2
          have o1 : Rp X.K G1 v s.1 := o1
          obtain ⟨k, ek, rfl, ks⟩ := Vw.key (H := H2) (.inl o2) hk.1
          refine .inr ⟨c, _, rfl, L2.DPut.k w3 (by rw [w4.len', ← line_eq]; exact hk.2), ?_⟩
          obtain ⟨r3, k3⟩ := r2.write (o' := .dic (dput ds' t.1 s.1)) e1 h1 ⟨_, upd_same, by rw [ek]; exact w4.put k ks (o1.same k2.sub)⟩
          exact q2 σ _ G2 r3 (Same.refl _)
        · exact q2.elim
      · exact q2.elim
    · exact q.elim

/-- x[k], y[l] = (a, b) -/
theorem us_set2 {j : Nat} {y : Str} {k l : Tx} {ek el : Expr} {p3 p4 p5 p6 : Pos} {kt k2 : Nat} (h : NmOk X i x) (h' : NmOk X j y) (hk : U3 X W F k ek) (hl : U3 X W F l el) (nk : nsl ek = true) (nl : nsl el = true)
    (ha : U3 X W F (.tup (.cons a (.cons b .nil))) e) (hc : X.calm = true)
    (hs : swapsWithSole [.Tuple [.Subscript (.Name x p) ek p3, .Subscript (.Name y p4) el p5] kt p6] e pos.line X.env = pure false) (hw : swappedStores [.Tuple [.Subscript (.Name x p) ek p3, .Subscript (.Name y p4) el p5] kt p6] e X.env = pure none) :
    US X W F (.set2 i k j l a b) (.Assign [.Tuple [.Subscript (.Name x p) ek p3, .Subscript (.Name y p4) el p5] kt p6] e pos) := by
  have g1 : PGs X [.Subscript (.Name x p) ek p3, .Subscript (.Name y p4) el p5] _ := pgs_cons (pg_sub h.pe hk.V set_list (assign_sub nk)) (pgs_cons (pg_sub h'.pe hl.V set_list (assign_sub nl)) pgs_nil (by rw [assignEach_cons rfl]; rfl)) (by rw [assignEach_cons rfl]; rfl)
  obtain ⟨l1, l2⟩ := assignEach_len (env := X.env) (es := [.Subscript (.Name x p) ek p3, .Subscript (.Name y p4) el p5]) rfl
  refine ⟨ps_imp (ps_asg ha.V (pg_tup (n := 2) hc g1 l1 l2) hs hw (by rw [assignEach_cons rfl]; rfl)) fun Dn σ H q => ?_⟩
  obtain ⟨B, env, G, r, q⟩ := q
  simp only [denS] at q
  split at q
  · rename_i hL
    simp only [Bool.and_eq_true] at hL
    obtain ⟨io, ds, e0⟩ := isL_own hL.1
    obtain ⟨jo, es, e0'⟩ := isL_own hL.2
    obtain ⟨c, vs, h1, h2, h3, h4⟩ := r.ownList e0
    obtain ⟨c', vs', h1', _⟩ := r.ownList e0'
    refine stepS (ρ := rV X.K) (f := fun env => frz (denE F (.tup (.cons a (.cons b .nil))) env)) r q fun s v H1 G1 _ r1 k1 o1 q1 => ?_
    split at q1
    · rename_i dx dy e1
      have o1 : Rp X.K G1 v s.1 := o1
      rw [e1] at o1
      cases o1 with
      | tup hq hr =>
        cases hr with
        | cons rx hr =>
          cases hr with
          | cons ry hr =>
            cases hr
            refine ⟨_, _, rfl, sqt_same r1.sub hq, rfl, _, _, rfl, ⟨_, h1, ?_⟩⟩
            refine stepS (ρ := rV X.K) (f := fun env => frz (denE F k env)) r1 q1 fun t w H2 G2 _ r2 k2 o2 q2 => ?_
            split at q2
            · rename_i io' ds' n e2 e3
              split at q2
              · rename_i m e4
                obtain ⟨c2, vs2, w1, w2, w3, w4⟩ := r2.ownList e2
                rw [h1] at w1; cases w1
                have o2 : Rp X.K G2 w t.1 := o2
                rw [e3] at o2
                cases o2
                refine ⟨c, vs2, n, m, rfl, rfl, w3, by rw [w4.length]; exact e4, ?_⟩
                obtain ⟨r3, k3⟩ := r2.write (o' := .lst (ds'.set m dx)) e2 h1 ⟨_, upd_same, Rps.set (rx.same k2.sub) m w4⟩
                refine ⟨_, _, rfl, ⟨_, h1', ?_⟩⟩
                refine stepS (ρ := rV X.K) (f := fun env => frz (denE F l env)) r3 q2 fun t3 w' H4 G4 _ r4 k4 o4 q4 => ?_
                split at q4
                · rename_i jo' es' n' e5 e6
                  split at q4
                  · rename_i m' e7
                    obtain ⟨c4, vs4, u1, u2, u3, u4⟩ := r4.ownList e5
                    rw [h1'] at u1; cases u1
                    have o4 : Rp X.K G4 w' t3.1 := o4
                    rw [e6] at o4
                    cases o4
                    refine ⟨c', vs4, n', m', rfl, rfl, u3, by rw [u4.length]; exact e7, ?_⟩
                    obtain ⟨r5, k5⟩ := r4.write (o' := .lst (es'.set m' dy)) e5 h1' ⟨_, upd_same, Rps.set (ry.same (k2.sub.trans (k3.sub.trans k4.sub))) m' u4⟩
                    exact ⟨rfl, q4 σ _ G4 r5 (Same.refl _)⟩
                  · exact q4.elim
                · exact q4.elim
              · exact q2.elim
            · exact q2.elim
    · exact q1.elim
  · exact q.elim

/-! ### x += e, x -= e -/
theorem us_aug {sub : Bool} (h : NmSt X i x) (hN : X.N.Nodup) (ha : U3 X W F a e) : US X W F (.aug i sub a) (.AugAssign (.Name x p) (if sub then .Sub else .Add) e pos) := by
  have ip : PIp X (if sub then Operator.Sub else Operator.Add) (ipI fun i j => if sub then i - j else i + j) := by
    cases sub
    · exact ip_add
    · exact ip_sub
  refine ⟨ps_imp (ps_aug hN h.hN h.hx ha.V ip h.hf) fun Dn σ H q => ?_⟩
  obtain ⟨B, env, G, r, q⟩ := q
  simp only [denS] at q
  split at q
  · rename_i z e0
    obtain ⟨v, h1, h2⟩ := r.val i _ e0
    cases h2
    refine ⟨_, h1, ?_⟩
    refine stepS (ρ := rV X.K) (f := fun env => frz (denE F a env)) r q fun s v H1 G1 _ r1 k1 o1 q1 => ?_
    split at q1
    · rename_i y e1
      have o1 : Rp X.K G1 v s.1 := o1
      rw [e1] at o1
      cases o1
      refine ⟨z, y, rfl, rfl, ?_⟩
      refine q1 _ H1 G1 (r1.bind (.int _) ?_) (Same.refl _)
      rw [k1.vals i _ e0]; rfl
    · exact q1.elim
  · exact q.elim

/-! ### if, for, while, raise -/
theorem us_if {c : Tx} {ec : Expr} {s t : St'} {sa sb : List Stmt} (hc : U3 X W F c ec) (n : noT c = false) (ha : USs X W F s sa) (hb : USs X W F t sb) : US X W F (.ifs c s t) (.If ec sa sb pos) := by
  refine ⟨ps_imp (ps_if (hc.T n) ha.S hb.S) fun Dn σ H q => ?_⟩
  obtain ⟨B, env, G, r, q⟩ := q
  simp only [denS] at q
  refine stepS (ρ := rB) (f := tst (opd c (denE F c))) r q fun s' v H1 G1 _ r1 k1 o1 q1 => ?_
  cases o1
  cases e1 : s'.1 with
  | true =>
    rw [e1] at q1
    exact ⟨B, s'.2, G1, r1, q1⟩
  | false =>
    rw [e1] at q1
    exact ⟨B, s'.2, G1, r1, q1⟩
theorem us_for {tg it : Tx} {tge iter : Expr} {s : St'} {body : List Stmt} (hp : PassesOwn (model X.prog X.w) X.A X.env X.xe) (hc : X.calm = true) (hi : UI' X W F it tge iter) (hg : UG X tg tge) (hb : USs X W F s body) (hs : ∀ x, foldedSetIterable iter X.env x = pure x) :
    US X W F (.loop tg it s) (.For tge iter body [] pos) := by
  refine ⟨ps_imp (ps_for hp hc hi.I hg.P hb.S hs) fun Dn σ H q => ?_⟩
  obtain ⟨B, env, G, r, q⟩ := q
  simp only [denS] at q
  refine stepS (ρ := rI X.K) (f := denI F it) r q fun p' J H1 G1 _ r1 k1 o1 q1 => ?_
  have o1 : WalkD X.K G1 p'.1 J := o1
  refine ⟨fun i m σ H => m = p'.1.length - i ∧ i ≤ p'.1.length ∧ ∃ envi Gi, Rel X.K B envi σ H Gi ∧ Same G1 Gi ∧ EndS X.K W B Gi Dn (loopS (bindT tg) (denS F s) (p'.1.drop i) envi),
    ⟨p'.1.length, rfl, Nat.zero_le _, p'.2, G1, r1, Same.refl _, q1⟩, ?_⟩
  rintro i m σ H ⟨rfl, hi, envi, Gi, ri, si, qi⟩
  obtain ⟨w1, w2, w3⟩ := o1 Gi H si ri.sub
  by_cases hlt : i < p'.1.length
  · refine .inr ⟨w1 i hlt, fun σ' H' => ∃ envi Gi, Rel X.K B envi σ' H' Gi ∧ Same G1 Gi ∧ EndS X.K W B Gi Dn (loopS (bindT tg) (denS F s) (p'.1.drop (i + 1)) envi),
      fun σ' H' n => ⟨p'.1.length - (i + 1), by omega, rfl, hlt, n⟩, fun x H' y => ?_⟩
    obtain ⟨sx, G2, hs, n⟩ := w3 i x H' (p'.1[i]) y (List.getElem?_eq_getElem hlt)
    obtain ⟨r2, k2, n2⟩ := n.fin ri
    rw [hs] at n2
    rw [List.drop_eq_getElem_cons hlt, loopS] at qi
    cases e1 : bindT tg p'.1[i] envi with
    | none => rw [e1] at qi; exact qi.elim
    | some env2 =>
      rw [e1] at qi
      simp only [ofO, Out.bind] at qi
      refine tgOf_read tg r2 n2 e1 fun σ3 r3 _ => ⟨B, env2, G2, r3, ?_⟩
      have qi := EndS.later qi k2.sub
      have s2 := si.trans k2.sub
      match e2 : denS F s env2 with
      | .ok (.next, env3) =>
        rw [e2] at qi
        exact fun σ' H' G' r' s' => ⟨env3, G', r', s2.trans s', EndS.later qi s'⟩
      | .ok (.cnt, env3) =>
        rw [e2] at qi
        exact fun σ' H' G' r' s' => ⟨env3, G', r', s2.trans s', EndS.later qi s'⟩
      | .ok (.brk, env3) => rw [e2] at qi; exact qi
      | .ok (.ret v, env3) => rw [e2] at qi; exact qi
      | .exn c env3 => rw [e2] at qi; exact qi
      | .stuck => rw [e2] at qi; exact qi
  · have ei : i = p'.1.length := by omega
    subst ei
    refine .inl ⟨w2, ?_⟩
    rw [List.drop_length, loopS] at qi
    exact qi σ H Gi ri (Same.refl _)
theorem us_while {c : Tx} {ec : Expr} {s : St'} {body : List Stmt} (hp : PassesOwn (model X.prog X.w) X.A X.env X.xe) (hc : U3 X W F c ec) (n : noT c = false) (hb : USs X W F s body) : US X W F (.whil c s) (.While ec body [] pos) := by
  refine ⟨ps_imp (ps_while hp (hc.T n) hb.S) fun Dn σ H q => ?_⟩
  obtain ⟨B, env, G, r, q⟩ := q
  simp only [denS] at q
  refine ⟨fun m σ H => ∃ envi Gi, Rel X.K B envi σ H Gi ∧ EndS X.K W B Gi Dn (whileS (tst (opd c (denE F c))) (denS F s) m envi), ⟨fuel, env, G, r, q⟩, ?_⟩
  rintro m σ H ⟨envi, Gi, ri, qi⟩
  cases m with
  | zero => exact qi.elim
  | succ m =>
    rw [whileS] at qi
    refine stepS (ρ := rB) (f := tst (opd c (denE F c))) ri qi fun s' v H1 G1 _ r1 k1 o1 q1 => ?_
    cases o1
    cases e1 : s'.1 with
    | true =>
      rw [e1] at q1
      simp only [if_true] at q1 ⊢
      refine ⟨fun σ' H' => ∃ envi Gi, Rel X.K B envi σ' H' Gi ∧ EndS X.K W B Gi Dn (whileS (tst (opd c (denE F c))) (denS F s) m envi), fun σ' H' n => ⟨m, Nat.lt_succ_self _, n⟩, B, s'.2, G1, r1, ?_⟩
      match e2 : denS F s s'.2 with
      | .ok (.next, env3) =>
        rw [e2] at q1
        exact fun σ' H' G' r' s' => ⟨env3, G', r', EndS.later q1 s'⟩
      | .ok (.cnt, env3) =>
        rw [e2] at q1
        exact fun σ' H' G' r' s' => ⟨env3, G', r', EndS.later q1 s'⟩
      | .ok (.brk, env3) => rw [e2] at q1; exact q1
      | .ok (.ret v, env3) => rw [e2] at q1; exact q1
      | .exn c env3 => rw [e2] at q1; exact q1
      | .stuck => rw [e2] at q1; exact q1
    | false =>
      rw [e1] at q1
      simp only [Bool.false_eq_true, if_false] at q1 ⊢
      exact q1 σ H1 G1 r1 (Same.refl _)
theorem us_raise {cls : Nat → Value} {k : Nat} {Ca : Addr} {bmB : List Value} {Bn newId initId : String} {m : Str} {j : Nat} {p2 pos2 : Pos} (hc : X.calm = true) (tk : Takes X (wx cls W)) (Fx : ExcBaseFacts Bn newId initId bmB) (q : PySem.W.excIn X.K Ca bmB newId = true)
    (gC : X.mg x = some (.ref Ca)) (kC : PySem.W.keepIn X.K (.ref Ca) = true) (r : Raises X (.ref Ca)) (hg : Gl X x) (hdb : (x == ("__debug__" : Str)) = false) (hk : cls k = .ref Ca) :
    US X W F (.raise k) (.Raise (some (.Call (.Name x p) [.Constant (.str m) j p2] [] pos)) none pos2) := by
  refine ⟨ps_imp (ps_raise hc tk (pmk_own Fx q gC kC r hg hdb)) fun Dn σ H q => ?_⟩
  obtain ⟨B, env, G, r, q⟩ := q
  exact ⟨k, hk, q σ H G r (Same.refl _)⟩
end
end U
end

section
namespace U
open PySem PySem.Spec PyProof.Rows L2

/-- what the text's names stand for -/
structure Cf where
  N : List Str
  fns : Str → Option (Nat × Bool)
  glob : Str → Option D
  exc : Str → Option Nat
  free : Str → Bool
def kB (sc : Scope) (x : Str) (k : NameKind) : Bool := match sc.names.lookup x with
  | some j => j == k
  | none => false
theorem kB_ok {sc : Scope} {x : Str} {k : NameKind} (h : kB sc x k = true) : sc.names.lookup x = some k := by
  unfold kB at h
  split at h
  · rename_i j e
    rw [e, eq_of_beq h]
  · cases h
def relS (scope sc : Scope) : Scope := { scope with names := scope.names.map fun (n, k) => if (k == .free && sc.kind == .function && sc.names.lookup n == some .cell) then (n, .cell) else (n, k) }
theorem relS_eq {scope : Scope} {env : PySem.Env} : relabel scope env = relS scope env.scope := rfl

structure Gd (c : Cf) (F : Fns) (cls : Nat → Value) (sc : Scope) (bk : Option Scope) (X : Cx) (W : XW) : Prop where
  N : X.N = c.N
  sc : X.env.scope = sc
  C : Cc X W cls
  fnF : ∀ nm f, c.fns nm = some (f, false) → Ff X cls (spF X.K cls (F.call f)) nm
  fnM : ∀ nm f, c.fns nm = some (f, true) → Ff X cls (spM X.K cls (F.callM f)) nm
  gl : ∀ nm d, c.glob nm = some d → ∃ v u, X.mg nm = some u ∧ RelV v u ∧ ∀ G, Rp X.K G v d
  fr : ∀ nm, c.free nm = true → X.mg nm = none
  ex : ∀ nm k, c.exc nm = some k → ∃ Ca, cls k = .ref Ca ∧ PySem.W.excIn X.K Ca He.veBase "ValueError.__new__" = true ∧ X.mg nm = some (.ref Ca) ∧ PySem.W.keepIn X.K (.ref Ca) = true ∧ Raises X (.ref Ca)
  fn0 : bk = none → ∀ x, X.fn x = true
  fn1 : ∀ raw, bk = some raw → ∀ x, X.fn x = (raw.names.lookup x == some .cell)
  pass : bk = none → PassesOwn (model X.prog X.w) X.A X.env X.xe

section
variable {c : Cf} {F : Fns} {cls : Nat → Value} {sc : Scope} {bk : Option Scope} {X : Cx} {W : XW}
theorem Gd.nd (g : Gd c F cls sc bk X W) : c.N.Nodup := g.N ▸ g.C.nd
theorem Gd.blk (g : Gd c F cls sc bk X W) (scope : Scope) (s : Shared) (H : Hp) (C : Addr) (cl : List (Str × Addr)) (fp : List Addr) :
    Gd c F cls (relS scope sc) (some scope) (X.blk s H scope (compEnvC scope cl C X.env) fp) WF where
  N := g.N
  sc := by
    show relabel scope X.env = _
    rw [relS_eq, g.sc]
  C := ⟨g.C.calm, g.C.nd, g.C.hu, fun u s' x => by
    obtain ⟨_, _, _, _, _, _, _, _, _, _, _, _, _, _, _, _, k, _, z⟩ := x
    exact z.elim⟩
  fnF := fun nm f h => ⟨(g.fnF nm f h).ex⟩
  fnM := fun nm f h => ⟨(g.fnM nm f h).ex⟩
  gl := g.gl
  fr := g.fr
  ex := g.ex
  fn0 := fun h => by cases h
  fn1 := fun raw h x => by cases h; rfl
  pass := fun h => by cases h
def nmB (c : Cf) (sc : Scope) (i : Nat) (x : Str) : Bool := decide (c.N[i]? = some x) && (kB sc x .local || kB sc x .cell || kB sc x .free) && !(x == ("__debug__" : Str)) && !(x == ("__classdict__" : Str))
theorem nmB_ok (g : Gd c F cls sc bk X W) {i : Nat} {x : Str} (h : nmB c sc i x = true) : NmOk X i x := by
  simp only [nmB, Bool.and_eq_true, Bool.or_eq_true, decide_eq_true_eq, Bool.not_eq_true'] at h
  obtain ⟨⟨⟨h1, h2⟩, h3⟩, h4⟩ := h
  refine ⟨g.N ▸ h1, ?_, h3, h4⟩
  rw [g.sc]
  rcases h2 with (h2 | h2) | h2
  · exact .inl (kB_ok h2)
  · exact .inr (.inl (kB_ok h2))
  · exact .inr (.inr (kB_ok h2))
def stB (c : Cf) (sc : Scope) (bk : Option Scope) (i : Nat) (x : Str) : Bool := decide (c.N[i]? = some x) && (kB sc x .local || (kB sc x .cell && match bk with | none => true | some raw => kB raw x .cell))
theorem stB_ok (g : Gd c F cls sc bk X W) {i : Nat} {x : Str} (h : stB c sc bk i x = true) : NmSt X i x := by
  simp only [stB, Bool.and_eq_true, Bool.or_eq_true, decide_eq_true_eq] at h
  obtain ⟨h1, h2⟩ := h
  rcases h2 with h2 | ⟨h2, h3⟩
  · have := kB_ok h2
    rw [← g.sc] at this
    exact ⟨g.N ▸ h1, .inl this, .inr this⟩
  · have := kB_ok h2
    rw [← g.sc] at this
    refine ⟨g.N ▸ h1, .inr this, .inl ?_⟩
    cases hb : bk with
    | none => exact g.fn0 hb x
    | some raw =>
      rw [g.fn1 raw hb x]
      rw [hb] at h3
      rw [kB_ok h3]; rfl
def glB (sc : Scope) (x : Str) : Bool := kB sc x .globalImplicit
theorem glB_ok (g : Gd c F cls sc bk X W) {x : Str} (h : glB sc x = true) : Gl X x := by
  show X.env.scope.names.lookup x = some .globalImplicit
  rw [g.sc]; exact kB_ok h
theorem Gd.free (g : Gd c F cls sc bk X W) {x : Str} (h : c.free x = true) : X.mg x = none := g.fr x h

/-! ### the built-ins by name -/
structure BiOk (X : Cx) (f : Bi) (nm : Str) : Prop where
  ex : (∃ r id, CallR X (.builtin id) r ∧ CallOk X r (biD f) ∧ bootBuiltins nm = some (.builtin id)) ∨ ∃ r T, CallR X (.type T) r ∧ CallOk X r (biD f) ∧ bootBuiltins nm = some (.type T)
  hn : nm ≠ "__name__"
  hd : (nm == ("__debug__" : Str)) = false
def biNm : Bi → Option Str
  | .len => some "len" | .abs => some "abs" | .int => some "int" | .str => some "str" | .list => some "list" | .tuple => some "tuple"
  | .sum => some "sum" | .min => some "min" | .max => some "max" | .all => some "all" | .any => some "any" | .sorted => some "sorted" | _ => none
theorem biOk_of (C : Cc X W cls) {f : Bi} {nm : Str} (h : biNm f = some nm) : BiOk X f nm := by
  cases f <;> cases h
  · exact ⟨.inl ⟨_, _, call_len.or call_lenD, len_ok, boot_len⟩, by decide, by decide⟩
  · exact ⟨.inl ⟨_, _, call_abs, abs_ok, PyProof.Rows.boot_abs⟩, by decide, by decide⟩
  · exact ⟨.inr ⟨_, _, call_int1, int_ok, PyProof.Rows.boot_int⟩, by decide, by decide⟩
  · exact ⟨.inr ⟨_, _, SkE.call_str_str, str_ok, PyProof.Rows.boot_str⟩, by decide, by decide⟩
  · exact ⟨.inr ⟨_, _, call_list_of.or (call_list_str' C.calm), list_ok, PyProof.Rows.boot_list⟩, by decide, by decide⟩
  · exact ⟨.inr ⟨_, _, call_tuple_of.or (call_tuple_str' C.calm), tuple_ok, PyProof.Rows.boot_tuple⟩, by decide, by decide⟩
  · exact ⟨.inl ⟨_, _, cr_sum C.calm, sum_ok, PyProof.Rows.boot_sum⟩, by decide, by decide⟩
  · exact ⟨.inl ⟨_, _, (call_min2 C.calm).or (cr_min C.calm), min_ok, PyProof.Rows.boot_min⟩, by decide, by decide⟩
  · exact ⟨.inl ⟨_, _, (call_max2 C.calm).or (cr_max C.calm), max_ok, PyProof.Rows.boot_max⟩, by decide, by decide⟩
  · exact ⟨.inl ⟨_, _, cr_all C.calm, all_ok, PyProof.Rows.boot_all⟩, by decide, by decide⟩
  · exact ⟨.inl ⟨_, _, cr_any C.calm, any_ok, PyProof.Rows.boot_any⟩, by decide, by decide⟩
  · exact ⟨.inl ⟨_, _, cr_sortedU C.calm (by have := C.hu; omega), sorted_ok, PyProof.Rows.boot_sorted⟩, by decide, by decide⟩
theorem u_bi {f : Bi} {nm : Str} {x : Tx} {e : Expr} {es : List Expr} {p pos : Pos} (h : BiOk X f nm) (hg : Gl X nm) (hm : X.mg nm = none) (ha : UA X W F x (e :: es)) : U3 X W F (.bi f x) (.Call (.Name nm p) (e :: es) [] pos) := by
  rcases h.ex with ⟨r, id, h1, h2, h3⟩ | ⟨r, T, h1, h2, h3⟩
  · exact u_biB h1 h2 hg hm h3 ha h.hn h.hd
  · exact u_biT h1 h2 hg hm h3 ha h.hn h.hd
def meNm : Me → Option Str
  | .join => some "join" | .index => some "index" | .count => some "count"
theorem me_of (C : Cc X W cls) {m : Me} {nm : Str} (h : meNm m = some nm) : Me1 X m nm := by
  cases m <;> cases h
  · exact me_join
  · exact me_count C.hu
  · exact me_index C.hu
/-- literals -/
def litB : D → Const → Bool
  | .int i, .int j => decide (i = j)
  | .bool a, .bool b => a == b
  | .none, .none => true
  | .str x, .str y => decide (x = y) && sOk (tx x)
  | _, _ => false
theorem lit_ok {d : D} {k : Const} {j : Nat} {pos : Pos} (h : litB d k = true) : U3 X W F (.lit d) (.Constant k j pos) := by
  cases d <;> cases k <;> simp only [litB, reduceCtorEq, Bool.false_eq_true, decide_eq_true_eq, beq_iff_eq, Bool.and_eq_true] at h
  case none.none => exact u_none
  case bool.bool => subst h; exact u_bl
  case int.int => subst h; exact u_int
  case str.str => obtain ⟨h, h2⟩ := h; subst h; exact u_str h2
end

mutual
def eqDD : D → D → Bool
  | .none, .none => true
  | .bool a, .bool b => a == b
  | .int a, .int b => decide (a = b)
  | .str a, .str b => decide (a = b)
  | .list a, .list b => eqDDs a b
  | .tuple a, .tuple b => eqDDs a b
  | _, _ => false
def eqDDs : List D → List D → Bool
  | [], [] => true
  | a :: as, b :: bs => eqDD a b && eqDDs as bs
  | _, _ => false
end
mutual
theorem eqDD_ok : ∀ {a b : D}, eqDD a b = true → a = b
  | .none, .none, _ => rfl
  | .bool a, .bool b, h => by rw [eq_of_beq (show (a == b) = true from h)]
  | .int a, .int b, h => by rw [of_decide_eq_true (show decide (a = b) = true from h)]
  | .str a, .str b, h => by rw [of_decide_eq_true (show decide (a = b) = true from h)]
  | .list a, .list b, h => by rw [eqDDs_ok (show eqDDs a b = true from h)]
  | .tuple a, .tuple b, h => by rw [eqDDs_ok (show eqDDs a b = true from h)]
  | .none, .bool _, h => by cases h
  | .none, .int _, h => by cases h
  | .none, .str _, h => by cases h
  | .none, .list _, h => by cases h
  | .none, .tuple _, h => by cases h
  | .none, .dict _, h => by cases h
  | .bool _, .none, h => by cases h
  | .bool _, .int _, h => by cases h
  | .bool _, .str _, h => by cases h
  | .bool _, .list _, h => by cases h
  | .bool _, .tuple _, h => by cases h
  | .bool _, .dict _, h => by cases h
  | .int _, .none, h => by cases h
  | .int _, .bool _, h => by cases h
  | .int _, .str _, h => by cases h
  | .int _, .list _, h => by cases h
  | .int _, .tuple _, h => by cases h
  | .int _, .dict _, h => by cases h
  | .str _, .none, h => by cases h
  | .str _, .bool _, h => by cases h
  | .str _, .int _, h => by cases h
  | .str _, .list _, h => by cases h
  | .str _, .tuple _, h => by cases h
  | .str _, .dict _, h => by cases h
  | .list _, .none, h => by cases h
  | .list _, .bool _, h => by cases h
  | .list _, .int _, h => by cases h
  | .list _, .str _, h => by cases h
  | .list _, .tuple _, h => by cases h
  | .list _, .dict _, h => by cases h
  | .tuple _, .none, h => by cases h
  | .tuple _, .bool _, h => by cases h
  | .tuple _, .int _, h => by cases h
  | .tuple _, .str _, h => by cases h
  | .tuple _, .list _, h => by cases h
  | .tuple _, .dict _, h => by cases h
  | .dict _, .none, h => by cases h
  | .dict _, .bool _, h => by cases h
  | .dict _, .int _, h => by cases h
  | .dict _, .str _, h => by cases h
  | .dict _, .list _, h => by cases h
  | .dict _, .tuple _, h => by cases h
  | .dict _, .dict _, h => by cases h
theorem eqDDs_ok : ∀ {a b : List D}, eqDDs a b = true → a = b
  | [], [], _ => rfl
  | a :: as, b :: bs, h => by
    simp only [eqDDs, Bool.and_eq_true] at h
    rw [eqDD_ok h.1, eqDDs_ok h.2]
  | [], _ :: _, h => by cases h
  | _ :: _, [], h => by cases h
end
def nset : Expr → Bool
  | .Set _ _ _ => false
  | _ => true
theorem nset_ok {e : Expr} (h : nset e = true) (env : PySem.Env) (x : Value) : foldedSetIterable e env x = pure x := by
  cases e <;> first | rfl | cases h
def nixB : Expr → Bool
  | .Slice _ _ _ _ => false
  | _ => true
theorem nix_ok {e : Expr} (h : nixB e = true) : PlainIx e := by
  intro o i
  cases e <;> first | rfl | cases h
end U
end

section
namespace U
open PySem PySem.Spec PyProof.Rows L2

def notSlot : Tx → Bool
  | .slot _ => false
  | _ => true
theorem notSlot_ok {b : Tx} (h : notSlot b = true) : ∀ i, b ≠ .slot i := fun i e => by subst e; cases h
section
variable (c : Cf) (F : Fns) (cls : Nat → Value)
abbrev MkE := (sc : Scope) → (bk : Option Scope) → (x : Tx) → (e : Expr) → Option (PLift (∀ X W, Gd c F cls sc bk X W → U3 X W F x e))
variable {c F cls}
def mkA (r : MkE c F cls) (sc : Scope) (bk : Option Scope) : (x : Tx) → (es : List Expr) → Option (PLift (∀ X W, Gd c F cls sc bk X W → UA X W F x es))
  | .nil, [] => some ⟨fun _ _ _ => ua_nil⟩
  | .cons x y, e :: es => match r sc bk x e with
    | some ⟨h⟩ => (match mkA r sc bk y es with
      | some ⟨k⟩ => if n : nst e = true then some ⟨fun X W g => ua_cons (h X W g) (k X W g) n⟩ else none
      | none => none)
    | none => none
  | _, _ => none
def mkB (r : MkE c F cls) (sc : Scope) (bk : Option Scope) (pos : Pos) : (op : BoolOp) → (es : List Expr) → (x : Tx) → Option (PLift (∀ X W, Gd c F cls sc bk X W → UB X W F x op es pos))
  | .And, [e], x => (match r sc bk x e with
    | some ⟨h⟩ => if n : noT x = false then some ⟨fun X W g => ub_and1 (h X W g) n⟩ else none
    | none => none)
  | .Or, [e], x => (match r sc bk x e with
    | some ⟨h⟩ => if n : noT x = false then some ⟨fun X W g => ub_or1 (h X W g) n⟩ else none
    | none => none)
  | .And, ea :: eb :: es, .and a b => (match r sc bk a ea with
    | some ⟨h⟩ => (match mkB r sc bk pos .And (eb :: es) b with
      | some ⟨k⟩ => if n : noT a = false ∧ notSlot b = true then some ⟨fun X W g => ub_and (h X W g) n.1 (k X W g) (notSlot_ok n.2)⟩ else none
      | none => none)
    | none => none)
  | .Or, ea :: eb :: es, .or a b => (match r sc bk a ea with
    | some ⟨h⟩ => (match mkB r sc bk pos .Or (eb :: es) b with
      | some ⟨k⟩ => if n : noT a = false ∧ notSlot b = true then some ⟨fun X W g => ub_or (h X W g) n.1 (k X W g) (notSlot_ok n.2)⟩ else none
      | none => none)
    | none => none)
  | _, _, _ => none
def mkP (r : MkE c F cls) (sc : Scope) (bk : Option Scope) : (x : Tx) → (e : Option Expr) → Option (PLift (∀ X W, Gd c F cls sc bk X W → UPo X W F x e))
  | .nil, none => some ⟨fun _ _ _ => upo_none⟩
  | .cons a .nil, some e => (match r sc bk a e with
    | some ⟨h⟩ => some ⟨fun X W g => upo_some (h X W g)⟩
    | none => none)
  | _, _ => none
def mkC (r : MkE c F cls) (sc : Scope) (bk : Option Scope) : (x : Tx) → (es : List Expr) → Option (PLift (∀ X W, Gd c F cls sc bk X W → UC X W F x es))
  | .nil, [] => some ⟨fun _ _ _ => uc_nil⟩
  | .cons a .nil, [e] => (match r sc bk a e with
    | some ⟨h⟩ => if n : noT a = false then some ⟨fun X W g => uc_one (h X W g) n⟩ else none
    | none => none)
  | _, _ => none
mutual
def mkT (sc : Scope) (bk : Option Scope) : (x : Tx) → (e : Expr) → Option (PLift (∀ X W, Gd c F cls sc bk X W → UG X x e))
  | .slot i, .Name x p => if h : stB c sc bk i x = true then some ⟨fun X W g => ug_name g.C.nd (stB_ok g h).hN (stB_ok g h).hx (stB_ok g h).hf⟩ else none
  | .tup y, .Tuple es k p => (match mkTs sc bk y es with
    | some ⟨h⟩ => some ⟨fun X W g => ug_tup g.C.calm (h X W g)⟩
    | none => none)
  | _, _ => none
def mkTs (sc : Scope) (bk : Option Scope) : (x : Tx) → (es : List Expr) → Option (PLift (∀ X W, Gd c F cls sc bk X W → UGs X x es))
  | .nil, [] => some ⟨fun _ _ _ => ugs_nil⟩
  | .cons x y, e :: es => (match mkT sc bk x e with
    | some ⟨h⟩ => (match mkTs sc bk y es with
      | some ⟨k⟩ => if n : nst e = true then some ⟨fun X W g => ugs_cons (h X W g) (k X W g) n⟩ else none
      | none => none)
    | none => none)
  | _, _ => none
end
def mkI (r : MkE c F cls) (sc : Scope) (bk : Option Scope) : (x : Tx) → (tg e : Expr) → Option (PLift (∀ X W, Gd c F cls sc bk X W → UI' X W F x tg e))
  | .cons a .nil, tg, e => (match r sc bk a e with
    | some ⟨h⟩ => some ⟨fun X W g => ui_any (h X W g)⟩
    | none => none)
  | .itR (.cons a .nil), tg, .Call (.Name nm p) [ea] [] pos => if hn : nm = "range" ∧ glB sc nm = true ∧ c.free nm = true then (match mkA r sc bk (.cons a .nil) [ea] with
    | some ⟨h⟩ => some ⟨fun X W g => by obtain ⟨rfl, h2, h3⟩ := hn; exact ui_range1 (glB_ok g h2) (g.free h3) (h X W g)⟩
    | none => none) else none
  | .itR (.cons a (.cons b .nil)), tg, .Call (.Name nm p) [ea, eb] [] pos => if hn : nm = "range" ∧ glB sc nm = true ∧ c.free nm = true then (match mkA r sc bk (.cons a (.cons b .nil)) [ea, eb] with
    | some ⟨h⟩ => some ⟨fun X W g => by obtain ⟨rfl, h2, h3⟩ := hn; exact ui_range2 (glB_ok g h2) (g.free h3) (h X W g)⟩
    | none => none) else none
  | .itE a, .Tuple tes kk tp, .Call (.Name nm p) [ea] [] pos => if hn : nm = "enumerate" ∧ glB sc nm = true ∧ c.free nm = true ∧ nst ea = true then (match r sc bk a ea with
    | some ⟨h⟩ => some ⟨fun X W g => by obtain ⟨rfl, h2, h3, h4⟩ := hn; exact ui_enum (glB_ok g h2) (g.free h3) (h X W g) h4⟩
    | none => none) else none
  | .itZ a b, .Tuple tes kk tp, .Call (.Name nm p) [ea, eb] [] pos => if hn : nm = "zip" ∧ glB sc nm = true ∧ c.free nm = true ∧ nst ea = true ∧ nst eb = true then (match r sc bk a ea with
    | some ⟨h⟩ => (match r sc bk b eb with
      | some ⟨k⟩ => some ⟨fun X W g => by obtain ⟨rfl, h2, h3, h4, h5⟩ := hn; exact ui_zip (glB_ok g h2) (g.free h3) (h X W g) (k X W g) h4 h5⟩
      | none => none)
    | none => none) else none
  | _, _, _ => none

/-- a block's own names with their places -/
def ownOf (N : List Str) (own : List Nat) : List (Str × Nat) := own.map fun i => (N.getD i "", i)
theorem ownOf_snd (N : List Str) (own : List Nat) : (ownOf N own).map (·.2) = own := by
  rw [ownOf, List.map_map]
  exact List.map_id' own
theorem bx_of {scope : Scope} {sc : Scope} {bk : Option Scope} {X : Cx} {W : XW} (g : Gd c F cls sc bk X W) {P : Cx → Prop} (h : ∀ Y, Gd c F cls (relS scope sc) (some scope) Y WF → P Y) : BX X scope P := fun s H C cl fp => h _ (g.blk scope s H C cl fp)
theorem blk_of {scope sc : Scope} {bk : Option Scope} {X : Cx} {W : XW} {own : List (Str × Nat)} (g : Gd c F cls sc bk X W) (h : blkC c.N sc scope own = true) : BlkOk X.N X.env.scope scope own := by
  rw [g.N, g.sc]; exact blkOk_by h

/-- one step -/
def mkStep (r : MkE c F cls) : MkE c F cls := fun sc bk x e => match x with
  | .slot i => (match e with
    | .Name x p => if h : nmB c sc i x = true then some ⟨fun X W g => u_slot (nmB_ok g h).hN (nmB_ok g h).hv (nmB_ok g h).hd (nmB_ok g h).hcd⟩ else none
    | _ => none)
  | .lit d => (match e with
    | .Constant k j p => if h : litB d k = true then some ⟨fun X W g => lit_ok h⟩ else none
    | _ => none)
  | .glob d => (match e with
    | .Name x p => (match hg : c.glob x with
      | some d' => if h : eqDD d d' = true ∧ glB sc x = true ∧ (x == ("__debug__" : Str)) = false then some ⟨fun X W g => by
          obtain ⟨h1, h2, h3⟩ := h
          have := eqDD_ok h1
          subst this
          obtain ⟨v, u, k1, k2, k3⟩ := g.gl x d hg
          exact u_glob (glB_ok g h2) k1 k2 h3 k3⟩ else none
      | none => none)
    | _ => none)
  | .bin o a b => (match e with
    | .BinOp ea op eb p => if ho : opB o = op then (match r sc bk a ea with
      | some ⟨h⟩ => (match r sc bk b eb with
        | some ⟨k⟩ => some ⟨fun X W g => ho ▸ u_bin (h X W g) (k X W g)⟩
        | none => none)
      | none => none) else none
    | _ => none)
  | .neg a => (match e with
    | .UnaryOp .USub ea p => (match r sc bk a ea with
      | some ⟨h⟩ => some ⟨fun X W g => u_neg (h X W g)⟩
      | none => none)
    | _ => none)
  | .not a => (match e with
    | .UnaryOp .Not ea p => (match r sc bk a ea with
      | some ⟨h⟩ => if n : noT a = false then some ⟨fun X W g => u_not (h X W g) n⟩ else none
      | none => none)
    | _ => none)
  | .cmp o a b => (match e with
    | .Compare ea [op] [eb] p => if ho : opC o = op ∧ behindInMarks (opC o) eb = false then (match r sc bk a ea with
      | some ⟨h⟩ => (match r sc bk b eb with
        | some ⟨k⟩ => some ⟨fun X W g => ho.1 ▸ u_cmp g.C.hu (h X W g) (k X W g) ho.2⟩
        | none => none)
      | none => none) else none
    | _ => none)
  | .chain o p' a b d => (match e with
    | .Compare ea [op, op'] [eb, ed] p => if ho : opC o = op ∧ opC p' = op' ∧ p' ≠ .isin ∧ p' ≠ .notin then (match r sc bk a ea with
      | some ⟨h⟩ => (match r sc bk b eb with
        | some ⟨k⟩ => (match r sc bk d ed with
          | some ⟨l⟩ => some ⟨fun X W g => by
              obtain ⟨rfl, rfl, h1, h2⟩ := ho
              exact u_chain g.C.hu (h X W g) (k X W g) (l X W g) h1 h2⟩
          | none => none)
        | none => none)
      | none => none) else none
    | _ => none)
  | .and a b => (match e with
    | .BoolOp .And es p => (match mkB r sc bk p .And es (.and a b) with
      | some ⟨h⟩ => some ⟨fun X W g => (h X W g).u (fun i z => by cases z)⟩
      | none => none)
    | _ => none)
  | .or a b => (match e with
    | .BoolOp .Or es p => (match mkB r sc bk p .Or es (.or a b) with
      | some ⟨h⟩ => some ⟨fun X W g => (h X W g).u (fun i z => by cases z)⟩
      | none => none)
    | _ => none)
  | .ite d a b => (match e with
    | .IfExp ed ea eb p => (match r sc bk d ed with
      | some ⟨l⟩ => (match r sc bk a ea with
        | some ⟨h⟩ => (match r sc bk b eb with
          | some ⟨k⟩ => if n : noT d = false then some ⟨fun X W g => u_ite (l X W g) n (h X W g) (k X W g)⟩ else none
          | none => none)
        | none => none)
      | none => none)
    | _ => none)
  | .call f y => (match e with
    | .Call (.Name nm p) (e1 :: es) [] pos => if hn : c.fns nm = some (f, false) ∧ glB sc nm = true ∧ (nm == ("__debug__" : Str)) = false then (match mkA r sc bk y (e1 :: es) with
      | some ⟨h⟩ => some ⟨fun X W g => u_call g.C (g.fnF nm f hn.1) (glB_ok g hn.2.1) (h X W g) hn.2.2⟩
      | none => none) else none
    | .Call (.Name nm p) [] [] pos => (match y with
      | .nil => if hn : c.fns nm = some (f, false) ∧ glB sc nm = true ∧ (nm == ("__debug__" : Str)) = false then some ⟨fun X W g => u_call0 g.C (g.fnF nm f hn.1) (glB_ok g hn.2.1) hn.2.2⟩ else none
      | _ => none)
    | _ => none)
  | .callM f i y => (match e with
    | .Call (.Name nm p) (.Name x p1 :: es) [] pos => if hn : c.fns nm = some (f, true) ∧ glB sc nm = true ∧ (nm == ("__debug__" : Str)) = false ∧ nmB c sc i x = true then (match mkA r sc bk y es with
      | some ⟨h⟩ => some ⟨fun X W g => u_callM g.C (g.fnM nm f hn.1) (glB_ok g hn.2.1) (nmB_ok g hn.2.2.2).hN (nmB_ok g hn.2.2.2).hv (nmB_ok g hn.2.2.2).hd (nmB_ok g hn.2.2.2).hcd (h X W g) hn.2.2.1⟩
      | none => none) else none
    | _ => none)
  | .bi f y => (match e with
    | .Call (.Name nm p) (e1 :: es) [] pos => (match f, y, es with
      | .isinst [T], .cons a .nil, [.Name nT p2] => if hn : nm = "isinstance" ∧ isTab T = true ∧ glB sc nm = true ∧ c.free nm = true ∧ glB sc nT = true ∧ c.free nT = true ∧ nT = Str.ofString T ∧ nst e1 = true then (match r sc bk a e1 with
        | some ⟨h⟩ => some ⟨fun X W g => by
            obtain ⟨rfl, h1, h2, h3, h4, h5, h6, h7⟩ := hn
            have hh : bootBuiltins nT = some (.type T) ∧ nT ≠ "__name__" ∧ (nT == ("__debug__" : Str)) = false := by
              simp only [isTab, Bool.or_eq_true, beq_iff_eq] at h1
              rcases h1 with (((((h | h) | h) | h) | h) | h) <;> subst h <;> subst h6 <;> exact ⟨by decide +kernel, by decide, by decide⟩
            exact u_isinst (k := 0) h1 (glB_ok g h2) (g.free h3) (glB_ok g h4) (g.free h5) hh.1 hh.2.1 hh.2.2 (h X W g) h7⟩
        | none => none) else none
      | .sset, y, [] => (match e1 with
        | .Call (.Name n2 p2) [ea] [] pos2 => if hn : nm = "sorted" ∧ n2 = "set" ∧ glB sc nm = true ∧ c.free nm = true ∧ glB sc n2 = true ∧ c.free n2 = true then (match mkA r sc bk y [ea] with
          | some ⟨h⟩ => some ⟨fun X W g => by
              obtain ⟨rfl, rfl, h1, h2, h3, h4⟩ := hn
              exact u_sset g.C.calm g.C.hu (glB_ok g h1) (g.free h2) (glB_ok g h3) (g.free h4) PyProof.Rows.boot_set (h X W g)⟩
          | none => none) else none
        | _ => none)
      | .lset, y, [] => (match e1 with
        | .Call (.Name n2 p2) [ea] [] pos2 => if hn : nm = "len" ∧ n2 = "set" ∧ glB sc nm = true ∧ c.free nm = true ∧ glB sc n2 = true ∧ c.free n2 = true then (match mkA r sc bk y [ea] with
          | some ⟨h⟩ => some ⟨fun X W g => by
              obtain ⟨rfl, rfl, h1, h2, h3, h4⟩ := hn
              exact u_lset g.C.calm g.C.hu (glB_ok g h1) (g.free h2) (glB_ok g h3) (g.free h4) PyProof.Rows.boot_set (h X W g)⟩
          | none => none) else none
        | _ => none)
      | .lrng, .cons a .nil, [] => (match e1 with
        | .Call (.Name n2 p2) [ea] [] pos2 => if hn : nm = "list" ∧ n2 = "range" ∧ glB sc nm = true ∧ c.free nm = true ∧ glB sc n2 = true ∧ c.free n2 = true ∧ nst ea = true then (match r sc bk a ea with
          | some ⟨h⟩ => some ⟨fun X W g => by
              obtain ⟨rfl, rfl, h1, h2, h3, h4, h5⟩ := hn
              exact u_rng1 g.C.calm (.inl ⟨rfl, rfl⟩) (glB_ok g h1) (g.free h2) (glB_ok g h3) (g.free h4) (h X W g) h5⟩
          | none => none) else none
        | _ => none)
      | .trng, .cons a .nil, [] => (match e1 with
        | .Call (.Name n2 p2) [ea] [] pos2 => if hn : nm = "tuple" ∧ n2 = "range" ∧ glB sc nm = true ∧ c.free nm = true ∧ glB sc n2 = true ∧ c.free n2 = true ∧ nst ea = true then (match r sc bk a ea with
          | some ⟨h⟩ => some ⟨fun X W g => by
              obtain ⟨rfl, rfl, h1, h2, h3, h4, h5⟩ := hn
              exact u_rng1 g.C.calm (.inr ⟨rfl, rfl⟩) (glB_ok g h1) (g.free h2) (glB_ok g h3) (g.free h4) (h X W g) h5⟩
          | none => none) else none
        | _ => none)
      | .lrng, .cons a (.cons b .nil), [] => (match e1 with
        | .Call (.Name n2 p2) [ea, eb] [] pos2 => if hn : nm = "list" ∧ n2 = "range" ∧ glB sc nm = true ∧ c.free nm = true ∧ glB sc n2 = true ∧ c.free n2 = true ∧ nst ea = true ∧ nst eb = true then (match r sc bk a ea with
          | some ⟨h⟩ => (match r sc bk b eb with
            | some ⟨k⟩ => some ⟨fun X W g => by
              obtain ⟨rfl, rfl, h1, h2, h3, h4, h5, h6⟩ := hn
              exact u_rng2 g.C.calm (.inl ⟨rfl, rfl⟩) (glB_ok g h1) (g.free h2) (glB_ok g h3) (g.free h4) (h X W g) (k X W g) h5 h6⟩
            | none => none)
          | none => none) else none
        | _ => none)
      | .trng, .cons a (.cons b .nil), [] => (match e1 with
        | .Call (.Name n2 p2) [ea, eb] [] pos2 => if hn : nm = "tuple" ∧ n2 = "range" ∧ glB sc nm = true ∧ c.free nm = true ∧ glB sc n2 = true ∧ c.free n2 = true ∧ nst ea = true ∧ nst eb = true then (match r sc bk a ea with
          | some ⟨h⟩ => (match r sc bk b eb with
            | some ⟨k⟩ => some ⟨fun X W g => by
              obtain ⟨rfl, rfl, h1, h2, h3, h4, h5, h6⟩ := hn
              exact u_rng2 g.C.calm (.inr ⟨rfl, rfl⟩) (glB_ok g h1) (g.free h2) (glB_ok g h3) (g.free h4) (h X W g) (k X W g) h5 h6⟩
            | none => none)
          | none => none) else none
        | _ => none)
      | f, y, es => if hn : biNm f = some nm ∧ glB sc nm = true ∧ c.free nm = true then (match mkA r sc bk y (e1 :: es) with
        | some ⟨h⟩ => some ⟨fun X W g => u_bi (biOk_of g.C hn.1) (glB_ok g hn.2.1) (g.free hn.2.2) (h X W g)⟩
        | none => none) else none)
    | _ => none)
  | .me m o y => (match y, e with
    | .cons b .nil, .Call (.Attribute ea at_ apos) [eb] [] pos => if hn : meNm m = some at_ ∧ nst eb = true ∧ abOk ea = true ∧ (apos.endLine == pos.line) = true then (match r sc bk o ea with
      | some ⟨h⟩ => (match r sc bk b eb with
        | some ⟨k⟩ => some ⟨fun X W g => u_me1 (me_of g.C hn.1) (h X W g) (k X W g) hn.2.1 hn.2.2.1 hn.2.2.2⟩
        | none => none)
      | none => none) else none
    | _, _ => none)
  | .idx a b => (match e with
    | .Subscript ea eb p => if hn : nixB eb = true then (match r sc bk a ea with
      | some ⟨h⟩ => (match r sc bk b eb with
        | some ⟨k⟩ => some ⟨fun X W g => u_idx g.C.hu (h X W g) (k X W g) (nix_ok hn)⟩
        | none => none)
      | none => none) else none
    | _ => none)
  | .sl a lo hi => (match e with
    | .Subscript ea (.Slice el eh none p2) p => (match r sc bk a ea with
      | some ⟨h⟩ => (match mkP r sc bk lo el with
        | some ⟨k⟩ => (match mkP r sc bk hi eh with
          | some ⟨l⟩ => some ⟨fun X W g => u_sl (h X W g) (k X W g) (l X W g)⟩
          | none => none)
        | none => none)
      | none => none)
    | _ => none)
  | .rev a => (match e with
    | .Subscript ea (.Slice none none (some (.UnaryOp .USub (.Constant (.int i) k p1) p2)) p3) p => if hn : i = 1 then (match r sc bk a ea with
      | some ⟨h⟩ => some ⟨fun X W g => by subst hn; exact u_rev (h X W g)⟩
      | none => none) else none
    | _ => none)
  | .popAt i k => (match e with
    | .Call (.Attribute (.Name x p) at_ apos) [ek] [] pos => if hn : at_ = "pop" ∧ nst ek = true ∧ (apos.endLine == pos.line) = true ∧ nmB c sc i x = true then (match r sc bk k ek with
      | some ⟨h⟩ => some ⟨fun X W g => by obtain ⟨rfl, h1, h2, h3⟩ := hn; exact u_popAt (nmB_ok g h3) (h X W g) h1 h2⟩
      | none => none) else none
    | _ => none)
  | .pop0 i => (match e with
    | .Call (.Attribute (.Name x p) at_ apos) [] [] pos => if hn : at_ = "pop" ∧ (apos.endLine == pos.line) = true ∧ nmB c sc i x = true then some ⟨fun X W g => by obtain ⟨rfl, h2, h3⟩ := hn; exact u_pop0 (nmB_ok g h3) h2⟩ else none
    | _ => none)
  | .tup y => (match e with
    | .Tuple es k p => (match mkA r sc bk y es with
      | some ⟨h⟩ => some ⟨fun X W g => u_tup (h X W g)⟩
      | none => none)
    | _ => none)
  | .lst y => (match e with
    | .List es p => (match mkA r sc bk y es with
      | some ⟨h⟩ => some ⟨fun X W g => u_lst (h X W g)⟩
      | none => none)
    | _ => none)
  | .dict0 => (match e with
    | .Dict [] [] p => some ⟨fun X W g => u_dict0⟩
    | _ => none)
  | .comp own tg it cs el => (match e with
    | .ListComp elt [⟨tge, iter, ifs, 0⟩] scope pos => if hn : blkC c.N sc scope (ownOf c.N own) = true ∧ nset iter = true then (match mkI r sc bk it tge iter with
      | some ⟨hi⟩ => (match mkT (c := c) (F := F) (cls := cls) (relS scope sc) (some scope) tg tge with
        | some ⟨hg⟩ => (match mkC r (relS scope sc) (some scope) cs ifs with
          | some ⟨hc⟩ => (match r (relS scope sc) (some scope) el elt with
            | some ⟨he⟩ => some ⟨fun X W g => by
                have := u_comp (W := W) (F := F) (pos := pos) (elt := elt) g.C.calm g.C.nd (blk_of g hn.1) (hi X W g) (bx_of g fun Y gy => hg Y WF gy) (bx_of g fun Y gy => hc Y WF gy) (bx_of g fun Y gy => he Y WF gy) (nset_ok hn.2 X.env)
                rw [ownOf_snd] at this
                exact this⟩
            | none => none)
          | none => none)
        | none => none)
      | none => none) else none
    | _ => none)
  | .comp2 own tg it cs tg1 it1 cs1 el => (match e with
    | .ListComp elt [⟨tge, iter, ifs, 0⟩, ⟨tge1, iter1, ifs1, 0⟩] scope pos => if hn : blkC c.N sc scope (ownOf c.N own) = true ∧ nset iter = true ∧ nset iter1 = true ∧ (tgNames tg1).all own.contains = true then (match mkI r sc bk it tge iter with
      | some ⟨hi⟩ => (match mkT (c := c) (F := F) (cls := cls) (relS scope sc) (some scope) tg tge with
        | some ⟨hg⟩ => (match mkC r (relS scope sc) (some scope) cs ifs with
          | some ⟨hc⟩ => (match mkI r (relS scope sc) (some scope) it1 tge1 iter1 with
            | some ⟨hi1⟩ => (match mkT (c := c) (F := F) (cls := cls) (relS scope sc) (some scope) tg1 tge1 with
              | some ⟨hg1⟩ => (match mkC r (relS scope sc) (some scope) cs1 ifs1 with
                | some ⟨hc1⟩ => (match r (relS scope sc) (some scope) el elt with
                  | some ⟨he⟩ => some ⟨fun X W g => by
                      have := u_comp2 (W := W) (F := F) (pos := pos) (elt := elt) (tg1 := tg1) g.C.calm g.C.nd (blk_of g hn.1) (hi X W g) (by rw [ownOf_snd]; exact all_in hn.2.2.2) (bx_of g fun Y gy => hg Y WF gy) (bx_of g fun Y gy => hc Y WF gy)
                        (bx_of g fun Y gy => hi1 Y WF gy) (bx_of g fun Y gy => hg1 Y WF gy) (bx_of g fun Y gy => hc1 Y WF gy) (bx_of g fun Y gy => he Y WF gy) (nset_ok hn.2.1 X.env) (nset_ok hn.2.2.1)
                      rw [ownOf_snd] at this
                      exact this⟩
                  | none => none)
                | none => none)
              | none => none)
            | none => none)
          | none => none)
        | none => none)
      | none => none) else none
    | _ => none)
  | _ => none
def mkE : Nat → MkE c F cls
  | 0 => fun _ _ _ _ => none
  | n + 1 => mkStep (mkE n)
end
end U
end

section
namespace U
open PySem PySem.Spec PyProof.Rows L2

def isComp : Expr → Bool
  | .ListComp _ _ _ _ => true
  | .SetComp _ _ _ _ => true
  | .DictComp _ _ _ _ _ => true
  | _ => false
theorem sw_no {e : Expr} (h : isComp e = false) (t : Option Expr) (l : Nat) (env : PySem.Env) : swapsWith e t l env = pure false := by
  cases e <;> first | rfl | cases h
theorem sws_tup {e : Expr} {es : List Expr} {k : Nat} {p : Pos} {l : Nat} {env : PySem.Env} : swapsWithSole [.Tuple es k p] e l env = pure false := by
  cases e <;> rfl
theorem sws_sub {e a b : Expr} {p : Pos} {l : Nat} {env : PySem.Env} : swapsWithSole [.Subscript a b p] e l env = pure false := by
  cases e <;> rfl
theorem sst_sub {e a b : Expr} {p : Pos} {env : PySem.Env} : swappedStores [.Subscript a b p] e env = pure none := by
  cases e <;> rfl
def isTupE : Expr → Bool
  | .Tuple _ _ _ => true
  | _ => false
theorem sst_no {e : Expr} {es : List Expr} {k : Nat} {p : Pos} {env : PySem.Env} (h : isTupE e = false) : swappedStores [.Tuple es k p] e env = pure none := by
  cases e <;> first | rfl | cases h
def isStar : Expr → Bool
  | .Starred .. => true
  | _ => false
def ssName (sc : Scope) (line : Nat) : Expr → Option Str
  | .Name id pos => if sc.names.lookup id == some .local && pos.line == line then some id else none
  | _ => none
def ssN (sc : Scope) (ts vs : List Expr) : Option (List Str) :=
  if (!(ts.length == 2 || ts.length == 3) || vs.length != ts.length) = true then none
  else if (vs.any isStar) = true then none
  else if ((ts.filterMap (ssName sc ((ts.head?.map (·.pos.line)).getD 0))).length != ts.length || (ts.filterMap (ssName sc ((ts.head?.map (·.pos.line)).getD 0))).eraseDups.length != (ts.filterMap (ssName sc ((ts.head?.map (·.pos.line)).getD 0))).length) = true then none
  else if (vs.all (foldedForSure 8)) = true then none
  else some (ts.filterMap (ssName sc ((ts.head?.map (·.pos.line)).getD 0)))
theorem ss_eq {sc : Scope} {env : PySem.Env} (hs : env.scope = sc) (hk : sc.kind = .function) {ts vs : List Expr} {k k2 : Nat} {p p2 : Pos} (ok : (vs.all (constantsAlone 8) && !vs.all (foldedForSure 8)) = false) :
    swappedStores [.Tuple ts k p] (.Tuple vs k2 p2) env = pure (ssN sc ts vs) := by
  subst hs
  have hb : env.blockKind = .function := by unfold Env.blockKind; rw [hk]; rfl
  have go : swappedStores [.Tuple ts k p] (.Tuple vs k2 p2) env = (
      if (!(ts.length == 2 || ts.length == 3) || vs.length != ts.length || env.blockKind != .function) = true then pure none
      else if (vs.any isStar) = true then pure none
      else if ((ts.filterMap (ssName env.scope ((ts.head?.map (·.pos.line)).getD 0))).length != ts.length || (ts.filterMap (ssName env.scope ((ts.head?.map (·.pos.line)).getD 0))).eraseDups.length != (ts.filterMap (ssName env.scope ((ts.head?.map (·.pos.line)).getD 0))).length) = true then pure none
      else if (vs.all (foldedForSure 8)) = true then pure none
      else if (vs.all (constantsAlone 8)) = true then (do unsupported "assign.tuple-of-constant-expressions:order-of-the-stores"; pure (some (ts.filterMap (ssName env.scope ((ts.head?.map (·.pos.line)).getD 0)))))
      else pure (some (ts.filterMap (ssName env.scope ((ts.head?.map (·.pos.line)).getD 0))))) := rfl
  rw [go, hb]
  have e0 : (ScopeKind.function != ScopeKind.function) = false := rfl
  rw [e0, Bool.or_false]
  unfold ssN
  split
  · rfl
  · split
    · rfl
    · split
      · rfl
      · split
        · rfl
        · rename_i h
          have h2 : vs.all (foldedForSure 8) = false := by simpa using h
          rw [h2] at ok
          have h3 : vs.all (constantsAlone 8) = false := by simpa using ok
          rw [h3]
          rfl

theorem ltc_true {elt : Expr} {gs : List Comprehension} {scope sc : Scope} {pos py : Pos} {y : Str} {l : Nat} {env : PySem.Env} (hs : env.scope = sc) (hk : sc.kind = .function) (hy : sc.names.lookup y = some .local) (hl : (py.line == pos.line) = true)
    (ha : (scope.names.any fun (n, k) => n == y && (k == .local || k == .cell)) = false) : swapsWith (.ListComp elt gs scope pos) (some (.Name y py)) l env = pure true := by
  subst hs
  exact sw_true hk hy hl ha
theorem ltc_false {elt : Expr} {gs : List Comprehension} {scope sc : Scope} {pos py : Pos} {y : Str} {l : Nat} {env : PySem.Env} (hs : env.scope = sc) (hy : sc.names.lookup y = some .cell) : swapsWith (.ListComp elt gs scope pos) (some (.Name y py)) l env = pure false := by
  subst hs
  have ky : env.kindOf y = some .cell := hy
  unfold swapsWith
  simp only [ky]
  have : (some NameKind.cell == some NameKind.local) = false := rfl
  simp [this]
def anyB (scope : Scope) (y : Str) : Bool := scope.names.any fun (n, k) => n == y && (k == .local || k == .cell)

section
variable {c : Cf} {F : Fns} {cls : Nat → Value}
abbrev MkS (c : Cf) (F : Fns) (cls : Nat → Value) (sc : Scope) : Type := (x : St') → (st : Stmt) → Option (PLift (∀ X W, Gd c F cls sc none X W → US X W F x st))
def mkAsg (r : MkE c F cls) (sc : Scope) : (i : Nat) → (a : Tx) → (x : Str) → (p' : Pos) → (e : Expr) → (pos : Pos) → Option (PLift (∀ X W, Gd c F cls sc none X W → US X W F (.asg (.slot i) a) (.Assign [.Name x p'] e pos))) := fun i a x p' e pos =>
  if hst : stB c sc none i x = true then (
    match e with
    | .ListComp elt gs scope lpos =>
      if hl : kB sc x .local = true then (
        if hn : sc.kind = .function ∧ (p'.line == lpos.line) = true ∧ anyB scope x = false then (match a, gs with
          | .comp own tg it cs el, [⟨tge, iter, ifs, 0⟩] => if hn2 : blkC c.N sc scope (ownOf c.N own) = true ∧ nset iter = true then (match mkI r sc none it tge iter with
            | some ⟨hi⟩ => (match mkT (c := c) (F := F) (cls := cls) (relS scope sc) (some scope) tg tge with
              | some ⟨hg⟩ => (match mkC r (relS scope sc) (some scope) cs ifs with
                | some ⟨hc⟩ => (match r (relS scope sc) (some scope) el elt with
                  | some ⟨he⟩ => some ⟨fun X W g => by
                      have := us_setLc (W := W) (F := F) (pos := lpos) (elt := elt) (py := p') (spos := pos) g.C.calm g.C.nd (stB_ok g hst).hN (by rw [g.sc]; exact kB_ok hl) (ltc_true g.sc hn.1 (kB_ok hl) hn.2.1 hn.2.2) (blk_of g hn2.1) (hi X W g) (bx_of g fun Y gy => hg Y WF gy) (bx_of g fun Y gy => hc Y WF gy) (bx_of g fun Y gy => he Y WF gy) (nset_ok hn2.2 X.env)
                      rw [ownOf_snd] at this
                      exact this⟩
                  | none => none)
                | none => none)
              | none => none)
            | none => none) else none
          | .comp2 own tg it cs tg1 it1 cs1 el, [⟨tge, iter, ifs, 0⟩, ⟨tge1, iter1, ifs1, 0⟩] => if hn2 : blkC c.N sc scope (ownOf c.N own) = true ∧ nset iter = true ∧ nset iter1 = true ∧ (tgNames tg1).all own.contains = true then (match mkI r sc none it tge iter with
            | some ⟨hi⟩ => (match mkT (c := c) (F := F) (cls := cls) (relS scope sc) (some scope) tg tge with
              | some ⟨hg⟩ => (match mkC r (relS scope sc) (some scope) cs ifs with
                | some ⟨hc⟩ => (match mkI r (relS scope sc) (some scope) it1 tge1 iter1 with
                  | some ⟨hi1⟩ => (match mkT (c := c) (F := F) (cls := cls) (relS scope sc) (some scope) tg1 tge1 with
                    | some ⟨hg1⟩ => (match mkC r (relS scope sc) (some scope) cs1 ifs1 with
                      | some ⟨hc1⟩ => (match r (relS scope sc) (some scope) el elt with
                        | some ⟨he⟩ => some ⟨fun X W g => by
                            have := us_setLc2 (W := W) (F := F) (pos := lpos) (elt := elt) (py := p') (spos := pos) (tg1 := tg1) g.C.calm g.C.nd (stB_ok g hst).hN (by rw [g.sc]; exact kB_ok hl) (ltc_true g.sc hn.1 (kB_ok hl) hn.2.1 hn.2.2) (blk_of g hn2.1) (hi X W g) (by rw [ownOf_snd]; exact all_in hn2.2.2.2) (bx_of g fun Y gy => hg Y WF gy) (bx_of g fun Y gy => hc Y WF gy)
                              (bx_of g fun Y gy => hi1 Y WF gy) (bx_of g fun Y gy => hg1 Y WF gy) (bx_of g fun Y gy => hc1 Y WF gy) (bx_of g fun Y gy => he Y WF gy) (nset_ok hn2.2.1 X.env) (nset_ok hn2.2.2.1)
                            rw [ownOf_snd] at this
                            exact this⟩
                        | none => none)
                      | none => none)
                    | none => none)
                  | none => none)
                | none => none)
              | none => none)
            | none => none) else none
          | _, _ => none)
        else none)
      else if hl2 : kB sc x .cell = true then (match r sc none a (.ListComp elt gs scope lpos) with
        | some ⟨h⟩ => some ⟨fun X W g => us_set g.C.nd (stB_ok g hst).hN (stB_ok g hst).hx (h X W g) (ltc_false g.sc (kB_ok hl2)) (stB_ok g hst).hf⟩
        | none => none)
      else none
    | e => if hn : isComp e = false then (match r sc none a e with
      | some ⟨h⟩ => some ⟨fun X W g => us_set g.C.nd (stB_ok g hst).hN (stB_ok g hst).hx (h X W g) (sw_no hn _ _ _) (stB_ok g hst).hf⟩
      | none => none) else none)
  else none
mutual
def mkS (r : MkE c F cls) (sc : Scope) : Nat → MkS c F cls sc
  | 0, _, _ => none
  | n + 1, x, st => match x with
    | .nop => (match st with
      | .Pass p => some ⟨fun X W g => us_pass⟩
      | .Expr (.Constant (.str z) j p2) p => some ⟨fun X W g => us_doc⟩
      | _ => none)
    | .ret a => (match st with
      | .Return (some e) p => (match r sc none a e with
        | some ⟨h⟩ => some ⟨fun X W g => us_ret (h X W g)⟩
        | none => none)
      | .Return none p => (match a with
        | .lit .none => some ⟨fun X W g => us_retN⟩
        | _ => none)
      | _ => none)
    | .expr a => (match st with
      | .Expr e p => if hn : isComp e = false then (match r sc none a e with
        | some ⟨h⟩ => some ⟨fun X W g => us_expr (h X W g) (sw_no hn _ _ _)⟩
        | none => none) else none
      | _ => none)
    | .asg tg a => (match tg, st with
      | .slot i, .Assign [.Name y p'] e p => mkAsg r sc i a y p' e p
      | .tup t, .Assign [.Tuple es k p2] e p => if hn : isTupE e = false then (match mkT (c := c) (F := F) (cls := cls) sc none (.tup t) (.Tuple es k p2) with
        | some ⟨hg⟩ => (match r sc none a e with
          | some ⟨h⟩ => some ⟨fun X W g => us_tup (h X W g) (hg X W g) sws_tup (sst_no hn) rfl⟩
          | none => none)
        | none => none)
        else (match e with
          | .Tuple vs k3 p3 => if hn2 : sc.kind = .function ∧ (vs.all (constantsAlone 8) && !vs.all (foldedForSure 8)) = false ∧ ssN sc es vs = none then (match mkT (c := c) (F := F) (cls := cls) sc none (.tup t) (.Tuple es k p2) with
            | some ⟨hg⟩ => (match r sc none a (.Tuple vs k3 p3) with
              | some ⟨h⟩ => some ⟨fun X W g => us_tup (h X W g) (hg X W g) sws_tup ((ss_eq g.sc hn2.1 hn2.2.1).trans (by rw [hn2.2.2])) rfl⟩
              | none => none)
            | none => none) else none
          | _ => none)
      | _, _ => none)
    | .par i j a b => (match st with
      | .Assign [.Tuple [.Name y py, .Name z pz] kt pt] (.Tuple [ea, eb] k2 pt2) p => if hn : i ≠ j ∧ stB c sc none i y = true ∧ stB c sc none j z = true ∧ kB sc y .local = true ∧ kB sc z .local = true ∧ nst ea = true ∧ nst eb = true ∧ sc.kind = .function ∧
          ([ea, eb].all (constantsAlone 8) && ![ea, eb].all (foldedForSure 8)) = false ∧ ssN sc [.Name y py, .Name z pz] [ea, eb] = some [y, z] then (match r sc none a ea with
        | some ⟨h⟩ => (match r sc none b eb with
          | some ⟨k⟩ => some ⟨fun X W g => by
              obtain ⟨h1, h2, h3, h4, h5, h6, h7, h8, h9, h10⟩ := hn
              exact us_par g.C.calm g.C.nd (stB_ok g h2).hN (stB_ok g h3).hN h1 (by rw [g.sc]; exact kB_ok h4) (by rw [g.sc]; exact kB_ok h5) (h X W g) (k X W g) h6 h7 ((ss_eq g.sc h8 h9).trans (by rw [h10])) sws_tup⟩
          | none => none)
        | none => none) else none
      | _ => none)
    | .setI i k a => (match st with
      | .Assign [.Subscript (.Name y py) ek p2] e p => if hn : nmB c sc i y = true ∧ nsl ek = true then (match r sc none k ek with
        | some ⟨hk⟩ => (match r sc none a e with
          | some ⟨h⟩ => some ⟨fun X W g => us_setI g.C.hu (nmB_ok g hn.1) hn.2 (hk X W g) (h X W g) sws_sub sst_sub⟩
          | none => none)
        | none => none) else none
      | _ => none)
    | .set2 i k j l a b => (match st with
      | .Assign [.Tuple [.Subscript (.Name y py) ek p3, .Subscript (.Name z p4) el p5] kt p6] (.Tuple vs k2 p7) p => if hn : nmB c sc i y = true ∧ nmB c sc j z = true ∧ nsl ek = true ∧ nsl el = true ∧ sc.kind = .function ∧ (vs.all (constantsAlone 8) && !vs.all (foldedForSure 8)) = false ∧
          ssN sc [.Subscript (.Name y py) ek p3, .Subscript (.Name z p4) el p5] vs = none then (match r sc none k ek with
        | some ⟨hk⟩ => (match r sc none l el with
          | some ⟨hl⟩ => (match r sc none (.tup (.cons a (.cons b .nil))) (.Tuple vs k2 p7) with
            | some ⟨h⟩ => some ⟨fun X W g => us_set2 (k2 := 0) (nmB_ok g hn.1) (nmB_ok g hn.2.1) (hk X W g) (hl X W g) hn.2.2.1 hn.2.2.2.1 (h X W g) g.C.calm sws_tup ((ss_eq g.sc hn.2.2.2.2.1 hn.2.2.2.2.2.1).trans (by rw [hn.2.2.2.2.2.2]))⟩
            | none => none)
          | none => none)
        | none => none) else none
      | _ => none)
    | .app i a => (match st with
      | .Expr (.Call (.Attribute (.Name y py) at_ apos) [e] [] p) p2 => if hn : at_ = "append" ∧ nmB c sc i y = true ∧ nst e = true ∧ (apos.endLine == p.line) = true then (match r sc none a e with
        | some ⟨h⟩ => some ⟨fun X W g => by obtain ⟨rfl, h1, h2, h3⟩ := hn; exact us_app (nmB_ok g h1) (h X W g) h2 h3⟩
        | none => none) else none
      | _ => none)
    | .ext i a => (match st with
      | .Expr (.Call (.Attribute (.Name y py) at_ apos) [e] [] p) p2 => if hn : at_ = "extend" ∧ nmB c sc i y = true ∧ nst e = true ∧ (apos.endLine == p.line) = true then (match r sc none a e with
        | some ⟨h⟩ => some ⟨fun X W g => by obtain ⟨rfl, h1, h2, h3⟩ := hn; exact us_ext (nmB_ok g h1) (h X W g) h2 h3⟩
        | none => none) else none
      | _ => none)
    | .aug i sub a => (match st with
      | .AugAssign (.Name y py) op e p => if hn : stB c sc none i y = true ∧ (if sub then Operator.Sub else Operator.Add) = op then (match r sc none a e with
        | some ⟨h⟩ => some ⟨fun X W g => hn.2 ▸ us_aug (stB_ok g hn.1) g.C.nd (h X W g)⟩
        | none => none) else none
      | _ => none)
    | .ifs d s t => (match st with
      | .If ed sa sb p => if hn : noT d = false then (match r sc none d ed with
        | some ⟨h⟩ => (match mkSs r sc n s sa with
          | some ⟨k⟩ => (match mkSs r sc n t sb with
            | some ⟨l⟩ => some ⟨fun X W g => us_if (h X W g) hn (k X W g) (l X W g)⟩
            | none => none)
          | none => none)
        | none => none) else none
      | _ => none)
    | .loop tg it s => (match st with
      | .For tge iter body [] p => if hn : nset iter = true then (match mkI r sc none it tge iter with
        | some ⟨h⟩ => (match mkT (c := c) (F := F) (cls := cls) sc none tg tge with
          | some ⟨hg⟩ => (match mkSs r sc n s body with
            | some ⟨k⟩ => some ⟨fun X W g => us_for (g.pass rfl) g.C.calm (h X W g) (hg X W g) (k X W g) (nset_ok hn X.env)⟩
            | none => none)
          | none => none)
        | none => none) else none
      | _ => none)
    | .whil d s => (match st with
      | .While ed body [] p => if hn : noT d = false then (match r sc none d ed with
        | some ⟨h⟩ => (match mkSs r sc n s body with
          | some ⟨k⟩ => some ⟨fun X W g => us_while (g.pass rfl) (h X W g) hn (k X W g)⟩
          | none => none)
        | none => none) else none
      | _ => none)
    | .brk => (match st with
      | .Break p => some ⟨fun X W g => us_break⟩
      | _ => none)
    | .cnt => (match st with
      | .Continue p => some ⟨fun X W g => us_continue⟩
      | _ => none)
    | .raise k => (match st with
      | .Raise (some (.Call (.Name nm p) [.Constant (.str m) j p2] [] p3)) none pos => if hn : c.exc nm = some k ∧ glB sc nm = true ∧ (nm == ("__debug__" : Str)) = false then some ⟨fun X W g => by
          obtain ⟨h1, h2, h3⟩ := hn
          obtain ⟨Ca, k1, k2, k3, k4, k5⟩ := g.ex nm k h1
          exact us_raise g.C.calm g.C.tk PySem.F.excBase_ValueError k2 k3 k4 k5 (glB_ok g h2) h3 k1⟩ else none
      | _ => none)
    | .seq _ _ => none
def mkSs (r : MkE c F cls) (sc : Scope) : Nat → (x : St') → (st : List Stmt) → Option (PLift (∀ X W, Gd c F cls sc none X W → USs X W F x st))
  | 0, _, _ => none
  | n + 1, .nop, [] => some ⟨fun X W g => uss_nil⟩
  | n + 1, .seq a b, st :: rest => (match mkS r sc n a st with
    | some ⟨h⟩ => (match mkSs r sc n b rest with
      | some ⟨k⟩ => some ⟨fun X W g => uss_cons (h X W g) (k X W g)⟩
      | none => none)
    | none => none)
  | _, _, _ => none
end
end
end U
end

section
namespace U
open PySem PySem.Spec PyProof.Rows L2

/-! ### a def with its evaluator text -/
structure DefC where
  d : He.DefD
  ps : List Str
  N : List Str
  fn : Fn
def ixOf (nm : Str) : List DefC → Nat → Option (Nat × Bool)
  | [], _ => none
  | d :: ds, i => if d.d.name = nm then some (i, d.fn.io) else ixOf nm ds (i + 1)
theorem ixOf_get {nm : Str} : ∀ {ds : List DefC} {i j : Nat} {b : Bool}, ixOf nm ds i = some (j, b) → ∃ d, i ≤ j ∧ ds[j - i]? = some d ∧ d.d.name = nm ∧ d.fn.io = b
  | [], _, _, _, h => by cases h
  | d :: ds, i, j, b, h => by
    unfold ixOf at h
    split at h
    · rename_i e
      cases h
      exact ⟨d, Nat.le_refl _, by simp, e, rfl⟩
    · obtain ⟨d', h1, h2, h3, h4⟩ := ixOf_get h
      refine ⟨d', by omega, ?_, h3, h4⟩
      have : j - i = (j - (i + 1)) + 1 := by omega
      rw [this, List.getElem?_cons_succ]; exact h2
/-- the module's other names -/
structure Nms where
  glob : Str → Option D
  exc : Str → Option Nat
  free : Str → Bool
def cfOf (M : Nms) (ds : List DefC) (d : DefC) : Cf := ⟨d.N, fun nm => ixOf nm ds 0, M.glob, M.exc, M.free⟩
def tbl (ds : List DefC) : Nat → Option Fn := fun i => (ds[i]?).map (·.fn)
/-- the shape of a def -/
def shB (d : DefC) : Bool := decide (d.d.scope.kind = .function) && !d.d.scope.isCoroutine && !d.d.scope.isGenerator && decide d.N.Nodup && decide (d.N.take d.ps.length = d.ps) &&
  d.ps.all (fun x => kB d.d.scope x .local || kB d.d.scope x .cell) && d.d.scope.names.all (fun y => !(y.2 == NameKind.free)) && d.d.dfl.isEmpty && d.d.kwd.isEmpty && decide (d.fn.np = d.ps.length) && decide (d.fn.ns = d.N.length)
theorem shB_sc {d : DefC} (h : shB d = true) : FnScope d.N d.ps d.d.scope := by
  simp only [shB, Bool.and_eq_true, decide_eq_true_eq, Bool.not_eq_true', List.all_eq_true, Bool.or_eq_true] at h
  obtain ⟨⟨⟨⟨⟨⟨⟨⟨⟨⟨h1, h2⟩, h3⟩, h4⟩, h5⟩, h6⟩, h7⟩, _⟩, _⟩, _⟩, _⟩ := h
  refine ⟨h1, h2, h3, h4, h5, fun x hx => ?_, fun y hy e => ?_⟩
  · rcases h6 x hx with z | z
    · exact .inl (kB_ok z)
    · exact .inr (kB_ok z)
  · have := h7 y hy
    rw [e] at this
    cases this
theorem shB_rest {d : DefC} (h : shB d = true) : d.d.dfl = [] ∧ d.d.kwd = [] ∧ d.fn.np = d.ps.length ∧ d.fn.ns = d.N.length := by
  simp only [shB, Bool.and_eq_true, decide_eq_true_eq, List.isEmpty_iff] at h
  exact ⟨h.1.1.1.2, h.1.1.2, h.1.2, h.2⟩
def bodyB (F : Fns) (cls : Nat → Value) (M : Nms) (ds : List DefC) (d : DefC) : Bool := (mkSs (c := cfOf M ds d) (F := F) (cls := cls) (mkE 40) d.d.scope 60 d.fn.body d.d.body).isSome
/-- every call with all parameters given -/
def BindOk (d : DefC) : Prop := ∀ (kV doc pm : Value) (an : Option Addr) (cdv ct : Value) (us : List Value), us.length = d.ps.length →
  bindArgs (PySem.W.fnOf d.d.name d.d.qual d.d.params d.d.body d.d.scope .none kV doc pm an cdv ct) ⟨us, []⟩ = pure (d.ps.zip us)
structure AllOk (M : Nms) (ds : List DefC) : Prop where
  sh : ∀ d ∈ ds, shB d = true
  bd : ∀ d ∈ ds, BindOk d
  body : ∀ (F : Fns) (cls : Nat → Value), ∀ d ∈ ds, bodyB F cls M ds d = true
/-- what the top has written, by K and mg -/
structure TopOk (K : PySem.W.Frag) (mg : Str → Option Value) (cls : Nat → Value) (M : Nms) (ds : List DefC) : Prop where
  fn : ∀ d ∈ ds, ∃ fd, FunD K d.d.name d.d.qual d.d.params d.d.body d.d.scope [] [] (He.fAd K d.d.at_) fd ∧ mg d.d.name = some (.ref (He.fAd K d.d.at_))
  gl : ∀ nm d, M.glob nm = some d → ∃ v u, mg nm = some u ∧ RelV v u ∧ ∀ G, Rp K G v d
  fr : ∀ nm, M.free nm = true → mg nm = none
  ex : ∀ nm k, M.exc nm = some k → ∃ Ca, cls k = .ref Ca ∧ PySem.W.excIn K Ca He.veBase "ValueError.__new__" = true ∧ mg nm = some (.ref Ca) ∧ PySem.W.keepIn K (.ref Ca) = true ∧
    PySem.W.subIn K (.ref Ca) (.type "BaseException") = some true ∧ PySem.W.typeIn K (.ref Ca) = some (.type "type")
def spD (K : PySem.W.Frag) (cls : Nat → Value) (Fs : Fns) (i : Nat) : Bool → Sp
  | false => spF K cls (Fs.call i)
  | true => spM K cls (Fs.callM i)

section
variable {P : Program} {w : World} {K : PySem.W.Frag} {mg : Str → Option Value} {base : Heap} {cls : Nat → Value} {M : Nms} {ds : List DefC}
def W0 (cls : Nat → Value) (E : XK) : XW := fun k _ H => ∀ d, E (cls k) d H
theorem start_get {N : List Str} {vs : List V} {i : Nat} {v : V} (h : vs[i]? = some v) : (L2.start N vs)[i]? = some (some v) := by
  unfold L2.start
  have hi : i < vs.length := (List.getElem?_eq_some_iff.mp h).1
  rw [List.getElem?_append_left (by simpa using hi), List.getElem?_map, h]; rfl
theorem envv_get {ds : List D} {k i : Nat} {x : Slot} (h : (ds.map Slot.val ++ List.replicate k Slot.no)[i]? = some x) (hx : x ≠ .no) : ∃ d, ds[i]? = some d ∧ x = .val d := by
  by_cases hi : i < ds.length
  · rw [List.getElem?_append_left (by simpa using hi), List.getElem?_map] at h
    cases e : ds[i]? with
    | none => rw [e] at h; cases h
    | some d => rw [e] at h; cases h; exact ⟨d, rfl, rfl⟩
  · rw [List.getElem?_append_right (by simpa using hi), List.getElem?_replicate] at h
    split at h
    · cases h; exact absurd rfl hx
    · cases h
theorem rel_start {N : List Str} {vs : List V} {es : List D} {H G : Hp} {k : Nat} (g : Same G H) (r : Rps K G vs es) (hk : N.length = es.length + k) :
    Rel K ⟨H, G, none⟩ (es.map Slot.val ++ List.replicate k Slot.no) (L2.start N vs) H G where
  len := by
    unfold L2.start
    have := r.length
    simp; omega
  val := fun i d e => by
    obtain ⟨d', h1, h2⟩ := envv_get e (by simp)
    cases h2
    obtain ⟨v, h3, h4⟩ := r.get h1
    exact ⟨v, start_get h3, h4⟩
  own := fun i io o e => by
    obtain ⟨d', _, h2⟩ := envv_get e (by simp)
    cases h2
  dis := fun i j io jo o p a e => by
    obtain ⟨d', _, h2⟩ := envv_get e (by simp)
    cases h2
  sub := g
  g0 := Same.refl _
  kept := fun a o h _ => ⟨h, rfl⟩
  m := fun a h => by cases h
theorem rel_startM {N : List Str} {vs : List V} {es : List D} {H G : Hp} {k : Nat} {a : Addr} {o : Ow} (g : Same G H) (ga : G a = none) (w : OwAt K G H a o) (r : Rps K G vs es) (hk : N.length = es.length + 1 + k) :
    Rel K ⟨H, G, some a⟩ (Slot.own true o :: es.map Slot.val ++ List.replicate k Slot.no) (L2.start N (.ref a :: vs)) H G where
  len := by
    unfold L2.start
    have := r.length
    simp; omega
  val := fun i d e => by
    cases i with
    | zero => simp at e
    | succ i =>
      have e : (es.map Slot.val ++ List.replicate k Slot.no)[i]? = some (.val d) := by simpa using e
      obtain ⟨d', h1, h2⟩ := envv_get e (by simp)
      cases h2
      obtain ⟨v, h3, h4⟩ := r.get h1
      exact ⟨v, start_get (by simpa using h3), h4⟩
  own := fun i io p e => by
    cases i with
    | zero =>
      simp at e
      obtain ⟨rfl, rfl⟩ := e
      exact ⟨a, start_get rfl, ga, w, by simp⟩
    | succ i =>
      have e : (es.map Slot.val ++ List.replicate k Slot.no)[i]? = some (.own io p) := by simpa using e
      obtain ⟨d', _, h2⟩ := envv_get e (by simp)
      cases h2
  dis := fun i j io jo p q b e1 e2 s1 s2 => by
    cases i with
    | zero =>
      cases j with
      | zero => rfl
      | succ j =>
        have e : (es.map Slot.val ++ List.replicate k Slot.no)[j]? = some (.own jo q) := by simpa using e2
        obtain ⟨d', _, h2⟩ := envv_get e (by simp)
        cases h2
    | succ i =>
      have e : (es.map Slot.val ++ List.replicate k Slot.no)[i]? = some (.own io p) := by simpa using e1
      obtain ⟨d', _, h2⟩ := envv_get e (by simp)
      cases h2
  sub := g
  g0 := Same.refl _
  kept := fun b o h _ => ⟨h, rfl⟩
  m := fun b h => by
    cases h
    exact ⟨start_get rfl, o, rfl⟩
theorem runF_len {F : Fns} {f : Fn} {ds : List D} (h : runF F f ds ≠ .stuck) : ds.length = f.np := by
  unfold runF at h
  by_cases c : f.io = false ∧ ds.length = f.np
  · exact c.2
  · rw [if_neg c] at h; exact absurd rfl h
theorem runM_len {F : Fns} {f : Fn} {o : Ow} {ds : List D} (h : runM F f o ds ≠ .stuck) : ds.length + 1 = f.np := by
  unfold runM at h
  by_cases c : f.io = true ∧ ds.length + 1 = f.np
  · exact c.2
  · rw [if_neg c] at h; exact absurd rfl h
theorem mem_get {ds : List DefC} {i : Nat} {d : DefC} (h : ds[i]? = some d) : d ∈ ds := List.mem_of_getElem? h
theorem lev (A : AllOk M ds) (T : TopOk K mg cls M ds) : ∀ (n i : Nat) (d : DefC) (fd : FuncData), ds[i]? = some d → FunD K d.d.name d.d.qual d.d.params d.d.body d.d.scope [] [] (He.fAd K d.d.at_) fd →
    FnOk P w K mg base (L2.CX P w) n (He.fAd K d.d.at_) fd d.ps (spD K cls (prog (tbl ds) n) i d.fn.io)
  | 0, i, d, fd, hd, hf => by
    have no : ∀ vs H Q E, ¬ spD K cls (prog (tbl ds) 0) i d.fn.io vs H Q E := fun vs H Q E h => by
      cases hb : d.fn.io with
      | false =>
        rw [hb] at h
        obtain ⟨G, es, _, _, z⟩ := h
        exact z
      | true =>
        rw [hb] at h
        obtain ⟨G, a, ws, o, es, _, _, _, _, _, z⟩ := h
        exact z
    exact ⟨fun vs H Q E h => absurd h (no vs H Q E), fun A outer s H args us vs Q E _ _ _ _ h => absurd h (no vs H Q E)⟩
  | n + 1, i, d, fd, hd, hf => by
    have sh := A.sh d (mem_get hd)
    have S := shB_sc sh
    obtain ⟨_, _, hnp, hns⟩ := shB_rest sh
    have hpl : d.ps.length ≤ d.N.length := by have := congrArg List.length S.pre; rw [List.length_take] at this; omega
    have tb : tbl ds i = some d.fn := by unfold tbl; rw [hd]; rfl
    -- the body's judgement
    have body : ∀ (cdv : Value) (Ar : Around) (outer : List PySem.Env) (s : Shared) (H : Hp) (E : XK), Room n (Ar.deeper (envOfC d.d.qual d.d.scope s.heap.objs.size (He.fAd K d.d.at_) cdv)) →
        PSs (cxOf (L2.CX P w) P w K mg base d.N d.d.qual d.d.scope (He.fAd K d.d.at_) cdv Ar outer s H E) d.d.body (uS K (W0 cls E) (denS (prog (tbl ds) n) d.fn.body)) := by
      intro cdv Ar outer s H E hr
      have hb := A.body (prog (tbl ds) n) cls d (mem_get hd)
      unfold bodyB at hb
      obtain ⟨⟨h⟩, _⟩ := Option.isSome_iff_exists.mp hb
      refine (h (cxOf (L2.CX P w) P w K mg base d.N d.d.qual d.d.scope (He.fAd K d.d.at_) cdv Ar outer s H E) (W0 cls E) ?_).S
      have fnd : ∀ nm f b, ixOf nm ds 0 = some (f, b) → Ff (cxOf (L2.CX P w) P w K mg base d.N d.d.qual d.d.scope (He.fAd K d.d.at_) cdv Ar outer s H E) cls (spD K cls (prog (tbl ds) n) f b) nm := by
        intro nm f b e
        obtain ⟨d', _, h2, h3, h4⟩ := ixOf_get e
        have h2 : ds[f]? = some d' := h2
        obtain ⟨fd', k1, k2⟩ := T.fn d' (mem_get h2)
        subst h3 h4
        exact ⟨_, fd', d'.ps, n, lev A T n f d' fd' h2 k1, hr, k2, k1.kp, k1.bindsN (A.bd d' (mem_get h2))⟩
      refine ⟨rfl, rfl, ⟨rfl, S.nd, ?_, ?_⟩, fun nm f e => fnd nm f false e, fun nm f e => fnd nm f true e, T.gl, T.fr, fun nm k e => ?_, fun _ x => rfl, (fun raw e => by cases e), fun _ => PassesOwn.leaving⟩
      · have := hr.un
        show (Ar.deeper _).units + 65 < cLine
        omega
      · refine Takes.imp (takes_of rfl rfl rfl rfl) fun c dd σ H' ⟨k, hk, hw⟩ => ?_
        rw [← hk]; exact hw dd
      · obtain ⟨Ca, k1, k2, k3, k4, k5, k6⟩ := T.ex nm k e
        exact ⟨Ca, k1, k2, k3, k4, raises_own k5 k6⟩
    cases hio : d.fn.io with
    | false =>
      refine hf.ok S (fun vs H Q E h => ?_) (fun cdv Ar outer s H vs Q E hr h => ?_)
      · obtain ⟨G, es, _, r, h⟩ := h
        simp only [prog, tb] at h
        have := runF_len (F := prog (tbl ds) n) (f := d.fn) (ds := es) fun z => by rw [z] at h; exact h
        rw [r.length]; omega
      · refine ⟨_, body cdv Ar outer s H E hr, ?_⟩
        obtain ⟨G, es, g, r, h⟩ := h
        simp only [prog, tb, runF, hio] at h
        by_cases hl : es.length = d.fn.np
        · simp only [hl, and_self, if_true] at h
          refine ⟨⟨H, G, none⟩, _, G, rel_start g r (k := d.fn.ns - d.fn.np) (by omega), ?_⟩
          have post : ∀ {σ' H' G' env'}, Rel K ⟨H, G, none⟩ env' σ' H' G' → Same G G' → Post K H G none H' G' := fun {σ' H' G' env'} r' s' => by
            refine ⟨s', r'.sub, fun a ha => ?_, fun a o ha _ => r'.kept a o ha (by simp)⟩
            cases q : H a with
            | none => exact absurd q ha
            | some o => rw [(r'.kept a o q (by simp)).1]; simp
          match e : denS (prog (tbl ds) n) d.fn.body (es.map .val ++ List.replicate (d.fn.ns - d.fn.np) .no) with
          | .ok (.ret rr, env') =>
            rw [e] at h ⊢
            exact fun v σ' H' G' r' s' rv => h v H' G' (post r' s') rv
          | .ok (.next, env') =>
            rw [e] at h ⊢
            exact fun σ' H' G' r' s' => h .non H' G' (post r' s') .non
          | .exn cc env' =>
            rw [e] at h ⊢
            exact fun σ' H' G' r' s' dd => h dd H' G' (post r' s')
          | .ok (.brk, env') => rw [e] at h; exact h.elim
          | .ok (.cnt, env') => rw [e] at h; exact h.elim
          | .stuck => rw [e] at h; exact h.elim
        · simp only [hl, and_false, if_false] at h
    | true =>
      refine hf.ok S (fun vs H Q E h => ?_) (fun cdv Ar outer s H vs Q E hr h => ?_)
      · obtain ⟨G, a, ws, o, es, rfl, _, _, _, r, h⟩ := h
        simp only [prog, tb] at h
        have := runM_len (F := prog (tbl ds) n) (f := d.fn) (o := o) (ds := es) fun z => by rw [z] at h; exact h
        rw [List.length_cons, r.length]; omega
      · refine ⟨_, body cdv Ar outer s H E hr, ?_⟩
        obtain ⟨G, a, ws, o, es, rfl, g, ga, wo, r, h⟩ := h
        simp only [prog, tb, runM, hio] at h
        by_cases hl : es.length + 1 = d.fn.np
        · simp only [hl, and_self, if_true] at h
          refine ⟨⟨H, G, some a⟩, _, G, rel_startM g ga wo r (k := d.fn.ns - d.fn.np) (by omega), ?_⟩
          have post : ∀ {σ' H' G' env'}, Rel K ⟨H, G, some a⟩ env' σ' H' G' → Same G G' → ∃ o', ioOf env' = some o' ∧ Post K H G (some a) H' G' ∧ G' a = none ∧ OwAt K G' H' a o' := fun {σ' H' G' env'} r' s' => by
            obtain ⟨m1, o', m2⟩ := r'.m a rfl
            obtain ⟨b, q1, q2, q3, _⟩ := r'.own 0 true o' m2
            rw [m1] at q1; cases q1
            refine ⟨o', by unfold ioOf; rw [m2], ⟨s', r'.sub, fun b hb => ?_, fun b u hb hne => r'.kept b u hb hne⟩, q2, q3⟩
            by_cases z : some a = some b
            · cases z
              obtain ⟨u, hu⟩ := q3.some
              rw [hu]; simp
            · cases q : H b with
              | none => exact absurd q hb
              | some u => rw [(r'.kept b u q z).1]; simp
          match e : denS (prog (tbl ds) n) d.fn.body (.own true o :: es.map .val ++ List.replicate (d.fn.ns - d.fn.np) .no) with
          | .ok (.ret rr, env') =>
            rw [e] at h ⊢
            intro v σ' H' G' r' s' rv
            obtain ⟨o', p1, p2, p3, p4⟩ := post r' s'
            simp only [p1] at h
            exact h v H' G' p2 p3 p4 rv
          | .ok (.next, env') =>
            rw [e] at h ⊢
            intro σ' H' G' r' s'
            obtain ⟨o', p1, p2, p3, p4⟩ := post r' s'
            simp only [p1] at h
            exact h .non H' G' p2 p3 p4 .non
          | .exn cc env' =>
            rw [e] at h ⊢
            intro σ' H' G' r' s' dd
            obtain ⟨o', p1, p2, p3, p4⟩ := post r' s'
            simp only [p1] at h
            exact h dd H' G' p2 p3 p4
          | .ok (.brk, env') => rw [e] at h; exact h.elim
          | .ok (.cnt, env') => rw [e] at h; exact h.elim
          | .stuck => rw [e] at h; exact h.elim
        · simp only [hl, and_false, if_false] at h
end
end U
end

section
namespace U
open PySem PySem.Spec PyProof.Rows L2

/-! ### the law's end -/
structure Tops where
  tFrees : List Str
  tInts : List (Str × Int)
  tStrs : List (Str × List Nat)
  tExcs : List Str
def ixIn (nm : Str) : List Str → Nat → Option Nat
  | [], _ => none
  | x :: xs, i => if x = nm then some i else ixIn nm xs (i + 1)
theorem ixIn_get {nm : Str} : ∀ {xs : List Str} {i k : Nat}, ixIn nm xs i = some k → i ≤ k ∧ xs[k - i]? = some nm
  | [], _, _, h => by cases h
  | x :: xs, i, k, h => by
    rw [ixIn] at h
    split at h
    · rename_i e
      cases h
      exact ⟨Nat.le_refl _, by simp [e]⟩
    · obtain ⟨h1, h2⟩ := ixIn_get h
      refine ⟨by omega, ?_⟩
      have : k - i = (k - (i + 1)) + 1 := by omega
      rw [this, List.getElem?_cons_succ]; exact h2
def Tops.nms (t : Tops) : Nms where
  glob := fun nm => match t.tInts.lookup nm with
    | some i => some (.int i)
    | none => (match t.tStrs.lookup nm with
      | some l => if sOk l then some (S l) else none
      | none => none)
  exc := fun nm => ixIn nm t.tExcs 0
  free := fun nm => t.tFrees.contains nm
def Tops.facts (t : Tops) (ds : List DefC) : List He.Fa :=
  ds.map (fun d => .glo d.d.name) ++ t.tFrees.map .free ++ t.tInts.map (fun p => .int p.1 p.2) ++ t.tStrs.map (fun p => .str p.1 ⟨⟨p.2⟩⟩) ++ t.tExcs.map .exc ++ t.tExcs.map .glo
def Tops.cls (t : Tops) (K : PySem.W.Frag) (k : Nat) : Value := .ref (He.ga K (t.tExcs.getD k ""))
theorem lookup_mem {β : Type} {x : Str} {b : β} : ∀ {l : List (Str × β)}, l.lookup x = some b → (x, b) ∈ l
  | [], h => by cases h
  | (k, v) :: l, h => by
    rw [List.lookup_cons] at h
    split at h
    · rename_i e
      cases h
      rw [eq_of_beq e]
      exact List.mem_cons_self
    · exact List.mem_cons_of_mem _ (lookup_mem h)
theorem top_ok {K : PySem.W.Frag} {h : Heap} {mg : Str → Option Value} {t : Tops} {ds : List DefC} (X : K.In h) (G : h.Ns mainGlobals mg) (c : He.SaysD (t.facts ds) (ds.map (·.d)) K) (sh : ∀ d ∈ ds, shB d = true) (at0 : ∀ d ∈ ds, d.d.at_ = (d.d.name, none)) :
    TopOk K mg (t.cls K) t.nms ds := by
  have fact : ∀ f ∈ t.facts ds, f.ok K = true := fun f hf => by
    have c1 := (He.ba (show (((t.facts ds).all fun f => f.ok K) && (ds.map (·.d)).all fun d => d.ok K) = true from congrArg (fun z : He.AlD => z.1) c)).1
    exact List.all_eq_true.mp c1 f hf
  refine ⟨fun d hd => ?_, fun nm d e => ?_, fun nm e => ?_, fun nm k e => ?_⟩
  · obtain ⟨i, hi⟩ := List.getElem?_of_mem hd
    have h2 : (ds.map (·.d))[i]? = some d.d := by rw [List.getElem?_map, hi]; rfl
    obtain ⟨fd, F⟩ := c.def_ i h2
    obtain ⟨h3, h4, _⟩ := shB_rest (sh d hd)
    refine ⟨fd, ?_, ?_⟩
    · have e1 : d.d.dvs K = [] := by unfold He.DefD.dvs; rw [h3]; rfl
      have e2 : d.d.kws K = [] := by unfold He.DefD.kws; rw [h4]; rfl
      rw [e1, e2] at F
      exact F
    · have := He.glo_ok X G (fact (.glo d.d.name) (by unfold Tops.facts; simp only [List.append_assoc]; exact List.mem_append_left _ (List.mem_map.mpr ⟨d, hd, rfl⟩)))
      rw [this, at0 d hd]; rfl
  · unfold Tops.nms at e
    simp only at e
    split at e
    · rename_i i hi
      cases e
      obtain ⟨tk, hm⟩ := He.int_ok X G (fact (.int nm i) (by
        unfold Tops.facts
        simp only [List.mem_append, List.mem_map]
        exact .inl (.inl (.inl (.inr ⟨(nm, i), lookup_mem hi, rfl⟩)))))
      exact ⟨.int i, _, hm, ⟨tk, rfl⟩, fun _ => .int i⟩
    · split at e
      · rename_i l hl
        split at e
        · rename_i hok
          cases e
          obtain ⟨tk, hm⟩ := He.str_ok X G (fact (.str nm ⟨⟨l⟩⟩) (by
            unfold Tops.facts
            simp only [List.mem_append, List.mem_map]
            exact .inl (.inl (.inr ⟨(nm, l), lookup_mem hl, rfl⟩))))
          exact ⟨.str ⟨⟨l⟩⟩, _, hm, ⟨tk, rfl⟩, fun _ => .str _ hok⟩
        · cases e
      · cases e
  · have e : t.tFrees.contains nm = true := e
    exact He.free_ok X G (fact (.free nm) (by
      unfold Tops.facts
      simp only [List.mem_append, List.mem_map]
      exact .inl (.inl (.inl (.inl (.inr ⟨nm, by simpa using e, rfl⟩))))))
  · have e : ixIn nm t.tExcs 0 = some k := e
    obtain ⟨_, e2⟩ := ixIn_get e
    have e2 : t.tExcs[k]? = some nm := e2
    have hm : nm ∈ t.tExcs := List.mem_of_getElem? e2
    obtain ⟨c1, c2, c3, c4⟩ := He.exc_ok (fact (.exc nm) (by
      unfold Tops.facts
      simp only [List.mem_append, List.mem_map]
      exact .inl (.inr ⟨nm, hm, rfl⟩)))
    refine ⟨He.ga K nm, ?_, c1, ?_, c2, c3, c4⟩
    · unfold Tops.cls
      rw [List.getD_eq_getElem?_getD, e2]; rfl
    · exact He.glo_ok X G (fact (.glo nm) (by
        unfold Tops.facts
        simp only [List.mem_append, List.mem_map]
        exact .inr ⟨nm, hm, rfl⟩))
theorem ints_rps {K : PySem.W.Frag} {G : Hp} : ∀ ns : List Int, Rps K G (ns.map V.int) (ns.map PyData.int)
  | [] => .nil
  | n :: ns => .cons (.int n) (ints_rps ns)
/-- the script, locked -/
def scr (ns : List Int) : D := .dict [(.none, .list (ns.map PyData.int))]
theorem walk_U {l : PySem.W.OpenLaw} {q : Program} {loose : List Str} {XP : (Str → Option Value) → Heap → Prop} {dr : DefRec} {t : Tops} {ds : List DefC} {m k iL j : Nat} {dL : DefC} {x : Str}
    (A : AllOk t.nms ds) (at0 : ∀ d ∈ ds, d.d.at_ = (d.d.name, none)) (hl : ds[iL]? = some dL) (hx : dL.ps = [x]) (hio : dL.fn.io = false) (hn : l.most = some m) (hm : m ≤ sizeLine) (hdf : dr.params.defaults = []) (hr : Room k callerA) (hnm : dr.name = dL.d.name)
    (law : ∀ ns : List Int, ns.length ≤ m → (prog (tbl ds) k).call iL [scr ns] = .ret (.val (.bool true))) :
    PySem.W.WalkO q loose XP (He.hookD j (t.facts ds) (ds.map (·.d))).says l.row.toRowW dr [] (fun f vs => PySem.call f vs) := by
  refine Att.attach_call hn hdf fun w s₀ s₁ mg mb fa o pm cd doc a vs ns G Y ho hd hcd hmg hobj hints hlen hg => ?_
  obtain ⟨K, KX, c⟩ := Y
  have T : TopOk K mg (t.cls K) t.nms ds := top_ok KX G.T.g c A.sh at0
  obtain ⟨fd, F, hF⟩ := T.fn dL (mem_get hl)
  have e : some (Value.ref fa) = some (.ref (He.fAd K dL.d.at_)) := by rw [← hmg, hnm]; exact hF
  cases e
  have hb : ∀ (s : Shared) (u : Value), BindsTo s fd ⟨[u], []⟩ [(x, u)] := fun s u => by
    have := F.bindsA (A.bd dL (mem_get hl)) s [u] (by rw [hx]; rfl)
    rw [hx] at this
    exact this
  refine law_call (CX := L2.CX l.prog w) (sp := spF K (t.cls K) ((prog (tbl ds) k).call iL)) KX G.T.g G.T.b G.T.builtins G.T.nolimit hg hobj hints (Nat.le_trans hlen hm) hr (fun base _ _ => ?_) hb (fun H hO hS => ?_) fun H e s' h => ?_
  · have := lev (P := l.prog) (w := w) (base := base) A T k iL dL fd hl F
    rw [hio, hx] at this
    exact this
  · refine ⟨H, [scr ns], Same.refl _, .cons (.lck hS (ints_rps ns)) .nil, ?_⟩
    rw [law ns hlen]
    intro v H' G' _ hr
    have hr : Rp K G' v (.bool true) := hr
    cases hr
    rfl
  · obtain ⟨_, _, _, _, _, _, _, _, _, _, _, _, z⟩ := h
    exact z
end U
end

section
namespace U
open PySem

/-! ### the evaluator, by computation -/
@[simp] theorem tx_mk (l : List Nat) : tx ⟨⟨l⟩⟩ = l := rfl
@[simp] theorem bind_ok' {α β : Type} (a : α) (f : α → Out β) : (Out.ok a).bind f = f a := rfl
@[simp] theorem bind_stuck' {α β : Type} (f : α → Out β) : (Out.stuck : Out α).bind f = .stuck := rfl
@[simp] theorem bind_exn' {α β : Type} (c : Nat) (e : Ev) (f : α → Out β) : (Out.exn c e : Out α).bind f = .exn c e := rfl
/-- what is fixed by what stands behind it -/
def Fx {α β : Type} (f : α → Out β) : Type := PUnit
def fx {α β : Type} (f : α → Out β) : Fx f := PUnit.unit
def Out.bnd {α β : Type} (x : Out α) (f : α → Out β) (_ : Fx f) : Out β := x.bind f
@[simp ↓] theorem to_bnd {α β : Type} (x : Out α) (f : α → Out β) : x.bind f = x.bnd f (fx f) := rfl
@[simp] theorem bnd_ok {α β : Type} (a : α) (f : α → Out β) (u : Fx f) : (Out.ok a).bnd f u = f a := rfl
@[simp] theorem bnd_stuck {α β : Type} (f : α → Out β) (u : Fx f) : (Out.stuck : Out α).bnd f u = .stuck := rfl
@[simp] theorem bnd_exn {α β : Type} (c : Nat) (e : Ev) (f : α → Out β) (u : Fx f) : (Out.exn c e : Out α).bnd f u = .exn c e := rfl
@[simp] theorem ofO_some {α : Type} (a : α) : ofO (some a) = .ok a := rfl
@[simp] theorem ofO_none {α : Type} : ofO (none : Option α) = .stuck := rfl
@[simp] theorem noX_ok' {α : Type} (a : α) : noX (.ok a) = .ok a := rfl
@[simp] theorem q_denL_1 : type_of% @denL.eq_1 := @denL.eq_1
@[simp] theorem q_denL_2 : type_of% @denL.eq_2 := @denL.eq_2
@[simp low] theorem q_denL_3 : type_of% @denL.eq_3 := @denL.eq_3
@[simp] theorem q_denOs_1 : type_of% @denOs.eq_1 := @denOs.eq_1
@[simp] theorem q_denOs_2 : type_of% @denOs.eq_2 := @denOs.eq_2
@[simp low] theorem q_denOs_3 : type_of% @denOs.eq_3 := @denOs.eq_3
@[simp] theorem q_denP_1 : type_of% @denP.eq_1 := @denP.eq_1
@[simp] theorem q_denP_2 : type_of% @denP.eq_2 := @denP.eq_2
@[simp low] theorem q_denP_3 : type_of% @denP.eq_3 := @denP.eq_3
@[simp] theorem q_denC_1 : type_of% @denC.eq_1 := @denC.eq_1
@[simp] theorem q_denC_2 : type_of% @denC.eq_2 := @denC.eq_2
@[simp low] theorem q_denC_3 : type_of% @denC.eq_3 := @denC.eq_3
@[simp] theorem q_denI_1 : type_of% @denI.eq_1 := @denI.eq_1
@[simp] theorem q_denI_2 : type_of% @denI.eq_2 := @denI.eq_2
@[simp] theorem q_denI_3 : type_of% @denI.eq_3 := @denI.eq_3
@[simp] theorem q_denI_4 : type_of% @denI.eq_4 := @denI.eq_4
@[simp low] theorem q_denI_5 : type_of% @denI.eq_5 := @denI.eq_5
@[simp] theorem q_denS_1 : type_of% @denS.eq_1 := @denS.eq_1
@[simp] theorem q_denS_2 : type_of% @denS.eq_2 := @denS.eq_2
@[simp] theorem q_denS_3 : type_of% @denS.eq_3 := @denS.eq_3
@[simp] theorem q_denS_4 : type_of% @denS.eq_4 := @denS.eq_4
@[simp] theorem q_denS_5 : type_of% @denS.eq_5 := @denS.eq_5
@[simp] theorem q_denS_6 : type_of% @denS.eq_6 := @denS.eq_6
@[simp] theorem q_denS_7 : type_of% @denS.eq_7 := @denS.eq_7
@[simp] theorem q_denS_8 : type_of% @denS.eq_8 := @denS.eq_8
@[simp] theorem q_denS_9 : type_of% @denS.eq_9 := @denS.eq_9
@[simp] theorem q_denS_10 : type_of% @denS.eq_10 := @denS.eq_10
@[simp] theorem q_denS_11 : type_of% @denS.eq_11 := @denS.eq_11
@[simp] theorem q_denS_12 : type_of% @denS.eq_12 := @denS.eq_12
@[simp] theorem q_denS_13 : type_of% @denS.eq_13 := @denS.eq_13
@[simp] theorem q_denS_14 : type_of% @denS.eq_14 := @denS.eq_14
@[simp] theorem q_denS_15 : type_of% @denS.eq_15 := @denS.eq_15
@[simp] theorem q_denS_16 : type_of% @denS.eq_16 := @denS.eq_16
@[simp] theorem q_denS_17 : type_of% @denS.eq_17 := @denS.eq_17
@[simp] theorem q_denS_18 : type_of% @denS.eq_18 := @denS.eq_18
@[simp] theorem q_resAll_1 : type_of% @resAll.eq_1 := @resAll.eq_1
@[simp] theorem q_resAll_2 : type_of% @resAll.eq_2 := @resAll.eq_2
@[simp] theorem q_bindT_1 : type_of% @bindT.eq_1 := @bindT.eq_1
@[simp] theorem q_bindT_2 : type_of% @bindT.eq_2 := @bindT.eq_2
@[simp low] theorem q_bindT_3 : type_of% @bindT.eq_3 := @bindT.eq_3
@[simp] theorem q_bindTs_1 : type_of% @bindTs.eq_1 := @bindTs.eq_1
@[simp] theorem q_bindTs_2 : type_of% @bindTs.eq_2 := @bindTs.eq_2
@[simp low] theorem q_bindTs_3 : type_of% @bindTs.eq_3 := @bindTs.eq_3
@[simp] theorem q_wipeE_1 : type_of% @wipeE.eq_1 := @wipeE.eq_1
@[simp] theorem q_wipeE_2 : type_of% @wipeE.eq_2 := @wipeE.eq_2
@[simp] theorem q_backE_1 : type_of% @backE.eq_1 := @backE.eq_1
@[simp] theorem q_backE_2 : type_of% @backE.eq_2 := @backE.eq_2
@[simp] theorem q_tgNames_1 : type_of% @tgNames.eq_1 := @tgNames.eq_1
@[simp] theorem q_tgNames_2 : type_of% @tgNames.eq_2 := @tgNames.eq_2
@[simp] theorem q_tgNames_3 : type_of% @tgNames.eq_3 := @tgNames.eq_3
@[simp low] theorem q_tgNames_4 : type_of% @tgNames.eq_4 := @tgNames.eq_4
section
variable (F : Fns) (env : Ev)
@[simp] theorem dE_slot (i : Nat) : denE F (.slot i) env = (match env[i]? with
      | some (.val d) => .ok (.val d, env)
      | some (.own false o) => .ok (.val o.toD, env.set i (.val o.toD))
      | _ => .stuck) := by rw [denE] <;> rfl
@[simp] theorem dE_lit (d : D) : denE F (.lit d) env = .ok (.val d, env) := by rw [denE]
@[simp] theorem dE_glob (d : D) : denE F (.glob d) env = .ok (.val d, env) := by rw [denE]
@[simp] theorem dE_bin (o : B2) (a b : Tx) : denE F (.bin o a b) env = (opd a (denE F a) env).bind fun p => (opd b (denE F b) p.2).bind fun q =>
      (ofO (res q.2 p.1)).bind fun x => (ofO (res q.2 q.1)).bind fun y => (ofO (binD o x y)).bind fun r => .ok (r.toR, q.2) := by rw [denE]
@[simp] theorem dE_neg (a : Tx) : denE F (.neg a) env = (opd a (denE F a) env).bind fun p => (match res p.2 p.1 with | some (.int i) => .ok (.val (.int (-i)), p.2) | _ => .stuck) := by rw [denE] <;> rfl
@[simp] theorem dE_not (a : Tx) : denE F (.not a) env = (tst (opd a (denE F a)) env).bind fun p => .ok (.val (.bool (!p.1)), p.2) := by rw [denE]
@[simp] theorem dE_cmp (o : C2) (a b : Tx) : denE F (.cmp o a b) env = (opd a (denE F a) env).bind fun p => (opd b (denE F b) p.2).bind fun q =>
      (ofO (res q.2 p.1)).bind fun x => (ofO (res q.2 q.1)).bind fun y => (ofO (cmpD o x y)).bind fun r => .ok (.val (.bool r), q.2) := by rw [denE]
@[simp] theorem dE_chain (o1 o2 : C2) (a b c : Tx) : denE F (.chain o1 o2 a b c) env = (opd a (denE F a) env).bind fun p => (opd b (denE F b) p.2).bind fun q =>
      (ofO (res q.2 p.1)).bind fun x => (ofO (res q.2 q.1)).bind fun y => (ofO (cmpD o1 x y)).bind fun r =>
        if r then (opd c (denE F c) q.2).bind fun s => (ofO (res s.2 q.1)).bind fun y => (ofO (res s.2 s.1)).bind fun z => (ofO (cmpD o2 y z)).bind fun r => .ok (.val (.bool r), s.2)
        else .ok (.val (.bool false), q.2) := by rw [denE]
@[simp] theorem dE_and (a b : Tx) : denE F (.and a b) env = (opd a (denE F a) env).bind fun p => (ofO (res p.2 p.1)).bind fun d => if truOk d then (if truD d then denE F b p.2 else (ofO (opdV p.1)).bind fun d => .ok (.val d, p.2)) else .stuck := by rw [denE]
@[simp] theorem dE_or (a b : Tx) : denE F (.or a b) env = (opd a (denE F a) env).bind fun p => (ofO (res p.2 p.1)).bind fun d => if truOk d then (if truD d then (ofO (opdV p.1)).bind fun d => .ok (.val d, p.2) else denE F b p.2) else .stuck := by rw [denE]
@[simp] theorem dE_ite (c a b : Tx) : denE F (.ite c a b) env = (tst (opd c (denE F c)) env).bind fun p => if p.1 then denE F a p.2 else denE F b p.2 := by rw [denE]
@[simp] theorem dE_call (f : Nat) (args : Tx) : denE F (.call f args) env = (denL F args env).bind fun p => (match F.call f p.1 with
      | .ret r => .ok (r, p.2)
      | .exn c => .exn c p.2
      | .stuck => .stuck) := by rw [denE] <;> rfl
@[simp] theorem dE_bi (f : Bi) (args : Tx) : denE F (.bi f args) env = (denOs F args env).bind fun p => (ofO (resAll p.2 p.1)).bind fun ds => (ofO (biD f ds)).bind fun r => .ok (r.toR, p.2) := by rw [denE]
@[simp] theorem dE_me (m : Me) (o args : Tx) : denE F (.me m o args) env = (opd o (denE F o) env).bind fun p => (ofO (res p.2 p.1)).bind fun d0 => if meR m d0 then
      (denOs F args p.2).bind fun q => (ofO (res q.2 p.1)).bind fun d => if knd d = knd d0 then (ofO (resAll q.2 q.1)).bind fun ds => (ofO (meD m d ds)).bind fun r => .ok (r.toR, q.2) else .stuck
      else .stuck := by rw [denE]
@[simp] theorem dE_idx (a i : Tx) : denE F (.idx a i) env = (opd a (denE F a) env).bind fun p => (opd i (denE F i) p.2).bind fun q =>
      (ofO (res q.2 p.1)).bind fun x => (ofO (res q.2 q.1)).bind fun y => (ofO (idxD x y)).bind fun r => .ok (.val r, q.2) := by rw [denE]
@[simp] theorem dE_sl (a lo hi : Tx) : denE F (.sl a lo hi) env = (opd a (denE F a) env).bind fun p => (denP F lo p.2).bind fun q => (denP F hi q.2).bind fun s =>
      (ofO (res s.2 p.1)).bind fun x => (ofO (slD x q.1 s.1)).bind fun r => .ok (r.toR, s.2) := by rw [denE]
@[simp] theorem dE_rev (a : Tx) : denE F (.rev a) env = (opd a (denE F a) env).bind fun p => (match res p.2 p.1 with
      | some (.str x) => if (tx x).length ≤ line then .ok (.val (S (tx x).reverse), p.2) else .stuck
      | some (.list xs) => .ok (.fr (.lst xs.reverse), p.2)
      | some (.tuple xs) => .ok (.val (.tuple xs.reverse), p.2)
      | _ => .stuck) := by rw [denE] <;> rfl
@[simp] theorem dE_tup (es : Tx) : denE F (.tup es) env = (denL F es env).bind fun p => if p.1.length ≤ line then .ok (.val (.tuple p.1), p.2) else .stuck := by rw [denE]
@[simp] theorem dE_lst (es : Tx) : denE F (.lst es) env = (denL F es env).bind fun p => if p.1.length ≤ line then .ok (.fr (.lst p.1), p.2) else .stuck := by rw [denE]
theorem dE_callM (f i : Nat) (args : Tx) : denE F (.callM f i args) env = (match env[i]? with
      | some (.own _ _) => (denL F args env).bind fun p => (match p.2[i]? with
          | some (.own io o) => (match F.callM f o p.1 with
              | .ret r o' => .ok (r, p.2.set i (.own io o'))
              | .exn c o' => .exn c (p.2.set i (.own io o'))
              | .stuck => .stuck)
          | _ => .stuck)
      | _ => .stuck) := by rw [denE] <;> rfl
end
section
variable (f : Ev → Out (R × Ev)) (env : Ev)
@[simp] theorem op_slot (i : Nat) : opd (.slot i) f env = (match env[i]? with
      | some (.val d) => .ok (.val d, env)
      | some (.own _ _) => .ok (.slot i, env)
      | _ => .stuck) := rfl
@[simp] theorem op_lit (d : D) : opd (.lit d) f env = (f env).bind fun p => .ok (.val p.1.toD, p.2) := rfl
@[simp] theorem op_glob (d : D) : opd (.glob d) f env = (f env).bind fun p => .ok (.val p.1.toD, p.2) := rfl
@[simp] theorem op_bin (o : B2) (a b : Tx) : opd (.bin o a b) f env = (f env).bind fun p => .ok (.val p.1.toD, p.2) := rfl
@[simp] theorem op_neg (a : Tx) : opd (.neg a) f env = (f env).bind fun p => .ok (.val p.1.toD, p.2) := rfl
@[simp] theorem op_not (a : Tx) : opd (.not a) f env = (f env).bind fun p => .ok (.val p.1.toD, p.2) := rfl
@[simp] theorem op_cmp (o : C2) (a b : Tx) : opd (.cmp o a b) f env = (f env).bind fun p => .ok (.val p.1.toD, p.2) := rfl
@[simp] theorem op_chain (o p : C2) (a b c : Tx) : opd (.chain o p a b c) f env = (f env).bind fun p => .ok (.val p.1.toD, p.2) := rfl
@[simp] theorem op_and (a b : Tx) : opd (.and a b) f env = (f env).bind fun p => .ok (.val p.1.toD, p.2) := rfl
@[simp] theorem op_or (a b : Tx) : opd (.or a b) f env = (f env).bind fun p => .ok (.val p.1.toD, p.2) := rfl
@[simp] theorem op_ite (a b c : Tx) : opd (.ite a b c) f env = (f env).bind fun p => .ok (.val p.1.toD, p.2) := rfl
@[simp] theorem op_call (i : Nat) (a : Tx) : opd (.call i a) f env = (f env).bind fun p => .ok (.val p.1.toD, p.2) := rfl
@[simp] theorem op_callM (i j : Nat) (a : Tx) : opd (.callM i j a) f env = (f env).bind fun p => .ok (.val p.1.toD, p.2) := rfl
@[simp] theorem op_bi (o : Bi) (a : Tx) : opd (.bi o a) f env = (f env).bind fun p => .ok (.val p.1.toD, p.2) := rfl
@[simp] theorem op_me (o : Me) (a b : Tx) : opd (.me o a b) f env = (f env).bind fun p => .ok (.val p.1.toD, p.2) := rfl
@[simp] theorem op_idx (a b : Tx) : opd (.idx a b) f env = (f env).bind fun p => .ok (.val p.1.toD, p.2) := rfl
@[simp] theorem op_sl (a b c : Tx) : opd (.sl a b c) f env = (f env).bind fun p => .ok (.val p.1.toD, p.2) := rfl
@[simp] theorem op_rev (a : Tx) : opd (.rev a) f env = (f env).bind fun p => .ok (.val p.1.toD, p.2) := rfl
@[simp] theorem op_popAt (i : Nat) (a : Tx) : opd (.popAt i a) f env = (f env).bind fun p => .ok (.val p.1.toD, p.2) := rfl
@[simp] theorem op_pop0 (i : Nat) : opd (.pop0 i) f env = (f env).bind fun p => .ok (.val p.1.toD, p.2) := rfl
@[simp] theorem op_tup (a : Tx) : opd (.tup a) f env = (f env).bind fun p => .ok (.val p.1.toD, p.2) := rfl
@[simp] theorem op_lst (a : Tx) : opd (.lst a) f env = (f env).bind fun p => .ok (.val p.1.toD, p.2) := rfl
end
/-! the tables, row by row -/
@[simp] theorem bi_len_str (l : List Nat) : biD .len [S l] = if l.length ≤ line then some (.val (.int l.length)) else none := rfl
@[simp] theorem bi_len_list (l : List D) : biD .len [.list l] = some (.val (.int l.length)) := rfl
@[simp] theorem bi_len_tuple (l : List D) : biD .len [.tuple l] = some (.val (.int l.length)) := rfl
@[simp] theorem bi_abs (i : Int) : biD .abs [.int i] = some (.val (.int (if i < 0 then -i else i))) := rfl
@[simp] theorem bi_int (i : Int) : biD .int [.int i] = some (.val (.int i)) := rfl
@[simp] theorem bi_str (x : Str) : biD .str [.str x] = some (.val (.str x)) := rfl
@[simp] theorem bi_list_list (l : List D) : biD .list [.list l] = some (.fr (.lst l)) := rfl
@[simp] theorem bi_list_tuple (l : List D) : biD .list [.tuple l] = some (.fr (.lst l)) := rfl
@[simp] theorem bi_list_scr (l : List D) : biD .list [.dict [(.none, .list l)]] = some (.fr (.lst l)) := rfl
@[simp] theorem bi_list_str (l : List Nat) : biD .list [S l] = if l.length ≤ line then some (.fr (.lst (l.map fun c => S [c]))) else none := rfl
@[simp] theorem bi_tuple_list (l : List D) : biD .tuple [.list l] = some (.nt l) := rfl
@[simp] theorem bi_tuple_tuple (l : List D) : biD .tuple [.tuple l] = some (.val (.tuple l)) := rfl
@[simp] theorem bi_tuple_str (l : List Nat) : biD .tuple [S l] = if l.length ≤ line then some (.nt (l.map fun c => S [c])) else none := rfl
@[simp] theorem bi_sum (l : List D) : biD .sum [.list l] = (intsOf l).map fun ns => .val (.int ns.sum) := rfl
@[simp] theorem bi_all (l : List D) : biD .all [.list l] = (boolsOf l).map fun bs => .val (.bool (bs.all id)) := rfl
@[simp] theorem bi_any (l : List D) : biD .any [.list l] = (boolsOf l).map fun bs => .val (.bool (bs.any id)) := rfl
@[simp] theorem isi_none (t : List String) : biD (.isinst t) [.none] = some (.val (.bool false)) := rfl
@[simp] theorem isi_bool (t : List String) (b : Bool) : biD (.isinst t) [.bool b] = some (.val (.bool (t.contains "bool" || t.contains "int"))) := rfl
@[simp] theorem isi_int (t : List String) (b : Int) : biD (.isinst t) [.int b] = some (.val (.bool (t.contains "int"))) := rfl
@[simp] theorem isi_str (t : List String) (b : Str) : biD (.isinst t) [.str b] = some (.val (.bool (t.contains "str"))) := rfl
@[simp] theorem isi_list (t : List String) (b : List D) : biD (.isinst t) [.list b] = some (.val (.bool (t.contains "list"))) := rfl
@[simp] theorem isi_tuple (t : List String) (b : List D) : biD (.isinst t) [.tuple b] = some (.val (.bool (t.contains "tuple"))) := rfl
@[simp] theorem cm_le (i j : Int) : cmpD .le (.int i) (.int j) = some (decide (i ≤ j)) := rfl
@[simp] theorem cm_lt (i j : Int) : cmpD .lt (.int i) (.int j) = some (decide (i < j)) := rfl
@[simp] theorem cm_ge (i j : Int) : cmpD .ge (.int i) (.int j) = some (decide (j ≤ i)) := rfl
@[simp] theorem cm_gt (i j : Int) : cmpD .gt (.int i) (.int j) = some (decide (j < i)) := rfl
@[simp] theorem cm_eq (i j : Int) : cmpD .eq (.int i) (.int j) = some (decide (i = j)) := rfl
@[simp] theorem cm_ne (i j : Int) : cmpD .ne (.int i) (.int j) = some (!decide (i = j)) := rfl
@[simp] theorem cm_eqb (i j : Bool) : cmpD .eq (.bool i) (.bool j) = some (i == j) := rfl
@[simp] theorem cm_eqs (i j : List Nat) : cmpD .eq (S i) (S j) = some (decide (i = j)) := rfl
@[simp] theorem cm_nes (i j : List Nat) : cmpD .ne (S i) (S j) = some (!decide (i = j)) := rfl
@[simp] theorem cm_lts (i j : List Nat) : cmpD .lt (S i) (S j) = some (ltS i j) := rfl
@[simp] theorem cm_les (i j : List Nat) : cmpD .le (S i) (S j) = some (!ltS j i) := rfl
@[simp] theorem cm_ins (c : Nat) (j : List Nat) : cmpD .isin (S [c]) (S j) = some (j.contains c) := rfl
@[simp] theorem cm_notins (c : Nat) (j : List Nat) : cmpD .notin (S [c]) (S j) = some (!j.contains c) := rfl
theorem cm_isN (x : D) : cmpD .is x .none = some (match x with | .none => true | _ => false) := by cases x <;> rfl
theorem cm_isnotN (x : D) : cmpD .isnot x .none = some (match x with | .none => false | _ => true) := by cases x <;> rfl
@[simp] theorem cm_isN0 : cmpD .is .none .none = some true := rfl
@[simp] theorem cm_isN1 (i : Int) : cmpD .is (.int i) .none = some false := rfl
@[simp] theorem cm_isN2 (i : Bool) : cmpD .is (.bool i) .none = some false := rfl
@[simp] theorem cm_isN3 (i : Str) : cmpD .is (.str i) .none = some false := rfl
@[simp] theorem cm_isN4 (i : List D) : cmpD .is (.tuple i) .none = some false := rfl
@[simp] theorem cm_isN5 (i : List D) : cmpD .is (.list i) .none = some false := rfl
@[simp] theorem cm_isb (i j : Bool) : cmpD .is (.bool i) (.bool j) = some (decide (i = j)) := rfl
@[simp] theorem bn_add (i j : Int) : binD .add (.int i) (.int j) = some (.val (.int (i + j))) := rfl
@[simp] theorem bn_sub (i j : Int) : binD .sub (.int i) (.int j) = some (.val (.int (i - j))) := rfl
@[simp] theorem bn_mul (i j : Int) : binD .mul (.int i) (.int j) = if mulOk i j then some (.val (.int (i * j))) else none := rfl
@[simp] theorem bn_fdiv (i j : Int) : binD .fdiv (.int i) (.int j) = if decide (0 < j) && decide (j < 1073741824) then some (.val (.int (i / j))) else none := rfl
@[simp] theorem bn_mod (i j : Int) : binD .mod (.int i) (.int j) = if 0 < j then some (.val (.int (i % j))) else none := rfl
@[simp] theorem bn_adds (i j : List Nat) : binD .add (S i) (S j) = if i.length + j.length ≤ line then some (.val (S (i ++ j))) else none := rfl
@[simp] theorem bn_addl (i j : List D) : binD .add (.list i) (.list j) = if i.length + j.length ≤ line then some (.fr (.lst (i ++ j))) else none := rfl
def catT : List D → List D → Rs
  | [], ys => .val (.tuple ys)
  | x :: xs, [] => .val (.tuple (x :: xs))
  | x :: xs, y :: ys => .nt ((x :: xs) ++ (y :: ys))
@[simp] theorem bn_addt (i j : List D) : binD .add (.tuple i) (.tuple j) = if i.length + j.length ≤ line then some (catT i j) else none := by
  cases i <;> cases j <;> rfl
@[simp] theorem catT_toR (i j : List D) : (catT i j).toR = .val (.tuple (i ++ j)) := by
  cases i <;> cases j <;> simp [catT, Rs.toR]
@[simp] theorem bn_muls (i : List Nat) (k : Int) : binD .mul (S i) (.int k) = if decide (-(2 ^ 63) ≤ k) && decide (k < 2 ^ 63) && decide (i.length * k.toNat ≤ line) then some (.val (S (List.replicate k.toNat i).flatten)) else none := rfl
@[simp] theorem bn_mull (i : List D) (k : Int) : binD .mul (.list i) (.int k) = if decide (-(2 ^ 63) ≤ k) && decide (k < 2 ^ 63) && decide (i.length * k.toNat ≤ line) then some (.fr (.lst (List.replicate k.toNat i).flatten)) else none := rfl
@[simp] theorem bn_mult (i : List D) (k : Int) : binD .mul (.tuple i) (.int k) = if k = 1 then some (.val (.tuple i)) else if !i.isEmpty && decide (2 ≤ k) && decide (k ≤ 1000) && decide (i.length ≤ 1000) then some (.nt (List.replicate k.toNat i).flatten) else none := rfl
@[simp] theorem ix_list (l : List D) (i : Int) : idxD (.list l) (.int i) = (ixAt l.length i).bind fun j => l[j]? := rfl
@[simp] theorem ix_tuple (l : List D) (i : Int) : idxD (.tuple l) (.int i) = (ixAt l.length i).bind fun j => l[j]? := rfl
@[simp] theorem ix_str (l : List Nat) (i : Int) : idxD (S l) (.int i) = if l.length ≤ line then (ixAt l.length i).bind fun j => (l[j]?).map fun c => S [c] else none := rfl
@[simp] theorem sl_str (l : List Nat) (lo hi : Option Int) : slD (S l) lo hi = if l.length ≤ line then some (.val (S (cut l lo hi))) else none := rfl
@[simp] theorem sl_list (l : List D) (lo hi : Option Int) : slD (.list l) lo hi = some (.fr (.lst (cut l lo hi))) := rfl
theorem cut_all {α : Type} (l : List α) (lo hi : Option Int) (h : bnd l.length 0 lo = 0 ∧ bnd l.length l.length hi = l.length) : cut l lo hi = l := by
  unfold cut; rw [h.1, h.2]; simp
def slT (l : List D) (lo hi : Option Int) : Rs := if bnd l.length 0 lo = 0 ∧ bnd l.length l.length hi = l.length then .val (.tuple l) else .nt (cut l lo hi)
@[simp] theorem sl_tuple (l : List D) (lo hi : Option Int) : (slD (.tuple l) lo hi) = some (slT l lo hi) := rfl
@[simp] theorem sl_toR (l : List D) (lo hi : Option Int) : (slT l lo hi).toR = .val (.tuple (cut l lo hi)) := by
  unfold slT
  split
  · rename_i h; rw [cut_all l lo hi h]; rfl
  · rfl
@[simp] theorem meR1 (x : Str) : meR .join (.str x) = true := rfl
@[simp] theorem meR2 (x : Str) : meR .index (.str x) = true := rfl
@[simp] theorem meR3 (x : List D) : meR .index (.list x) = true := rfl
@[simp] theorem meR4 (x : Str) : meR .count (.str x) = true := rfl
@[simp] theorem meR5 (x : List D) : meR .count (.list x) = true := rfl
@[simp] theorem me_j1 (s : List Nat) (xs : List D) : meD .join (S s) [.list xs] = joinD s xs := rfl
@[simp] theorem me_j2 (s : List Nat) (xs : List D) : meD .join (S s) [.tuple xs] = joinD s xs := rfl
@[simp] theorem me_is (s : List Nat) (c : Nat) : meD .index (S s) [S [c]] = (ixS c s).map fun i => Rs.val (.int (i : Nat)) := by
  cases h : ixS c s <;> simp [meD, h]
@[simp] theorem me_cs (s : List Nat) (c : Nat) : meD .count (S s) [S [c]] = some (.val (.int (s.countP fun d => decide (d = c)))) := rfl
@[simp] theorem frz_ok (r : R) (e : Ev) : frz (.ok (r, e)) = .ok (r.toD, e) := rfl
@[simp] theorem frz_exn (c : Nat) (e : Ev) : frz (.exn c e) = .exn c e := rfl
@[simp] theorem R_val (d : D) : (R.val d).toD = d := rfl
@[simp] theorem R_lst (d : List D) : (R.fr (.lst d)).toD = .list d := rfl
@[simp] theorem R_dic (d : List (D × D)) : (R.fr (.dic d)).toD = .dict d := rfl
@[simp] theorem Ow_lst (d : List D) : (Ow.lst d).toD = .list d := rfl
@[simp] theorem Ow_dic (d : List (D × D)) : (Ow.dic d).toD = .dict d := rfl
@[simp] theorem Rs_val (d : D) : (Rs.val d).toR = .val d := rfl
@[simp] theorem Rs_fr (o : Ow) : (Rs.fr o).toR = .fr o := rfl
@[simp] theorem Rs_nt (o : List D) : (Rs.nt o).toR = .val (.tuple o) := rfl
@[simp] theorem res_val (env : Ev) (d : D) : res env (.val d) = some d := rfl
@[simp] theorem res_slot (env : Ev) (i : Nat) : res env (.slot i) = env[i]?.bind slotD := rfl
@[simp] theorem slotD_val (d : D) : slotD (.val d) = some d := rfl
@[simp] theorem slotD_own (b : Bool) (o : Ow) : slotD (.own b o) = some o.toD := rfl
@[simp] theorem opdV_val (d : D) : opdV (.val d) = some d := rfl
@[simp] theorem opdV_slot (i : Nat) : opdV (.slot i) = none := rfl
@[simp] theorem isIo_val (d : D) : isIo (some (.val d)) = false := rfl
@[simp] theorem isIo_no' : isIo (some .no) = false := rfl
@[simp] theorem isIo_none : isIo none = false := rfl
@[simp] theorem isIo_own (b : Bool) (o : Ow) : isIo (some (.own b o)) = b := by cases b <;> rfl
@[simp] theorem isL_lst (b : Bool) (ds : List D) : isL (some (.own b (.lst ds))) = true := rfl
@[simp] theorem truOk_bool (b : Bool) : truOk (.bool b) = true := rfl
@[simp] theorem truD_bool (b : Bool) : truD (.bool b) = b := rfl
@[simp] theorem truOk_list (b : List D) : truOk (.list b) = true := rfl
@[simp] theorem truD_list (b : List D) : truD (.list b) = !b.isEmpty := rfl
@[simp] theorem truOk_tuple (b : List D) : truOk (.tuple b) = true := rfl
@[simp] theorem truD_tuple (b : List D) : truD (.tuple b) = !b.isEmpty := rfl
@[simp] theorem truOk_int (b : Int) : truOk (.int b) = true := rfl
@[simp] theorem truD_int (b : Int) : truD (.int b) = decide (b ≠ 0) := rfl
@[simp] theorem truOk_none : truOk .none = true := rfl
@[simp] theorem truD_none : truD .none = false := rfl
@[simp] theorem itemsD_list (b : List D) : itemsD (.list b) = some b := rfl
@[simp] theorem itemsD_tuple (b : List D) : itemsD (.tuple b) = some b := rfl
@[simp] theorem itemsD_str (b : List Nat) : itemsD (S b) = some (b.map fun c => S [c]) := rfl
/-- a test by what its operand is -/
theorem tst_of {g : Ev → Out (Opd × Ev)} {env e1 : Ev} {o : Opd} {d : D} (h : g env = .ok (o, e1)) (r : res e1 o = some d) (k : truOk d = true) : tst g env = .ok (truD d, e1) := by
  unfold tst
  rw [h, bind_ok', r, ofO_some, bind_ok', if_pos k]
theorem call_eq {T : Nat → Option Fn} {i : Nat} {f : Fn} (n : Nat) (h : T i = some f) (ds : List D) : (prog T (n + 1)).call i ds = runF (prog T n) f ds := by simp [prog, h]
theorem callM_eq {T : Nat → Option Fn} {i : Nat} {f : Fn} (n : Nat) (h : T i = some f) (o : Ow) (ds : List D) : (prog T (n + 1)).callM i o ds = runM (prog T n) f o ds := by simp [prog, h]

/-! ### lists of one kind -/
@[simp] theorem boolsOf_map {α : Type} (p : α → Bool) : ∀ xs : List α, boolsOf (xs.map fun x => PyData.bool (p x)) = some (xs.map p)
  | [] => rfl
  | x :: xs => by simp [boolsOf, boolsOf_map p xs]
@[simp] theorem intsOf_map {α : Type} (p : α → Int) : ∀ xs : List α, intsOf (xs.map fun x => PyData.int (p x)) = some (xs.map p)
  | [] => rfl
  | x :: xs => by simp [intsOf, intsOf_map p xs]
@[simp] theorem strsOf_map {α : Type} (p : α → List Nat) : ∀ xs : List α, strsOf (xs.map fun x => S (p x)) = some (xs.map p)
  | [] => rfl
  | x :: xs => by simp [strsOf, strsOf_map p xs]
theorem all_map_id {α : Type} (p : α → Bool) (xs : List α) : (xs.map p).all id = xs.all p := by
  rw [List.all_map]; rfl
theorem any_map_id {α : Type} (p : α → Bool) (xs : List α) : (xs.map p).any id = xs.any p := by
  rw [List.any_map]; rfl

/-! ### a comprehension that only looks -/
theorem wipeE_same {e1 e2 : Ev} {own : List Nat} (hl : e1.length = e2.length) (h : ∀ i, i ∉ own → e1[i]? = e2[i]?) : wipeE e1 own = wipeE e2 own := by
  refine List.ext_getElem? fun j => ?_
  by_cases hj : j ∈ own
  · by_cases hlt : j < e1.length
    · have h1 : j < (wipeE e1 own).length := by rw [wipeE_len]; exact hlt
      have h2 : j < (wipeE e2 own).length := by rw [wipeE_len, ← hl]; exact hlt
      have q1 := wipeE_in hj _ (List.getElem?_eq_getElem h1)
      have q2 := wipeE_in hj _ (List.getElem?_eq_getElem h2)
      rw [List.getElem?_eq_getElem h1, List.getElem?_eq_getElem h2, q1, q2]
    · rw [List.getElem?_eq_none (by rw [wipeE_len]; omega), List.getElem?_eq_none (by rw [wipeE_len]; omega)]
  · rw [wipeE_out hj, wipeE_out hj]; exact h j hj
theorem backE_same {e1 e2 : Ev} {own : List Nat} (hl : e2.length = e1.length) (h : ∀ i, i ∉ own → e2[i]? = e1[i]?) : backE e1 e2 own = e1 := by
  refine List.ext_getElem? fun j => ?_
  by_cases hj : j ∈ own
  · by_cases hlt : j < e2.length
    · rw [backE_in hj hlt, List.getD_eq_getElem?_getD, List.getElem?_eq_getElem (by omega)]; rfl
    · rw [List.getElem?_eq_none (by rw [backE_len]; omega), List.getElem?_eq_none (by omega)]
  · rw [backE_out hj]; exact h j hj
mutual
theorem bindT_len : ∀ (x : Tx) (d : D) (env env' : Ev), bindT x d env = some env' → env'.length = env.length ∧ ∀ i, i ∉ tgNames x → env'[i]? = env[i]?
  | .slot i, d, env, env', h => by
    rw [bindT] at h
    split at h
    · cases h
    · cases h
      refine ⟨List.length_set, fun j hj => List.getElem?_set_ne fun e => hj ?_⟩
      rw [tgNames, e]; exact List.mem_singleton.mpr rfl
  | .tup es, .tuple ds, env, env', h => by
    rw [bindT] at h
    obtain ⟨h1, h2⟩ := bindTs_len' es ds env env' h
    exact ⟨h1, fun i hi => h2 i (by rw [tgNames] at hi; exact hi)⟩
  | .tup es, .none, _, _, h => by simp [bindT] at h
  | .tup es, .bool _, _, _, h => by simp [bindT] at h
  | .tup es, .int _, _, _, h => by simp [bindT] at h
  | .tup es, .str _, _, _, h => by simp [bindT] at h
  | .tup es, .list _, _, _, h => by simp [bindT] at h
  | .tup es, .dict _, _, _, h => by simp [bindT] at h
  | .lit _, _, _, _, h => by simp [bindT] at h
  | .glob _, _, _, _, h => by simp [bindT] at h
  | .bin _ _ _, _, _, _, h => by simp [bindT] at h
  | .neg _, _, _, _, h => by simp [bindT] at h
  | .not _, _, _, _, h => by simp [bindT] at h
  | .cmp _ _ _, _, _, _, h => by simp [bindT] at h
  | .chain _ _ _ _ _, _, _, _, h => by simp [bindT] at h
  | .and _ _, _, _, _, h => by simp [bindT] at h
  | .or _ _, _, _, _, h => by simp [bindT] at h
  | .ite _ _ _, _, _, _, h => by simp [bindT] at h
  | .call _ _, _, _, _, h => by simp [bindT] at h
  | .callM _ _ _, _, _, _, h => by simp [bindT] at h
  | .bi _ _, _, _, _, h => by simp [bindT] at h
  | .me _ _ _, _, _, _, h => by simp [bindT] at h
  | .idx _ _, _, _, _, h => by simp [bindT] at h
  | .sl _ _ _, _, _, _, h => by simp [bindT] at h
  | .rev _, _, _, _, h => by simp [bindT] at h
  | .popAt _ _, _, _, _, h => by simp [bindT] at h
  | .pop0 _, _, _, _, h => by simp [bindT] at h
  | .lst _, _, _, _, h => by simp [bindT] at h
  | .dict0, _, _, _, h => by simp [bindT] at h
  | .comp _ _ _ _ _, _, _, _, h => by simp [bindT] at h
  | .comp2 _ _ _ _ _ _ _ _, _, _, _, h => by simp [bindT] at h
  | .nil, _, _, _, h => by simp [bindT] at h
  | .cons _ _, _, _, _, h => by simp [bindT] at h
  | .itR _, _, _, _, h => by simp [bindT] at h
  | .itZ _ _, _, _, _, h => by simp [bindT] at h
  | .itE _, _, _, _, h => by simp [bindT] at h
theorem bindTs_len' : ∀ (x : Tx) (ds : List D) (env env' : Ev), bindTs x ds env = some env' → env'.length = env.length ∧ ∀ i, i ∉ tgNames x → env'[i]? = env[i]?
  | .nil, [], env, env', h => by rw [bindTs] at h; cases h; exact ⟨rfl, fun _ _ => rfl⟩
  | .nil, _ :: _, _, _, h => by simp [bindTs] at h
  | .cons e es, [], _, _, h => by simp [bindTs] at h
  | .cons e es, d :: ds, env, env', h => by
    simp only [bindTs, Option.bind_eq_some_iff] at h
    obtain ⟨env1, h1, h2⟩ := h
    obtain ⟨a1, a2⟩ := bindT_len e d env env1 h1
    obtain ⟨b1, b2⟩ := bindTs_len' es ds env1 env' h2
    refine ⟨b1.trans a1, fun i hi => ?_⟩
    rw [tgNames] at hi
    exact (b2 i fun z => hi (List.mem_append_right _ z)).trans (a2 i fun z => hi (List.mem_append_left _ z))
  | .slot _, _, _, _, h => by simp [bindTs] at h
  | .tup _, _, _, _, h => by simp [bindTs] at h
  | .lit _, _, _, _, h => by simp [bindTs] at h
  | .glob _, _, _, _, h => by simp [bindTs] at h
  | .bin _ _ _, _, _, _, h => by simp [bindTs] at h
  | .neg _, _, _, _, h => by simp [bindTs] at h
  | .not _, _, _, _, h => by simp [bindTs] at h
  | .cmp _ _ _, _, _, _, h => by simp [bindTs] at h
  | .chain _ _ _ _ _, _, _, _, h => by simp [bindTs] at h
  | .and _ _, _, _, _, h => by simp [bindTs] at h
  | .or _ _, _, _, _, h => by simp [bindTs] at h
  | .ite _ _ _, _, _, _, h => by simp [bindTs] at h
  | .call _ _, _, _, _, h => by simp [bindTs] at h
  | .callM _ _ _, _, _, _, h => by simp [bindTs] at h
  | .bi _ _, _, _, _, h => by simp [bindTs] at h
  | .me _ _ _, _, _, _, h => by simp [bindTs] at h
  | .idx _ _, _, _, _, h => by simp [bindTs] at h
  | .sl _ _ _, _, _, _, h => by simp [bindTs] at h
  | .rev _, _, _, _, h => by simp [bindTs] at h
  | .popAt _ _, _, _, _, h => by simp [bindTs] at h
  | .pop0 _, _, _, _, h => by simp [bindTs] at h
  | .lst _, _, _, _, h => by simp [bindTs] at h
  | .dict0, _, _, _, h => by simp [bindTs] at h
  | .comp _ _ _ _ _, _, _, _, h => by simp [bindTs] at h
  | .comp2 _ _ _ _ _ _ _ _, _, _, _, h => by simp [bindTs] at h
  | .itR _, _, _, _, h => by simp [bindTs] at h
  | .itZ _ _, _, _, _, h => by simp [bindTs] at h
  | .itE _, _, _, _, h => by simp [bindTs] at h
end
/-- one turn that only looks: nothing, or the item -/
def Turn1 (F : Fns) (own : List Nat) (tg cs el : Tx) (env : Ev) (d : D) (g : Option D) : Prop := match bindT tg d (wipeE env own) with
  | none => False
  | some e2 => (match g with
    | none => denC F cs e2 = .ok (false, e2)
    | some y => denC F cs e2 = .ok (true, e2) ∧ frz (denE F el e2) = .ok (y, e2))
theorem loopC_pure {F : Fns} {own : List Nat} {tg cs el : Tx} {env : Ev} (ht : (tgNames tg).all own.contains = true) {α : Type} (ι : α → D) (g : α → Option D) : ∀ (xs : List α) (acc : List D) (e1 : Ev), e1.length = env.length → (∀ i, i ∉ own → e1[i]? = env[i]?) →
    (∀ x ∈ xs, Turn1 F own tg cs el env (ι x) (g x)) → acc.length + xs.length ≤ line →
    ∃ e2, loopC (fun d env => bindT tg d (wipeE env own)) (denC F cs) (fun env => frz (denE F el env)) (xs.map ι) acc e1 = .ok (acc ++ xs.filterMap g, e2) ∧ e2.length = env.length ∧ ∀ i, i ∉ own → e2[i]? = env[i]?
  | [], acc, e1, h1, h2, _, _ => ⟨e1, by simp [loopC], h1, h2⟩
  | x :: xs, acc, e1, h1, h2, h3, h4 => by
    have t := h3 x List.mem_cons_self
    unfold Turn1 at t
    have ew := wipeE_same h1 h2
    rw [List.map_cons, loopC]
    rw [ew]
    cases hb : bindT tg (ι x) (wipeE env own) with
    | none => rw [hb] at t; exact t.elim
    | some e2 =>
      rw [hb] at t
      obtain ⟨b1, b2⟩ := bindT_len _ _ _ _ hb
      have l2 : e2.length = env.length := by rw [b1, wipeE_len]
      have o2 : ∀ i, i ∉ own → e2[i]? = env[i]? := fun i hi => by
        rw [b2 i fun z => hi (all_in ht i z), wipeE_out hi]
      simp only [ofO_some, bind_ok']
      simp only [List.length_cons] at h4
      cases hg : g x with
      | none =>
        rw [hg] at t
        have t : denC F cs e2 = .ok (false, e2) := t
        rw [t]
        obtain ⟨e3, r1, r2⟩ := loopC_pure ht ι g xs acc e2 l2 o2 (fun y hy => h3 y (List.mem_cons_of_mem _ hy)) (by omega)
        exact ⟨e3, by rw [List.filterMap_cons, hg]; exact r1, r2⟩
      | some y =>
        rw [hg] at t
        obtain ⟨t1, t2⟩ := t
        rw [t1]
        obtain ⟨e3, r1, r2⟩ := loopC_pure ht ι g xs (acc ++ [y]) e2 l2 o2 (fun y hy => h3 y (List.mem_cons_of_mem _ hy)) (by simp; omega)
        refine ⟨e3, ?_, r2⟩
        rw [List.filterMap_cons, hg]
        simp only [bind_ok', t2, if_true]
        rw [if_pos (by omega)]
        rw [List.append_assoc] at r1
        exact r1
theorem comp_pure {F : Fns} {own : List Nat} {tg it cs el : Tx} {env : Ev} {α : Type} (ι : α → D) (g : α → Option D) (xs : List α) (hi : denI F it env = .ok (xs.map ι, env)) (ht : ((tgNames tg).all own.contains && own.all fun v => !isIo env[v]?) = true)
    (h : ∀ x ∈ xs, Turn1 F own tg cs el env (ι x) (g x)) (hl : xs.length ≤ line) : denE F (.comp own tg it cs el) env = .ok (.fr (.lst (xs.filterMap g)), env) := by
  have ht1 := (Bool.and_eq_true_iff.mp ht).1
  obtain ⟨e2, r1, r2, r3⟩ := loopC_pure (F := F) (cs := cs) (el := el) ht1 ι g xs [] env rfl (fun _ _ => rfl) h (by simpa using hl)
  rw [denE, hi]
  simp only [bind_ok', ht, if_true, r1, noX_ok', List.nil_append]
  rw [backE_same r2 r3]
/-- each item is taken -/
theorem comp_map {F : Fns} {own : List Nat} {tg it el : Tx} {env : Ev} {α : Type} (ι : α → D) (g : α → D) (xs : List α) (hi : denI F it env = .ok (xs.map ι, env)) (ht : ((tgNames tg).all own.contains && own.all fun v => !isIo env[v]?) = true)
    (h : ∀ x ∈ xs, Turn1 F own tg .nil el env (ι x) (some (g x))) (hl : xs.length ≤ line) : denE F (.comp own tg it .nil el) env = .ok (.fr (.lst (xs.map g)), env) := by
  have := comp_pure (F := F) (cs := .nil) ι (fun x => some (g x)) xs hi ht h hl
  rw [this, List.filterMap_eq_map']
/-- some are taken -/
theorem comp_filter {F : Fns} {own : List Nat} {tg it cs el : Tx} {env : Ev} {α : Type} (ι : α → D) (p : α → Bool) (g : α → D) (xs : List α) (hi : denI F it env = .ok (xs.map ι, env)) (ht : ((tgNames tg).all own.contains && own.all fun v => !isIo env[v]?) = true)
    (h : ∀ x ∈ xs, Turn1 F own tg cs el env (ι x) (if p x then some (g x) else none)) (hl : xs.length ≤ line) : denE F (.comp own tg it cs el) env = .ok (.fr (.lst ((xs.filter p).map g)), env) := by
  have := comp_pure (F := F) (cs := cs) ι (fun x => if p x then some (g x) else none) xs hi ht h hl
  rw [this]
  have key : ∀ l : List α, l.filterMap (fun x => if p x then some (g x) else none) = (l.filter p).map g := fun l => by
    induction l with
    | nil => rfl
    | cons x l ih =>
      rw [List.filterMap_cons, List.filter_cons]
      cases p x
      · simpa using ih
      · simpa using ih
  rw [key]
theorem ixAt_nat {n i : Nat} (h : i < n) : ixAt n (i : Int) = some i := by
  simp [ixAt]; omega
theorem opd_nm {x : Tx} (hx : notSlot x = true) {f : Ev → Out (R × Ev)} {env e : Ev} {r : R} (h : f env = .ok (r, e)) : opd x f env = .ok (.val r.toD, e) := by
  unfold opd
  split
  · cases hx
  · rw [h]; rfl
theorem turn_of {F : Fns} {own : List Nat} {tg cs el : Tx} {env e2 : Ev} {d : D} {g : Option D} (hb : bindT tg d (wipeE env own) = some e2) (h : match g with
    | none => denC F cs e2 = .ok (false, e2)
    | some y => denC F cs e2 = .ok (true, e2) ∧ frz (denE F el e2) = .ok (y, e2)) : Turn1 F own tg cs el env d g := by
  unfold Turn1; rw [hb]; exact h
end U
end

section
namespace U
open PySem

/-! ### the defs that every law has -/
def cupOk (o : Ow) : Prop := ∃ x y : Int, o = .lst [.int x, .int y] ∧ 0 ≤ x ∧ 0 ≤ y ∧ y < 4294967296
def cupFn (a b c m e : Int) : Fn := ⟨1, 2, false, (.seq (.asg (.slot 1) (.bi .abs (.cons (.idx (.bin .add (.bi .list (.cons (.slot 0) .nil)) (.lst (.cons (.lit (.int 0)) .nil))) (.lit (.int 0))) .nil))) (.seq (.ret (.lst (.cons (.ite (.cmp .ge (.slot 1) (.bin .pow (.lit (.int 10)) (.lit (.int 18)))) (.bin .fdiv (.slot 1) (.lit (.int a))) (.lit (.int 0))) (.cons (.bin .add (.bin .mod (.bi .int (.cons (.bin .add (.bin .mul (.slot 1) (.lit (.int b))) (.lit (.int c))) .nil)) (.lit (.int m))) (.lit (.int e))) .nil)))) .nop))⟩
def rollFn (a b m c g h : Int) : Fn := ⟨2, 4, true, (.seq (.ifs (.cmp .gt (.idx (.slot 0) (.lit (.int 0))) (.lit (.int 0))) (.seq (.asg (.slot 3) (.bin .mod (.bi .int (.cons (.idx (.slot 0) (.lit (.int 0))) .nil)) (.slot 1))) (.seq (.setI 0 (.lit (.int 0)) (.bin .fdiv (.idx (.slot 0) (.lit (.int 0))) (.slot 1))) (.seq (.ret (.slot 3)) .nop))) .nop) (.seq (.setI 0 (.lit (.int 1)) (.bin .mod (.bi .int (.cons (.bin .add (.bin .mul (.idx (.slot 0) (.lit (.int 1))) (.lit (.int a))) (.lit (.int b))) .nil)) (.lit (.int m)))) (.seq (.asg (.slot 2) (.bin .mod (.bi .int (.cons (.bin .mul (.idx (.slot 0) (.lit (.int 1))) (.bin .add (.idx (.slot 0) (.lit (.int 1))) (.lit (.int c)))) .nil)) (.lit (.int g)))) (.seq (.ret (.bin .mod (.bi .int (.cons (.bin .fdiv (.slot 2) (.lit (.int h))) .nil)) (.slot 1))) .nop))))⟩
def someFn (i : Nat) : Fn := ⟨2, 2, true, (.seq (.ret (.idx (.slot 1) (.callM i 0 (.cons (.bi .len (.cons (.slot 1) .nil)) .nil)))) .nop)⟩
@[simp] theorem asgR_val (i : Nat) (d : D) (env : Ev) : asgR i (.val d) env = if isIo env[i]? then .stuck else .ok (env.set i (.val d)) := rfl
@[simp] theorem asgR_fr (i : Nat) (o : Ow) (env : Ev) : asgR i (.fr o) env = if isIo env[i]? then .stuck else .ok (env.set i (.own false o)) := rfl
@[simp] theorem ixAt00 (n : Nat) : ixAt (n + 1) 0 = some 0 := by
  have : (0 : Int) < ((n + 1 : Nat) : Int) := by omega
  unfold ixAt
  rw [if_pos (by decide), if_pos this]; rfl
@[simp] theorem ixAt11 (n : Nat) : ixAt (n + 2) 1 = some 1 := by
  have : (1 : Int) < ((n + 2 : Nat) : Int) := by omega
  unfold ixAt
  rw [if_pos (by decide), if_pos this]; rfl
@[simp] theorem ixAt21 : ixAt 2 1 = some 1 := rfl
@[simp] theorem ixAt20 : ixAt 2 0 = some 0 := rfl
@[simp] theorem line0 : (0 ≤ line) = True := by simp
@[simp] theorem line1 : (1 ≤ line) = True := by simp [line]
@[simp] theorem line2 : (2 ≤ line) = True := by simp [line]
@[simp] theorem line3 : (3 ≤ line) = True := by simp [line]
@[simp] theorem line4 : (4 ≤ line) = True := by simp [line]
@[simp] theorem line5 : (5 ≤ line) = True := by simp [line]
@[simp] theorem line6 : (6 ≤ line) = True := by simp [line]
theorem mulOk_l {i j : Int} (h1 : -(2 ^ 64) < i) (h2 : i < 2 ^ 64) : mulOk i j = true := by
  unfold mulOk
  rw [decide_eq_true h1, decide_eq_true h2]; rfl
theorem mulOk_r {i j : Int} (h1 : -(2 ^ 64) < j) (h2 : j < 2 ^ 64) : mulOk i j = true := by
  unfold mulOk
  rw [decide_eq_true h1, decide_eq_true h2]; simp
@[simp] theorem bn_pow1018 : binD .pow (.int 10) (.int 18) = some (.val (.int 1000000000000000000)) := by
  rfl
theorem roll_ok (F : Fns) {a b m c g h : Int} (hm : 0 < m ∧ m < 4294967296) (ha : 0 ≤ a ∧ a < 2 ^ 64) (hg : 0 < g) (hh : 0 < h ∧ h < 1073741824) {o : Ow} (ho : cupOk o) {many : Int} (h1 : 0 < many) (h2 : many < 1073741824) :
    ∃ v o', runM F (rollFn a b m c g h) o [.int many] = .ret (.val (.int v)) o' ∧ cupOk o' ∧ 0 ≤ v ∧ v < many := by
  obtain ⟨x, y, rfl, hx, hy, hy2⟩ := ho
  by_cases hp : 0 < x
  · refine ⟨x % many, .lst [.int (x / many), .int y], ?_, ⟨_, _, rfl, Int.ediv_nonneg hx (by omega), hy, hy2⟩, Int.emod_nonneg _ (by omega), Int.emod_lt_of_pos _ h1⟩
    simp -implicitDefEqProofs [runM, rollFn, tst, hp, h1, h2, ioOf]
  · have ym : mulOk y a = true := mulOk_l (by omega) (by omega)
    have z0 : 0 ≤ (y * a + b) % m := Int.emod_nonneg _ (by omega)
    have z1 : (y * a + b) % m < m := Int.emod_lt_of_pos _ hm.1
    have zm : mulOk ((y * a + b) % m) ((y * a + b) % m + c) = true := mulOk_l (by omega) (by omega)
    refine ⟨((y * a + b) % m * ((y * a + b) % m + c) % g / h) % many, .lst [.int x, .int ((y * a + b) % m)], ?_, ⟨_, _, rfl, hx, z0, by omega⟩, Int.emod_nonneg _ (by omega), Int.emod_lt_of_pos _ h1⟩
    simp -implicitDefEqProofs [runM, rollFn, tst, hp, h1, h2, ioOf, ym, hm.1, zm, hg, hh.1, hh.2]
theorem cup_ok (F : Fns) {a b c m e : Int} (ha : 0 < a ∧ a < 1073741824) (hb : 0 ≤ b ∧ b < 2 ^ 64) (hm : 0 < m ∧ m < 2147483648) (he : 0 ≤ e ∧ e < 1000000) (ns : List Int) (hl : ns.length ≤ 63) :
    ∃ o, runF F (cupFn a b c m e) [scr ns] = .ret (.fr o) ∧ cupOk o := by
  have key : ∀ z : Int, ∃ o, (∃ xs : List D, ns.map PyData.int ++ [.int 0] = .int z :: xs) → runF F (cupFn a b c m e) [scr ns] = .ret (.fr o) ∧ cupOk o := by
    intro z
    have mk : mulOk (if z < 0 then -z else z) b = true := mulOk_r (by omega) (by omega)
    have q0 : 0 ≤ ((if z < 0 then -z else z) * b + c) % m := Int.emod_nonneg _ (by omega)
    have q1 : ((if z < 0 then -z else z) * b + c) % m < m := Int.emod_lt_of_pos _ hm.1
    by_cases hz : (1000000000000000000 : Int) ≤ (if z < 0 then -z else z)
    · refine ⟨.lst [.int ((if z < 0 then -z else z) / a), .int (((if z < 0 then -z else z) * b + c) % m + e)], fun ⟨xs, hx⟩ => ⟨?_, _, _, rfl, ?_, by omega, by omega⟩⟩
      · have hlen : ns.length + 1 ≤ line := by have : line = 16777216 := rfl; omega
        simp -implicitDefEqProofs [runF, cupFn, scr, hx, hlen, tst, mk, hz, ha.1, ha.2, hm.1]
      · exact Int.ediv_nonneg (by split <;> omega) (by omega)
    · refine ⟨.lst [.int 0, .int (((if z < 0 then -z else z) * b + c) % m + e)], fun ⟨xs, hx⟩ => ⟨?_, _, _, rfl, by omega, by omega, by omega⟩⟩
      have hlen : ns.length + 1 ≤ line := by have : line = 16777216 := rfl; omega
      simp -implicitDefEqProofs [runF, cupFn, scr, hx, hlen, tst, mk, hz, ha.1, ha.2, hm.1]
  cases ns with
  | nil =>
    obtain ⟨o, h⟩ := key 0
    exact ⟨o, h ⟨[], rfl⟩⟩
  | cons n ns =>
    obtain ⟨o, h⟩ := key n
    exact ⟨o, h ⟨ns.map PyData.int ++ [.int 0], rfl⟩⟩

/-! ### range -/
theorem rangeT_map : ∀ (n : Nat) (lo : Int), rangeT lo n = (List.range n).map fun j : Nat => PyData.int (lo + j)
  | 0, lo => rfl
  | n + 1, lo => by
    rw [rangeT, rangeT_map n (lo + 1), List.range_succ_eq_map, List.map_cons, List.map_map]
    congr 1
    · simp
    · refine List.map_congr_left fun j _ => ?_
      show PyData.int (lo + 1 + j) = PyData.int (lo + ((j + 1 : Nat) : Int))
      congr 1; omega
theorem denI_r1a {F : Fns} {x : Tx} {env e : Ev} {j : Int} (h : frz (denE F x env) = .ok (.int j, e)) (k : (decide (-(2 ^ 62) ≤ j) && decide (j < 2 ^ 62)) = true) : denI F (.itR (.cons x .nil)) env = .ok (rangeT 0 j.toNat, e) := by
  simp only [denI, denL, h, bind_ok', k, if_true]
theorem denI_r2a {F : Fns} {x y : Tx} {env e1 e2 : Ev} {i j : Int} (h : frz (denE F x env) = .ok (.int i, e1)) (h' : frz (denE F y e1) = .ok (.int j, e2)) (k : (decide (-(2 ^ 62) ≤ i) && decide (i < 2 ^ 62) && decide (-(2 ^ 62) ≤ j) && decide (j < 2 ^ 62)) = true) :
    denI F (.itR (.cons x (.cons y .nil))) env = .ok (rangeT i (j - i).toNat, e2) := by
  simp only [denI, denL, h, h', bind_ok', k, if_true]
theorem rng_ok {j : Int} (h1 : 0 ≤ j) (h2 : j ≤ 16777216) : decide (-(2 ^ 62) ≤ j) = true ∧ decide (j < 2 ^ 62) = true := ⟨decide_eq_true (by omega), decide_eq_true (by omega)⟩
theorem nat_line {n : Nat} (h : n ≤ line) : (n : Int) ≤ 16777216 := Int.ofNat_le.mpr h
theorem denI_r1 {F : Fns} {x : Tx} {env e : Ev} {n : Nat} (h : frz (denE F x env) = .ok (.int n, e)) (hn : n ≤ line) : denI F (.itR (.cons x .nil)) env = .ok ((List.range n).map fun j : Nat => PyData.int j, e) := by
  obtain ⟨k1, k2⟩ := rng_ok (Int.natCast_nonneg n) (nat_line hn)
  rw [denI_r1a h (by rw [k1, k2]; rfl), Int.toNat_natCast, rangeT_map]
  have : (fun j : Nat => PyData.int (0 + (j : Int))) = fun j : Nat => PyData.int j := by funext j; rw [Int.zero_add]
  rw [this]
theorem denI_r2 {F : Fns} {x y : Tx} {env e1 e2 : Ev} {a b : Nat} (h : frz (denE F x env) = .ok (.int a, e1)) (h' : frz (denE F y e1) = .ok (.int b, e2)) (ha : a ≤ line) (hb : b ≤ line) :
    denI F (.itR (.cons x (.cons y .nil))) env = .ok ((List.range (b - a)).map fun j : Nat => PyData.int ((a + j : Nat) : Int), e2) := by
  obtain ⟨k1, k2⟩ := rng_ok (Int.natCast_nonneg a) (nat_line ha)
  obtain ⟨k3, k4⟩ := rng_ok (Int.natCast_nonneg b) (nat_line hb)
  have e : ((b : Int) - (a : Int)).toNat = b - a := by omega
  rw [denI_r2a h h' (by rw [k1, k2, k3, k4]; rfl), e, rangeT_map]
  have : (fun j : Nat => PyData.int ((a : Int) + (j : Int))) = fun j : Nat => PyData.int ((a + j : Nat) : Int) := by funext j; rw [Int.natCast_add]
  rw [this]

/-! ### same -/
@[simp] theorem cm_isb0 (b : Bool) : cmpD .is (.bool b) (.bool true) = some b := by cases b <;> rfl
def sameC (i : Nat) : Tx := .comp [2] (.slot 2) (.itR (.cons (.bi .len (.cons (.slot 1) .nil)) .nil)) .nil (.call i (.cons (.idx (.slot 0) (.slot 2)) (.cons (.idx (.slot 1) (.slot 2)) .nil)))
def sameFn (i : Nat) : Fn := ⟨2, 3, false, (.seq (.ifs (.bi (.isinst ["tuple"]) (.cons (.slot 1) .nil)) (.seq (.ifs (.or (.not (.bi (.isinst ["tuple"]) (.cons (.slot 0) .nil))) (.cmp .ne (.bi .len (.cons (.slot 0) .nil)) (.bi .len (.cons (.slot 1) .nil)))) (.seq (.ret (.lit (.bool false))) .nop) .nop) (.seq (.ret (.bi .all (.cons (sameC i) .nil))) .nop)) .nop) (.seq (.ifs (.cmp .is (.slot 1) (.lit .none)) (.seq (.ret (.cmp .is (.slot 0) (.lit .none))) .nop) .nop) (.seq (.ifs (.bi (.isinst ["bool"]) (.cons (.slot 1) .nil)) (.seq (.ret (.ite (.slot 1) (.cmp .is (.slot 0) (.lit (.bool true))) (.cmp .is (.slot 0) (.lit (.bool false))))) .nop) .nop) (.seq (.ifs (.bi (.isinst ["int"]) (.cons (.slot 1) .nil)) (.seq (.ret (.and (.bi (.isinst ["int"]) (.cons (.slot 0) .nil)) (.and (.not (.bi (.isinst ["bool"]) (.cons (.slot 0) .nil))) (.cmp .eq (.bi .int (.cons (.slot 0) .nil)) (.slot 1))))) .nop) .nop) (.seq (.ret (.and (.bi (.isinst ["str"]) (.cons (.slot 0) .nil)) (.cmp .eq (.bi .str (.cons (.slot 0) .nil)) (.slot 1)))) .nop)))))⟩
def Sc (d : D) : Prop := d = .none ∨ (∃ b, d = .bool b) ∨ (∃ i, d = .int i) ∨ ∃ l, d = S l
def Sm : Nat → D → Prop
  | 0, d => Sc d
  | k + 1, d => Sc d ∨ ∃ ds, d = .tuple ds ∧ ds.length ≤ line ∧ ∀ x ∈ ds, Sm k x
theorem same_sc (F : Fns) (i : Nat) {d : D} (h : Sc d) : runF F (sameFn i) [d, d] = .ret (.val (.bool true)) := by
  rcases h with rfl | ⟨b, rfl⟩ | ⟨z, rfl⟩ | ⟨l, rfl⟩
  · simp -implicitDefEqProofs [runF, sameFn, tst]
  · cases b <;> simp -implicitDefEqProofs [runF, sameFn, tst]
  · simp -implicitDefEqProofs [runF, sameFn, tst]
  · simp -implicitDefEqProofs [runF, sameFn, tst]
theorem same_ok {T : Nat → Option Fn} {i : Nat} (hT : T i = some (sameFn i)) : ∀ (k : Nat) (d : D), Sm k d → ∀ n, (prog T (n + k + 1)).call i [d, d] = .ret (.val (.bool true))
  | 0, d, h, n => by
    rw [call_eq (n + 0) hT]
    exact same_sc _ i h
  | k + 1, d, h, n => by
    rw [call_eq (n + (k + 1)) hT]
    rcases h with h | ⟨ds, rfl, hl, h⟩
    · exact same_sc _ i h
    · have hc : denE (prog T (n + (k + 1))) (sameC i) [.val (.tuple ds), .val (.tuple ds), .no] = .ok (.fr (.lst ((List.range ds.length).map fun _ => PyData.bool true)), [.val (.tuple ds), .val (.tuple ds), .no]) := by
        refine comp_map (fun j : Nat => PyData.int j) _ (List.range ds.length) (denI_r1 (by simp) hl) (by simp) (fun j hj => turn_of (by simp; rfl) ⟨by simp, ?_⟩) (by simpa using hl)
        have hj : j < ds.length := by simpa using hj
        have ih := same_ok hT k ds[j] (h _ (List.getElem_mem hj)) n
        have e : n + (k + 1) = n + k + 1 := by omega
        rw [e]
        simp -implicitDefEqProofs [ixAt_nat hj, hj, ih]
      have ho := opd_nm (x := sameC i) rfl hc
      simp -implicitDefEqProofs [runF, sameFn, tst, ho]
/-! ### slices, enumerate -/
theorem bnd_nat (n d k : Nat) : bnd n d (some (k : Int)) = min k n := by
  show (if 0 ≤ (k : Int) then min (k : Int).toNat n else ((k : Int) + n).toNat) = _
  rw [if_pos (Int.natCast_nonneg k), Int.toNat_natCast]
theorem cut_to {α : Type} (l : List α) (k : Nat) : cut l none (some (k : Int)) = l.take k := by
  unfold cut
  rw [bnd_nat]
  simp only [bnd, List.drop_zero, Nat.sub_zero]
  rw [← List.take_take, List.take_length]
theorem cut_from {α : Type} (l : List α) (k : Nat) : cut l (some (k : Int)) none = l.drop k := by
  unfold cut
  rw [bnd_nat]
  simp only [bnd]
  by_cases h : k ≤ l.length
  · rw [Nat.min_eq_left h, List.take_of_length_le (by rw [List.length_drop]; omega)]
  · rw [Nat.min_eq_right (by omega), List.drop_eq_nil_of_le (Nat.le_refl _), List.drop_eq_nil_of_le (by omega), List.take_nil]
theorem cut_to1 {α : Type} (l : List α) (k : Nat) : cut l none (some ((k : Int) + 1)) = l.take (k + 1) := cut_to l (k + 1)
theorem cut_m1 {α : Type} (l : List α) : cut l none (some (-1)) = l.dropLast := by
  unfold cut bnd
  simp only [List.drop_zero, Nat.sub_zero]
  rw [if_neg (by decide), List.dropLast_eq_take]
  congr 1; omega
def enumP {α : Type} (i : Nat) : List α → List (Nat × α)
  | [] => []
  | x :: xs => (i, x) :: enumP (i + 1) xs
theorem enumT_mapP {α : Type} (f : α → D) : ∀ (l : List α) (i : Nat), enumT i (l.map f) = (enumP i l).map fun p => PyData.tuple [.int p.1, f p.2]
  | [], _ => rfl
  | x :: xs, i => by rw [List.map_cons, enumT, enumP, List.map_cons, enumT_mapP f xs (i + 1)]
theorem enumP_len {α : Type} : ∀ (l : List α) (i : Nat), (enumP i l).length = l.length
  | [], _ => rfl
  | x :: xs, i => by rw [enumP, List.length_cons, List.length_cons, enumP_len xs]
theorem enumP_mem {α : Type} : ∀ {l : List α} {i : Nat} {p : Nat × α}, p ∈ enumP i l → p.2 ∈ l ∧ i ≤ p.1 ∧ p.1 < i + l.length
  | x :: xs, i, p, h => by
    rw [enumP] at h
    rcases List.mem_cons.mp h with rfl | h
    · exact ⟨List.mem_cons_self, Nat.le_refl _, by simp⟩
    · obtain ⟨h1, h2, h3⟩ := enumP_mem h
      exact ⟨List.mem_cons_of_mem _ h1, by omega, by rw [List.length_cons]; omega⟩
theorem denI_en {F : Fns} {x : Tx} {env e : Ev} {d : D} {ds : List D} (h : frz (denE F x env) = .ok (d, e)) (hd : itemsD d = some ds) : denI F (.itE x) env = .ok (enumT 0 ds, e) := by
  simp only [denI, h, bind_ok', hd, ofO_some]
end U
end

section
namespace U
open PySem
/-! ### a comprehension that draws -/
theorem backE_to {e0 e1 e2 : Ev} {own : List Nat} (hl : e2.length = e1.length) (h : ∀ i, i ∉ own → e2[i]? = e1[i]?) (h0 : ∀ i, i ∈ own → e0[i]? = e1[i]?) : backE e0 e2 own = e1 := by
  refine List.ext_getElem? fun j => ?_
  by_cases hj : j ∈ own
  · by_cases hlt : j < e2.length
    · rw [backE_in hj hlt, List.getD_eq_getElem?_getD, h0 j hj, List.getElem?_eq_getElem (by omega)]; rfl
    · rw [List.getElem?_eq_none (by rw [backE_len]; omega), List.getElem?_eq_none (by omega)]
  · rw [backE_out hj]; exact h j hj
theorem loopC_io {F : Fns} {own : List Nat} {tg el : Tx} {E : Ow → Ev} {Inv : Ow → Prop} {Q : D → Prop} : ∀ (xs acc : List D) (e : Ev) (o : Ow), wipeE e own = wipeE (E o) own → Inv o →
    (∀ x ∈ xs, ∀ o, Inv o → ∃ e2 y e3 o', bindT tg x (wipeE (E o) own) = some e2 ∧ frz (denE F el e2) = .ok (y, e3) ∧ wipeE e3 own = wipeE (E o') own ∧ Inv o' ∧ Q y) → acc.length + xs.length ≤ line →
    ∃ ys e' o', loopC (fun d env => bindT tg d (wipeE env own)) (denC F .nil) (fun env => frz (denE F el env)) xs acc e = .ok (acc ++ ys, e') ∧ wipeE e' own = wipeE (E o') own ∧ Inv o' ∧ ys.length = xs.length ∧ ∀ y ∈ ys, Q y
  | [], acc, e, o, h1, h2, _, _ => ⟨[], e, o, by simp [loopC], h1, h2, rfl, fun _ h => nomatch h⟩
  | x :: xs, acc, e, o, h1, h2, h3, h4 => by
    obtain ⟨e2, y, e3, o', b1, b2, b3, b4, b5⟩ := h3 x List.mem_cons_self o h2
    simp only [List.length_cons] at h4
    obtain ⟨ys, e', o'', r1, r2, r3, r4, r5⟩ := loopC_io xs (acc ++ [y]) e3 o' b3 b4 (fun z hz => h3 z (List.mem_cons_of_mem _ hz)) (by simp; omega)
    refine ⟨y :: ys, e', o'', ?_, r2, r3, by simp [r4], fun z hz => ?_⟩
    · rw [loopC, h1, b1]
      have hn : denC F .nil e2 = .ok (true, e2) := by simp only [denC]
      simp only [ofO_some, bind_ok', hn, if_true, b2]
      rw [if_pos (by omega), r1, List.append_assoc]; rfl
    · rcases List.mem_cons.mp hz with rfl | hz
      · exact b5
      · exact r5 z hz
theorem comp_io {F : Fns} {own : List Nat} {tg it el : Tx} (E : Ow → Ev) (Inv : Ow → Prop) (Q : D → Prop) (xs : List D) {e0 : Ev} (o : Ow) (ho : Inv o) (hi : denI F it e0 = .ok (xs, E o)) (ht : ((tgNames tg).all own.contains && own.all fun v => !isIo (E o)[v]?) = true)
    (hE : ∀ o', (E o').length = (E o).length ∧ ∀ v ∈ own, (E o)[v]? = (E o')[v]?)
    (h : ∀ x ∈ xs, ∀ o, Inv o → ∃ e2 y e3 o', bindT tg x (wipeE (E o) own) = some e2 ∧ frz (denE F el e2) = .ok (y, e3) ∧ wipeE e3 own = wipeE (E o') own ∧ Inv o' ∧ Q y) (hl : xs.length ≤ line) :
    ∃ ys o', denE F (.comp own tg it .nil el) e0 = .ok (.fr (.lst ys), E o') ∧ Inv o' ∧ ys.length = xs.length ∧ ∀ y ∈ ys, Q y := by
  obtain ⟨ys, e', o', r1, r2, r3, r4, r5⟩ := loopC_io (F := F) (own := own) (tg := tg) (el := el) (E := E) (Inv := Inv) (Q := Q) xs [] (E o) o rfl ho h (by simpa using hl)
  refine ⟨ys, o', ?_, r3, r4, r5⟩
  rw [denE, hi]
  simp only [bind_ok', ht, if_true, r1, noX_ok', List.nil_append]
  have hlen : e'.length = (E o').length := by
    have := congrArg List.length r2
    rwa [wipeE_len, wipeE_len] at this
  rw [backE_to hlen (fun i hi => by rw [← wipeE_out hi, r2, wipeE_out hi]) (hE o').2]
theorem comp_start {F : Fns} {own : List Nat} {tg it cs el : Tx} {e0 env : Ev} (h : denI F it e0 = denI F it env) : denE F (.comp own tg it cs el) e0 = denE F (.comp own tg it cs el) env := by
  rw [denE, denE, h]
/-! ### a loop that goes on -/
theorem loopS_inv {bind : D → Ev → Option Ev} {body : Ev → Out (Fl × Ev)} (I : Ev → Prop) : ∀ (ds : List D) (e : Ev), I e →
    (∀ d ∈ ds, ∀ e, I e → ∃ e1 e2, bind d e = some e1 ∧ body e1 = .ok (.next, e2) ∧ I e2) → ∃ e', loopS bind body ds e = .ok (.next, e') ∧ I e'
  | [], e, h, _ => ⟨e, rfl, h⟩
  | d :: ds, e, h, hs => by
    obtain ⟨e1, e2, b1, b2, b3⟩ := hs d List.mem_cons_self e h
    obtain ⟨e', r1, r2⟩ := loopS_inv I ds e2 b3 fun x hx => hs x (List.mem_cons_of_mem _ hx)
    refine ⟨e', ?_, r2⟩
    rw [loopS, b1]
    simp only [ofO_some, bind_ok', b2]
    exact r1
end U
end

section
namespace U
open PySem
/-! ### is it in -/
theorem noDicts_all {l : List D} (h : ∀ x ∈ l, noDict x = true) : noDicts l = true := by
  induction l with
  | nil => rfl
  | cons a l ih => rw [noDicts, h a List.mem_cons_self, ih fun x hx => h x (List.mem_cons_of_mem _ hx)]; rfl
theorem deps_le {l : List D} {k : Nat} (h : ∀ x ∈ l, dep x ≤ k) : deps l ≤ k := by
  induction l with
  | nil => rw [deps]; omega
  | cons a l ih => rw [deps]; have := h a List.mem_cons_self; have := ih fun x hx => h x (List.mem_cons_of_mem _ hx); omega
/-- a flat thing: of scalars -/
theorem okD_flat {l : List D} (h : ∀ x ∈ l, isScal x = true) : okD (.tuple l) = true ∧ okD (.list l) = true := by
  have h1 : noDicts l = true := noDicts_all fun x hx => by have := h x hx; cases x <;> first | rfl | cases this
  have h2 : deps l ≤ 0 := deps_le fun x hx => by have := h x hx; cases x <;> first | exact Nat.le_refl 0 | cases this
  have h2 : deps l = 0 := by omega
  constructor <;> simp [okD, noDict, h1, dep, h2]
@[simp] theorem okD_int (i : Int) : okD (.int i) = true := rfl
@[simp] theorem okD_str (i : Str) : okD (.str i) = true := rfl
@[simp] theorem okD_bool (i : Bool) : okD (.bool i) = true := rfl
@[simp] theorem okD_none : okD .none = true := rfl
@[simp] theorem eqD_ii (i j : Int) : eqD (.int i) (.int j) = decide (i = j) := rfl
@[simp] theorem eqD_ss (i j : List Nat) : eqD (S i) (S j) = decide (i = j) := rfl
theorem cm_in_ints {α : Type} (f : α → Int) (z : Int) (l : List α) : cmpD .isin (.int z) (.tuple (l.map fun x => PyData.int (f x))) = some (l.any fun x => decide (f x = z)) := by
  have h := (okD_flat (l := l.map fun x => PyData.int (f x)) fun x hx => by obtain ⟨y, _, rfl⟩ := List.mem_map.mp hx; rfl).1
  simp [cmpD, h, List.any_map]; rfl
theorem cm_notin_ints {α : Type} (f : α → Int) (z : Int) (l : List α) : cmpD .notin (.int z) (.tuple (l.map fun x => PyData.int (f x))) = some (!l.any fun x => decide (f x = z)) := by
  have h := (okD_flat (l := l.map fun x => PyData.int (f x)) fun x hx => by obtain ⟨y, _, rfl⟩ := List.mem_map.mp hx; rfl).1
  simp [cmpD, h, List.any_map]; rfl
/-! ### a def's end, by its statements -/
theorem runF_ret {F : Fns} {f : Fn} {ds : List D} {r : R} {e : Ev} (h1 : f.io = false) (h2 : ds.length = f.np) (h : denS F f.body (ds.map .val ++ List.replicate (f.ns - f.np) .no) = .ok (.ret r, e)) : runF F f ds = .ret r := by
  unfold runF
  rw [if_pos ⟨h1, h2⟩, h]
theorem runM_ret {F : Fns} {f : Fn} {o o' : Ow} {ds : List D} {r : R} {e : Ev} (h1 : f.io = true) (h2 : ds.length + 1 = f.np) (h : denS F f.body (.own true o :: ds.map .val ++ List.replicate (f.ns - f.np) .no) = .ok (.ret r, e)) (h3 : ioOf e = some o') : runM F f o ds = .ret r o' := by
  unfold runM
  rw [if_pos ⟨h1, h2⟩, h]
  simp only [h3]
/-! ### a loop that goes on, counted -/
theorem loopS_cnt {bind : D → Ev → Option Ev} {body : Ev → Out (Fl × Ev)} (I : Nat → Ev → Prop) : ∀ (ds : List D) (k : Nat) (e : Ev), I k e →
    (∀ d ∈ ds, ∀ j e, j < k + ds.length → I j e → ∃ e1 e2, bind d e = some e1 ∧ body e1 = .ok (.next, e2) ∧ I (j + 1) e2) → ∃ e', loopS bind body ds e = .ok (.next, e') ∧ I (k + ds.length) e'
  | [], k, e, h, _ => ⟨e, rfl, h⟩
  | d :: ds, k, e, h, hs => by
    obtain ⟨e1, e2, b1, b2, b3⟩ := hs d List.mem_cons_self k e (by rw [List.length_cons]; omega) h
    have el : k + (d :: ds).length = k + 1 + ds.length := by rw [List.length_cons]; omega
    obtain ⟨e', r1, r2⟩ := loopS_cnt I ds (k + 1) e2 b3 fun x hx j e hj => hs x (List.mem_cons_of_mem _ hx) j e (by rw [el]; exact hj)
    refine ⟨e', ?_, by rw [el]; exact r2⟩
    rw [loopS, b1]
    simp only [ofO_some, bind_ok', b2]
    exact r1
/-! ### dicts and sorts -/
@[simp] theorem dE_dict0 (F : Fns) (env : Ev) : denE F .dict0 env = .ok (.fr (.dic []), env) := by rw [denE]
@[simp] theorem isL_dic (b : Bool) (ds : List (D × D)) : isL (some (.own b (.dic ds))) = false := rfl
@[simp] theorem isDc_dic (b : Bool) (ds : List (D × D)) : isDc (some (.own b (.dic ds))) = true := rfl
@[simp] theorem keyOk_str (x : Str) : keyOk (.str x) = true := rfl
@[simp] theorem keyOk_int (x : Int) : keyOk (.int x) = true := rfl
theorem sortOk_strs {ls : List (List Nat)} (h : ls.length ≤ line) : sortOk (ls.map S) = true := by
  simp only [sortOk, List.length_map, decide_eq_true h, Bool.true_and, Bool.and_eq_true, Bool.or_eq_true, List.all_eq_true, List.mem_map]
  refine ⟨⟨?_, .inr ?_⟩, ?_⟩
  · rintro x ⟨_, _, rfl⟩ y ⟨_, _, rfl⟩; simp [PySem.W.alike]
  · rintro x ⟨_, _, rfl⟩; rfl
  · rintro x ⟨_, _, rfl⟩; simp [noDict, PyData.depth]
/-- the words of a dict whose values are all one -/
abbrev dW (v : D) (ls : List (List Nat)) : List (D × D) := ls.map fun w => (S w, v)
theorem dput_words (v : D) (ls : List (List Nat)) (w : List Nat) : dput (dW v ls) (S w) v = dW v (if w ∈ ls then ls else ls ++ [w]) := by
  unfold dput
  by_cases h : w ∈ ls
  · rw [if_pos h, if_pos (List.any_eq_true.mpr ⟨(S w, v), List.mem_map.mpr ⟨w, h, rfl⟩, by simp⟩), List.map_map]
    refine List.map_congr_left fun u _ => ?_
    simp only [Function.comp]
    split <;> rfl
  · rw [if_neg h, if_neg]
    · show ls.map _ ++ [_] = (ls ++ [w]).map _
      rw [List.map_append]
      rfl
    intro q
    obtain ⟨p, hp, e⟩ := List.any_eq_true.mp q
    obtain ⟨u, hu, rfl⟩ := List.mem_map.mp hp
    simp only [eqD_ss, decide_eq_true_eq] at e
    exact h (e ▸ hu)
theorem sorted_dW {v : D} {ls : List (List Nat)} (h : ls.length ≤ line) : biD .sorted [.dict (dW v ls)] = some (.fr (.lst ((ls.mergeSort fun a b => decide (a ≤ b)).map S))) := by
  have e1 : sortIn (.dict (dW v ls)) = some (ls.map S) := by
    have : dicOk (dW v ls) = true := by cases ls <;> rfl
    simp only [sortIn, this, if_true, List.map_map]; rfl
  have : biD .sorted [.dict (dW v ls)] = (sortIn (.dict (dW v ls))).bind fun xs => if sortOk xs then some (.fr (.lst (sortD xs))) else none := rfl
  rw [this, e1, Option.bind_some, if_pos (sortOk_strs h), sortD_str]
end U
end

section
namespace U
open PySem
/-! ### a comprehension that moves a state -/
theorem loopC_st {σ α : Type} {F : Fns} {own : List Nat} {tg el : Tx} {E : σ → Ev} {ι g : α → D} : ∀ (xs : List α) (acc : List D) (e : Ev) (s : σ), wipeE e own = wipeE (E s) own →
    (∀ x ∈ xs, ∀ s, ∃ e2 e3 s', bindT tg (ι x) (wipeE (E s) own) = some e2 ∧ frz (denE F el e2) = .ok (g x, e3) ∧ wipeE e3 own = wipeE (E s') own) → acc.length + xs.length ≤ line →
    ∃ e' s', loopC (fun d env => bindT tg d (wipeE env own)) (denC F .nil) (fun env => frz (denE F el env)) (xs.map ι) acc e = .ok (acc ++ xs.map g, e') ∧ wipeE e' own = wipeE (E s') own
  | [], acc, e, s, h1, _, _ => ⟨e, s, by simp [loopC], h1⟩
  | x :: xs, acc, e, s, h1, h3, h4 => by
    obtain ⟨e2, e3, s', b1, b2, b3⟩ := h3 x List.mem_cons_self s
    simp only [List.length_cons] at h4
    obtain ⟨e', s'', r1, r2⟩ := loopC_st xs (acc ++ [g x]) e3 s' b3 (fun z hz => h3 z (List.mem_cons_of_mem _ hz)) (by simp; omega)
    refine ⟨e', s'', ?_, r2⟩
    rw [List.map_cons, loopC, h1, b1]
    have hn : denC F .nil e2 = .ok (true, e2) := by simp only [denC]
    simp only [ofO_some, bind_ok', hn, if_true, b2]
    rw [if_pos (by omega), r1, List.append_assoc]; rfl
theorem comp_st {σ α : Type} {F : Fns} {own : List Nat} {tg it el : Tx} (E : σ → Ev) (ι g : α → D) (xs : List α) {e0 : Ev} (s : σ) (hi : denI F it e0 = .ok (xs.map ι, E s)) (ht : ((tgNames tg).all own.contains && own.all fun v => !isIo (E s)[v]?) = true)
    (hE : ∀ s', (E s').length = (E s).length ∧ ∀ v ∈ own, (E s)[v]? = (E s')[v]?)
    (h : ∀ x ∈ xs, ∀ s, ∃ e2 e3 s', bindT tg (ι x) (wipeE (E s) own) = some e2 ∧ frz (denE F el e2) = .ok (g x, e3) ∧ wipeE e3 own = wipeE (E s') own) (hl : xs.length ≤ line) :
    ∃ s', denE F (.comp own tg it .nil el) e0 = .ok (.fr (.lst (xs.map g)), E s') := by
  obtain ⟨e', s', r1, r2⟩ := loopC_st (F := F) (own := own) (tg := tg) (el := el) (E := E) (ι := ι) (g := g) xs [] (E s) s rfl h (by simpa using hl)
  refine ⟨s', ?_⟩
  rw [denE, hi]
  simp only [bind_ok', ht, if_true, r1, noX_ok', List.nil_append]
  have hlen : e'.length = (E s').length := by
    have := congrArg List.length r2
    rwa [wipeE_len, wipeE_len] at this
  rw [backE_to hlen (fun i hi => by rw [← wipeE_out hi, r2, wipeE_out hi]) (hE s').2]
/-! ### lists of texts, compared -/
theorem okD_strs (ls : List (List Nat)) : okD (.list (ls.map S)) = true ∧ okD (.tuple (ls.map S)) = true :=
  (okD_flat fun x hx => by obtain ⟨_, _, rfl⟩ := List.mem_map.mp hx; rfl).symm
theorem eqDs_strs : ∀ a b : List (List Nat), eqDs (a.map S) (b.map S) = decide (a = b)
  | [], [] => by simp [eqDs]
  | [], _ :: _ => by simp [eqDs]
  | _ :: _, [] => by simp [eqDs]
  | x :: a, y :: b => by
    rw [List.map_cons, List.map_cons, eqDs, eqDs_strs a b, eqD_ss]
    by_cases h : x = y <;> simp [h]
theorem cm_eq_ls (a b : List (List Nat)) : cmpD .eq (.list (a.map S)) (.list (b.map S)) = some (decide (a = b)) := by
  have h1 := (okD_strs a).1
  have h2 := (okD_strs b).1
  have : cmpD .eq (.list (a.map S)) (.list (b.map S)) = if okD (.list (a.map S)) && okD (.list (b.map S)) then some (eqDs (a.map S) (b.map S)) else none := by simp [cmpD, isScal, eqD]
  rw [this, h1, h2, eqDs_strs]; rfl
theorem cm_eq_ts (a b : List (List Nat)) : cmpD .eq (.tuple (a.map S)) (.tuple (b.map S)) = some (decide (a = b)) := by
  have h1 := (okD_strs a).2
  have h2 := (okD_strs b).2
  have : cmpD .eq (.tuple (a.map S)) (.tuple (b.map S)) = if okD (.tuple (a.map S)) && okD (.tuple (b.map S)) then some (eqDs (a.map S) (b.map S)) else none := by simp [cmpD, isScal, eqD]
  rw [this, h1, h2, eqDs_strs]; rfl
theorem cm_in_ls (w : List Nat) (ls : List (List Nat)) : cmpD .isin (S w) (.list (ls.map S)) = some (ls.any fun r => decide (r = w)) := by
  have h := (okD_strs ls).1
  simp [cmpD, h, List.any_map]; rfl
theorem cm_in_ts (w : List Nat) (ls : List (List Nat)) : cmpD .isin (S w) (.tuple (ls.map S)) = some (ls.any fun r => decide (r = w)) := by
  have h := (okD_strs ls).2
  simp [cmpD, h, List.any_map]; rfl
theorem enumP_map {α β : Type} (f : α → β) : ∀ (l : List α) (k : Nat), enumP k (l.map f) = (enumP k l).map fun p => (p.1, f p.2)
  | [], _ => rfl
  | x :: xs, k => by rw [List.map_cons, enumP, enumP, List.map_cons, enumP_map f xs (k + 1)]
theorem enumP_range : ∀ (n k : Nat), enumP k (List.range' k n) = (List.range' k n).map fun j => (j, j)
  | 0, _ => rfl
  | n + 1, k => by rw [List.range'_succ, enumP, enumP_range n (k + 1), List.map_cons]
theorem enumP_fun {β : Type} (f : Nat → β) (n : Nat) : enumP 0 ((List.range n).map f) = (List.range n).map fun j => (j, f j) := by
  rw [enumP_map, List.range_eq_range', enumP_range n 0, List.map_map]; rfl
end U
end

section
namespace K45
open PySem PySem.Spec PyProof.Rows L2 U
abbrev PW : Program := PySem.Challenge.pw_lettergrounds_k45_whole_lines_of_full_st
def topS (i : Nat) : Stmt := PW.main.body.getD i (.Pass ⟨0, 0, 0, 0⟩)
def f_0 : Fn := ⟨1, 1, false, (.seq (.ret (.and (.bi (.isinst ["int"]) (.cons (.slot 0) .nil)) (.not (.bi (.isinst ["bool"]) (.cons (.slot 0) .nil))))) .nop)⟩
/-- is_whole -/
def d_0 : DefC := ⟨⟨("is_whole", none), "is_whole", "is_whole", defArgs (topS 11), defBody (topS 11), defScope (topS 11), [], []⟩, ["value"], ["value"], f_0⟩
def f_1 : Fn := ⟨3, 3, false, (.seq (.ret (.and (.call 0 (.cons (.slot 0) .nil)) (.chain .le .le (.slot 1) (.slot 0) (.slot 2)))) .nop)⟩
/-- fits_whole -/
def d_1 : DefC := ⟨⟨("fits_whole", none), "fits_whole", "fits_whole", defArgs (topS 12), defBody (topS 12), defScope (topS 12), [], []⟩, ["value", "low", "high"], ["value", "low", "high"], f_1⟩
def f_2 : Fn := ⟨3, 3, false, (.seq (.ret (.and (.bi (.isinst ["tuple"]) (.cons (.slot 0) .nil)) (.chain .le .le (.slot 1) (.bi .len (.cons (.slot 0) .nil)) (.slot 2)))) .nop)⟩
/-- is_tuple_of -/
def d_2 : DefC := ⟨⟨("is_tuple_of", none), "is_tuple_of", "is_tuple_of", defArgs (topS 13), defBody (topS 13), defScope (topS 13), [], []⟩, ["value", "least", "most"], ["value", "least", "most"], f_2⟩
def e_3_0 : Tx := .comp [1, 2] (.tup (.cons (.slot 1) (.cons (.slot 2) .nil))) (.itZ (.slot 0) (.sl (.slot 0) (.cons (.lit (.int 1)) .nil) .nil)) .nil (.cmp .lt (.slot 1) (.slot 2))
def f_3 : Fn := ⟨1, 3, false, (.seq (.ret (.bi .all (.cons e_3_0 .nil))) .nop)⟩
/-- is_rising -/
def d_3 : DefC := ⟨⟨("is_rising", none), "is_rising", "is_rising", defArgs (topS 14), defBody (topS 14), defScope (topS 14), [], []⟩, ["values"], ["values", "one", "other"], f_3⟩
def e_4_0 : Tx := .comp [1] (.slot 1) (.cons (.slot 0) .nil) .nil (.cmp .isin (.slot 1) (.glob (S [97, 98, 99, 100, 101, 102, 103, 104, 105, 106, 107, 108, 109, 110, 111, 112, 113, 114, 115, 116, 117, 118, 119, 120, 121, 122])))
def f_4 : Fn := ⟨1, 2, false, (.seq (.ret (.and (.bi (.isinst ["str"]) (.cons (.slot 0) .nil)) (.and (.chain .le .le (.lit (.int 1)) (.bi .len (.cons (.slot 0) .nil)) (.glob (.int 12))) (.bi .all (.cons e_4_0 .nil))))) .nop)⟩
/-- fits_word -/
def d_4 : DefC := ⟨⟨("fits_word", none), "fits_word", "fits_word", defArgs (topS 15), defBody (topS 15), defScope (topS 15), [], []⟩, ["value"], ["value", "one"], f_4⟩
def e_5_0 : Tx := .comp [1] (.slot 1) (.cons (.slot 0) .nil) .nil (.call 4 (.cons (.slot 1) .nil))
def f_5 : Fn := ⟨1, 2, false, (.seq (.ret (.and (.call 2 (.cons (.slot 0) (.cons (.lit (.int 0)) (.cons (.glob (.int 60)) .nil)))) (.and (.bi .all (.cons e_5_0 .nil)) (.call 3 (.cons (.slot 0) .nil))))) .nop)⟩
/-- fits_list -/
def d_5 : DefC := ⟨⟨("fits_list", none), "fits_list", "fits_list", defArgs (topS 16), defBody (topS 16), defScope (topS 16), [], []⟩, ["value"], ["value", "one"], f_5⟩
def f_6 : Fn := ⟨1, 1, false, (.seq (.ifs (.not (.call 4 (.cons (.slot 0) .nil))) (.seq (.raise 1) .nop) .nop) .nop)⟩
/-- need_word -/
def d_6 : DefC := ⟨⟨("need_word", none), "need_word", "need_word", defArgs (topS 17), defBody (topS 17), defScope (topS 17), [], []⟩, ["value"], ["value"], f_6⟩
def f_7 : Fn := ⟨1, 1, false, (.seq (.ifs (.not (.call 5 (.cons (.slot 0) .nil))) (.seq (.raise 2) .nop) .nop) .nop)⟩
/-- need_list -/
def d_7 : DefC := ⟨⟨("need_list", none), "need_list", "need_list", defArgs (topS 18), defBody (topS 18), defScope (topS 18), [], []⟩, ["value"], ["value"], f_7⟩
def e_8_0 : Tx := .comp [2] (.slot 2) (.cons (.slot 1) .nil) .nil (.cmp .isin (.slot 2) (.glob (S [97, 98, 99, 100, 101, 102, 103, 104, 105, 106, 107, 108, 109, 110, 111, 112, 113, 114, 115, 116, 117, 118, 119, 120, 121, 122])))
def e_8_1 : Tx := .comp [1] (.slot 1) (.cons (.slot 0) .nil) .nil (.bi .all (.cons e_8_0 .nil))
def e_8_2 : Tx := .comp [1] (.slot 1) (.cons (.slot 0) .nil) .nil (.and (.chain .le .le (.lit (.int 1)) (.bi .len (.cons (.slot 1) .nil)) (.glob (.int 12))) (.cmp .eq (.bi .len (.cons (.slot 1) .nil)) (.bi .len (.cons (.idx (.slot 0) (.lit (.int 0))) .nil))))
def e_8_3 : Tx := .comp [1] (.slot 1) (.cons (.slot 0) .nil) .nil (.bi (.isinst ["str"]) (.cons (.slot 1) .nil))
def f_8 : Fn := ⟨1, 3, false, (.seq (.ifs (.or (.not (.call 2 (.cons (.slot 0) (.cons (.lit (.int 1)) (.cons (.glob (.int 6)) .nil))))) (.not (.bi .all (.cons e_8_3 .nil)))) (.seq (.ret (.lit (.bool false))) .nop) .nop) (.seq (.ifs (.not (.bi .all (.cons e_8_2 .nil))) (.seq (.ret (.lit (.bool false))) .nop) .nop) (.seq (.ret (.bi .all (.cons e_8_1 .nil))) .nop)))⟩
/-- fits_stack -/
def d_8 : DefC := ⟨⟨("fits_stack", none), "fits_stack", "fits_stack", defArgs (topS 22), defBody (topS 22), defScope (topS 22), [], []⟩, ["value"], ["value", "ring", "letter"], f_8⟩
def f_9 : Fn := ⟨1, 1, false, (.seq (.ifs (.not (.call 8 (.cons (.slot 0) .nil))) (.seq (.raise 4) .nop) .nop) .nop)⟩
/-- need_stack -/
def d_9 : DefC := ⟨⟨("need_stack", none), "need_stack", "need_stack", defArgs (topS 23), defBody (topS 23), defScope (topS 23), [], []⟩, ["value"], ["value"], f_9⟩
def e_10_0 : Tx := .comp [3] (.slot 3) (.cons (.slot 1) .nil) .nil (.call 1 (.cons (.slot 3) (.cons (.lit (.int 0)) (.cons (.bin .sub (.bi .len (.cons (.idx (.slot 0) (.lit (.int 0))) .nil)) (.lit (.int 1))) .nil))))
def f_10 : Fn := ⟨2, 4, false, (.seq (.asg (.slot 2) (.bi .len (.cons (.slot 0) .nil))) (.seq (.ret (.and (.call 2 (.cons (.slot 1) (.cons (.slot 2) (.cons (.slot 2) .nil)))) (.bi .all (.cons e_10_0 .nil)))) .nop))⟩
/-- fits_setting -/
def d_10 : DefC := ⟨⟨("fits_setting", none), "fits_setting", "fits_setting", defArgs (topS 24), defBody (topS 24), defScope (topS 24), [], []⟩, ["stack", "value"], ["stack", "value", "many", "one"], f_10⟩
def f_11 : Fn := ⟨2, 2, false, (.seq (.ifs (.not (.call 10 (.cons (.slot 0) (.cons (.slot 1) .nil)))) (.seq (.raise 3) .nop) .nop) .nop)⟩
/-- need_setting -/
def d_11 : DefC := ⟨⟨("need_setting", none), "need_setting", "need_setting", defArgs (topS 25), defBody (topS 25), defScope (topS 25), [], []⟩, ["stack", "value"], ["stack", "value"], f_11⟩
def f_12 : Fn := ⟨2, 2, false, (.seq (.ifs (.not (.call 1 (.cons (.slot 1) (.cons (.lit (.int 0)) (.cons (.bin .sub (.bi .len (.cons (.idx (.slot 0) (.lit (.int 0))) .nil)) (.lit (.int 1))) .nil))))) (.seq (.raise 5) .nop) .nop) .nop)⟩
/-- need_spoke -/
def d_12 : DefC := ⟨⟨("need_spoke", none), "need_spoke", "need_spoke", defArgs (topS 26), defBody (topS 26), defScope (topS 26), [], []⟩, ["stack", "value"], ["stack", "value"], f_12⟩
def e_13_0 : Tx := .comp [4, 5] (.tup (.cons (.slot 4) (.cons (.slot 5) .nil))) (.itZ (.slot 0) (.slot 1)) .nil (.idx (.slot 4) (.bin .mod (.bin .add (.slot 2) (.slot 5)) (.slot 3)))
def f_13 : Fn := ⟨3, 6, false, (.seq (.asg (.slot 3) (.bi .len (.cons (.idx (.slot 0) (.lit (.int 0))) .nil))) (.seq (.ret (.me .join (.lit (S [])) (.cons e_13_0 .nil))) .nop))⟩
/-- line_in -/
def d_13 : DefC := ⟨⟨("line_in", none), "line_in", "line_in", defArgs (topS 27), defBody (topS 27), defScope (topS 27), [], []⟩, ["stack", "setting", "spoke"], ["stack", "setting", "spoke", "size", "ring", "turn"], f_13⟩
def e_14_0 : Tx := .comp [2] (.slot 2) (.itR (.cons (.bi .len (.cons (.idx (.slot 0) (.lit (.int 0))) .nil)) .nil)) .nil (.call 13 (.cons (.slot 0) (.cons (.slot 1) (.cons (.slot 2) .nil))))
def f_14 : Fn := ⟨2, 3, false, (.seq (.ret e_14_0) .nop)⟩
/-- lines_in -/
def d_14 : DefC := ⟨⟨("lines_in", none), "lines_in", "lines_in", defArgs (topS 28), defBody (topS 28), defScope (topS 28), [], []⟩, ["stack", "setting"], ["stack", "setting", "spoke"], f_14⟩
def e_15_0 : Tx := .comp [3] (.slot 3) (.cons (.slot 1) .nil) .nil (.bin .mod (.bin .sub (.slot 3) (.idx (.slot 1) (.lit (.int 0)))) (.slot 2))
def f_15 : Fn := ⟨2, 4, false, (.seq (.asg (.slot 2) (.bi .len (.cons (.idx (.slot 0) (.lit (.int 0))) .nil))) (.seq (.ret (.bi .tuple (.cons e_15_0 .nil))) .nop))⟩
/-- plain_in -/
def d_15 : DefC := ⟨⟨("plain_in", none), "plain_in", "plain_in", defArgs (topS 29), defBody (topS 29), defScope (topS 29), [], []⟩, ["stack", "setting"], ["stack", "setting", "size", "turn"], f_15⟩
def e_16_0 : Tx := .comp [2] (.slot 2) (.cons (.slot 1) .nil) (.cons (.cmp .isin (.slot 2) (.slot 0)) .nil) (.slot 2)
def f_16 : Fn := ⟨2, 3, false, (.seq (.ret e_16_0) .nop)⟩
/-- shown_in -/
def d_16 : DefC := ⟨⟨("shown_in", none), "shown_in", "shown_in", defArgs (topS 30), defBody (topS 30), defScope (topS 30), [], []⟩, ["lines", "words"], ["lines", "words", "word"], f_16⟩
def f_17 : Fn := ⟨1, 1, false, (.seq (.ret (.call 8 (.cons (.slot 0) .nil))) .nop)⟩
/-- is_stack -/
def d_17 : DefC := ⟨⟨("is_stack", none), "is_stack", "is_stack", defArgs (topS 31), defBody (topS 31), defScope (topS 31), [], []⟩, ["value"], ["value"], f_17⟩
def f_18 : Fn := ⟨2, 2, false, (.seq (.expr (.call 9 (.cons (.slot 0) .nil))) (.seq (.ret (.call 10 (.cons (.slot 0) (.cons (.slot 1) .nil)))) .nop))⟩
/-- is_setting -/
def d_18 : DefC := ⟨⟨("is_setting", none), "is_setting", "is_setting", defArgs (topS 32), defBody (topS 32), defScope (topS 32), [], []⟩, ["stack", "value"], ["stack", "value"], f_18⟩
def f_19 : Fn := ⟨2, 2, false, (.seq (.expr (.call 9 (.cons (.slot 0) .nil))) (.seq (.expr (.call 11 (.cons (.slot 0) (.cons (.slot 1) .nil)))) (.seq (.ret (.bi .tuple (.cons (.call 14 (.cons (.slot 0) (.cons (.slot 1) .nil))) .nil))) .nop)))⟩
/-- lines -/
def d_19 : DefC := ⟨⟨("lines", none), "lines", "lines", defArgs (topS 33), defBody (topS 33), defScope (topS 33), [], []⟩, ["stack", "setting"], ["stack", "setting"], f_19⟩
def f_20 : Fn := ⟨3, 3, false, (.seq (.expr (.call 9 (.cons (.slot 0) .nil))) (.seq (.expr (.call 11 (.cons (.slot 0) (.cons (.slot 1) .nil)))) (.seq (.expr (.call 12 (.cons (.slot 0) (.cons (.slot 2) .nil)))) (.seq (.ret (.call 13 (.cons (.slot 0) (.cons (.slot 1) (.cons (.slot 2) .nil))))) .nop))))⟩
/-- line_at -/
def d_20 : DefC := ⟨⟨("line_at", none), "line_at", "line_at", defArgs (topS 34), defBody (topS 34), defScope (topS 34), [], []⟩, ["stack", "setting", "spoke"], ["stack", "setting", "spoke"], f_20⟩
def e_21_0 : Tx := .comp [3, 4] (.tup (.cons (.slot 3) (.cons (.slot 4) .nil))) (.itE (.call 14 (.cons (.slot 0) (.cons (.slot 1) .nil)))) (.cons (.cmp .eq (.slot 4) (.slot 2)) .nil) (.slot 3)
def f_21 : Fn := ⟨3, 5, false, (.seq (.expr (.call 9 (.cons (.slot 0) .nil))) (.seq (.expr (.call 11 (.cons (.slot 0) (.cons (.slot 1) .nil)))) (.seq (.expr (.call 6 (.cons (.slot 2) .nil))) (.seq (.ret (.bi .tuple (.cons e_21_0 .nil))) .nop))))⟩
/-- spokes_of -/
def d_21 : DefC := ⟨⟨("spokes_of", none), "spokes_of", "spokes_of", defArgs (topS 35), defBody (topS 35), defScope (topS 35), [], []⟩, ["stack", "setting", "word"], ["stack", "setting", "word", "spoke", "text"], f_21⟩
def f_22 : Fn := ⟨3, 3, false, (.seq (.expr (.call 9 (.cons (.slot 0) .nil))) (.seq (.expr (.call 11 (.cons (.slot 0) (.cons (.slot 1) .nil)))) (.seq (.expr (.call 7 (.cons (.slot 2) .nil))) (.seq (.ret (.bi .tuple (.cons (.call 16 (.cons (.call 14 (.cons (.slot 0) (.cons (.slot 1) .nil))) (.cons (.slot 2) .nil))) .nil))) .nop))))⟩
/-- words_shown -/
def d_22 : DefC := ⟨⟨("words_shown", none), "words_shown", "words_shown", defArgs (topS 36), defBody (topS 36), defScope (topS 36), [], []⟩, ["stack", "setting", "words"], ["stack", "setting", "words"], f_22⟩
def e_23_0 : Tx := .comp [2, 3] (.tup (.cons (.slot 2) (.cons (.slot 3) .nil))) (.itZ (.slot 0) (.slot 1)) .nil (.bin .add (.sl (.slot 2) (.cons (.slot 3) .nil) .nil) (.sl (.slot 2) .nil (.cons (.slot 3) .nil)))
def f_23 : Fn := ⟨2, 4, false, (.seq (.expr (.call 9 (.cons (.slot 0) .nil))) (.seq (.expr (.call 11 (.cons (.slot 0) (.cons (.slot 1) .nil)))) (.seq (.ret (.bi .tuple (.cons e_23_0 .nil))) .nop)))⟩
/-- turned_stack -/
def d_23 : DefC := ⟨⟨("turned_stack", none), "turned_stack", "turned_stack", defArgs (topS 37), defBody (topS 37), defScope (topS 37), [], []⟩, ["stack", "setting"], ["stack", "setting", "ring", "turn"], f_23⟩
def e_24_0 : Tx := .comp [5] (.slot 5) (.itR (.cons (.bi .len (.cons (.slot 3) .nil)) .nil)) (.cons (.cmp .eq (.bin .add (.sl (.slot 3) (.cons (.slot 5) .nil) .nil) (.sl (.slot 3) .nil (.cons (.slot 5) .nil))) (.slot 4)) .nil) (.slot 5)
def f_24 : Fn := ⟨3, 6, false, (.seq (.expr (.call 9 (.cons (.slot 0) .nil))) (.seq (.expr (.call 11 (.cons (.slot 0) (.cons (.slot 1) .nil)))) (.seq (.expr (.call 11 (.cons (.slot 0) (.cons (.slot 2) .nil)))) (.seq (.asg (.tup (.cons (.slot 3) (.cons (.slot 4) .nil))) (.tup (.cons (.call 14 (.cons (.slot 0) (.cons (.slot 1) .nil))) (.cons (.call 14 (.cons (.slot 0) (.cons (.slot 2) .nil))) .nil)))) (.seq (.ret (.bi .tuple (.cons e_24_0 .nil))) .nop)))))⟩
/-- same_lines -/
def d_24 : DefC := ⟨⟨("same_lines", none), "same_lines", "same_lines", defArgs (topS 38), defBody (topS 38), defScope (topS 38), [], []⟩, ["stack", "one", "other"], ["stack", "one", "other", "first", "second", "turn"], f_24⟩
def f_25 : Fn := ⟨2, 2, false, (.seq (.expr (.call 9 (.cons (.slot 0) .nil))) (.seq (.expr (.call 11 (.cons (.slot 0) (.cons (.slot 1) .nil)))) (.seq (.ret (.call 15 (.cons (.slot 0) (.cons (.slot 1) .nil)))) .nop)))⟩
/-- plain_setting -/
def d_25 : DefC := ⟨⟨("plain_setting", none), "plain_setting", "plain_setting", defArgs (topS 39), defBody (topS 39), defScope (topS 39), [], []⟩, ["stack", "setting"], ["stack", "setting"], f_25⟩
def f_26 : Fn := ⟨1, 2, false, (.seq (.asg (.slot 1) (.bi .abs (.cons (.idx (.bin .add (.bi .list (.cons (.slot 0) .nil)) (.lst (.cons (.lit (.int 0)) .nil))) (.lit (.int 0))) .nil))) (.seq (.ret (.lst (.cons (.ite (.cmp .ge (.slot 1) (.bin .pow (.lit (.int 10)) (.lit (.int 18)))) (.bin .fdiv (.slot 1) (.lit (.int 511))) (.lit (.int 0))) (.cons (.bin .add (.bin .mod (.bi .int (.cons (.bin .add (.bin .mul (.slot 1) (.lit (.int 671))) (.lit (.int 4651))) .nil)) (.lit (.int 2077503437))) (.lit (.int 451))) .nil)))) .nop))⟩
/-- _law_cup -/
def d_26 : DefC := ⟨⟨("_law_cup", none), "_law_cup", "_law_cup", defArgs (topS 41), defBody (topS 41), defScope (topS 41), [], []⟩, ["script"], ["script", "cell"], f_26⟩
def f_27 : Fn := ⟨2, 4, true, (.seq (.ifs (.cmp .gt (.idx (.slot 0) (.lit (.int 0))) (.lit (.int 0))) (.seq (.asg (.slot 3) (.bin .mod (.bi .int (.cons (.idx (.slot 0) (.lit (.int 0))) .nil)) (.slot 1))) (.seq (.setI 0 (.lit (.int 0)) (.bin .fdiv (.idx (.slot 0) (.lit (.int 0))) (.slot 1))) (.seq (.ret (.slot 3)) .nop))) .nop) (.seq (.setI 0 (.lit (.int 1)) (.bin .mod (.bi .int (.cons (.bin .add (.bin .mul (.idx (.slot 0) (.lit (.int 1))) (.lit (.int 33641))) (.lit (.int 9053))) .nil)) (.lit (.int 2147482951)))) (.seq (.asg (.slot 2) (.bin .mod (.bi .int (.cons (.bin .mul (.idx (.slot 0) (.lit (.int 1))) (.bin .add (.idx (.slot 0) (.lit (.int 1))) (.lit (.int 645)))) .nil)) (.lit (.int 2147483059)))) (.seq (.ret (.bin .mod (.bi .int (.cons (.bin .fdiv (.slot 2) (.lit (.int 1451))) .nil)) (.slot 1))) .nop))))⟩
/-- _law_roll -/
def d_27 : DefC := ⟨⟨("_law_roll", none), "_law_roll", "_law_roll", defArgs (topS 42), defBody (topS 42), defScope (topS 42), [], []⟩, ["cup", "many"], ["cup", "many", "deep", "found"], f_27⟩
def f_28 : Fn := ⟨2, 2, true, (.seq (.ret (.idx (.slot 1) (.callM 27 0 (.cons (.bi .len (.cons (.slot 1) .nil)) .nil)))) .nop)⟩
/-- _law_some -/
def d_28 : DefC := ⟨⟨("_law_some", none), "_law_some", "_law_some", defArgs (topS 43), defBody (topS 43), defScope (topS 43), [], []⟩, ["cup", "things"], ["cup", "things"], f_28⟩
def e_29_0 : Tx := .comp [2] (.slot 2) (.itR (.cons (.bi .len (.cons (.slot 1) .nil)) .nil)) .nil (.call 29 (.cons (.idx (.slot 0) (.slot 2)) (.cons (.idx (.slot 1) (.slot 2)) .nil)))
def f_29 : Fn := ⟨2, 3, false, (.seq (.ifs (.bi (.isinst ["tuple"]) (.cons (.slot 1) .nil)) (.seq (.ifs (.or (.not (.bi (.isinst ["tuple"]) (.cons (.slot 0) .nil))) (.cmp .ne (.bi .len (.cons (.slot 0) .nil)) (.bi .len (.cons (.slot 1) .nil)))) (.seq (.ret (.lit (.bool false))) .nop) .nop) (.seq (.ret (.bi .all (.cons e_29_0 .nil))) .nop)) .nop) (.seq (.ifs (.cmp .is (.slot 1) (.lit .none)) (.seq (.ret (.cmp .is (.slot 0) (.lit .none))) .nop) .nop) (.seq (.ifs (.bi (.isinst ["bool"]) (.cons (.slot 1) .nil)) (.seq (.ret (.ite (.slot 1) (.cmp .is (.slot 0) (.lit (.bool true))) (.cmp .is (.slot 0) (.lit (.bool false))))) .nop) .nop) (.seq (.ifs (.bi (.isinst ["int"]) (.cons (.slot 1) .nil)) (.seq (.ret (.and (.bi (.isinst ["int"]) (.cons (.slot 0) .nil)) (.and (.not (.bi (.isinst ["bool"]) (.cons (.slot 0) .nil))) (.cmp .eq (.bi .int (.cons (.slot 0) .nil)) (.slot 1))))) .nop) .nop) (.seq (.ret (.and (.bi (.isinst ["str"]) (.cons (.slot 0) .nil)) (.cmp .eq (.bi .str (.cons (.slot 0) .nil)) (.slot 1)))) .nop)))))⟩
/-- _law_same -/
def d_29 : DefC := ⟨⟨("_law_same", none), "_law_same", "_law_same", defArgs (topS 44), defBody (topS 44), defScope (topS 44), [], []⟩, ["told", "due"], ["told", "due", "at"], f_29⟩
def e_30_0 : Tx := .comp [5] (.slot 5) (.itR (.cons (.slot 2) .nil)) .nil (.callM 28 0 (.cons (.slot 3) .nil))
def e_30_1 : Tx := .comp [4] (.slot 4) (.itR (.cons (.slot 1) .nil)) .nil (.me .join (.lit (S [])) (.cons e_30_0 .nil))
def f_30 : Fn := ⟨3, 6, true, (.seq (.asg (.slot 3) (.sl (.sl (.lit (S [97, 98, 99, 100, 101, 102, 103, 104, 105, 106, 107, 108, 109, 110, 111, 112, 113, 114, 115, 116, 117, 118, 119, 120, 121, 122])) (.cons (.callM 27 0 (.cons (.lit (.int 15)) .nil)) .nil) .nil) .nil (.cons (.callM 28 0 (.cons (.lst (.cons (.lit (.int 1)) (.cons (.lit (.int 2)) (.cons (.lit (.int 5)) (.cons (.lit (.int 11)) .nil))))) .nil)) .nil))) (.seq (.ret (.bi .tuple (.cons e_30_1 .nil))) .nop))⟩
/-- _law_stack -/
def d_30 : DefC := ⟨⟨("_law_stack", none), "_law_stack", "_law_stack", defArgs (topS 45), defBody (topS 45), defScope (topS 45), [], []⟩, ["cup", "rings", "places"], ["cup", "rings", "places", "letters", "ring", "at"], f_30⟩
def e_31_0 : Tx := .comp [2] (.slot 2) (.cons (.slot 1) .nil) .nil (.callM 27 0 (.cons (.bi .len (.cons (.slot 2) .nil)) .nil))
def f_31 : Fn := ⟨2, 3, true, (.seq (.ret (.bi .tuple (.cons e_31_0 .nil))) .nop)⟩
/-- _law_setting -/
def d_31 : DefC := ⟨⟨("_law_setting", none), "_law_setting", "_law_setting", defArgs (topS 46), defBody (topS 46), defScope (topS 46), [], []⟩, ["cup", "stack"], ["cup", "stack", "ring"], f_31⟩
def e_32_0 : Tx := .comp [6] (.slot 6) (.cons (.slot 2) .nil) .nil (.idx (.slot 6) (.slot 5))
def e_32_1 : Tx := .comp [5] (.slot 5) (.itR (.cons (.bi .len (.cons (.idx (.slot 2) (.lit (.int 0))) .nil)) .nil)) .nil (.me .join (.lit (S [])) (.cons e_32_0 .nil))
def e_32_2 : Tx := .comp [3, 4] (.tup (.cons (.slot 3) (.cons (.slot 4) .nil))) (.itZ (.slot 0) (.slot 1)) .nil (.bin .add (.sl (.slot 3) (.cons (.slot 4) .nil) .nil) (.sl (.slot 3) .nil (.cons (.slot 4) .nil)))
def f_32 : Fn := ⟨2, 7, false, (.seq (.asg (.slot 2) e_32_2) (.seq (.ret (.bi .tuple (.cons e_32_1 .nil))) .nop))⟩
/-- _law_lines -/
def d_32 : DefC := ⟨⟨("_law_lines", none), "_law_lines", "_law_lines", defArgs (topS 47), defBody (topS 47), defScope (topS 47), [], []⟩, ["stack", "setting"], ["stack", "setting", "rows", "ring", "turn", "at", "row"], f_32⟩
def f_33 : Fn := ⟨3, 7, true, (.seq (.asg (.slot 3) .dict0) (.seq (.loop (.slot 4) (.itR (.cons (.lit (.int 60)) .nil)) (.seq (.asg (.slot 5) (.callM 28 0 (.cons (.slot 2) .nil))) (.seq (.asg (.slot 6) (.callM 27 0 (.cons (.bi .len (.cons (.slot 5) .nil)) .nil))) (.seq (.setI 3 (.callM 28 0 (.cons (.lst (.cons (.slot 5) (.cons (.slot 5) (.cons (.bin .add (.bin .add (.sl (.slot 5) .nil (.cons (.slot 6) .nil)) (.callM 28 0 (.cons (.lit (S [97, 113, 122])) .nil))) (.sl (.slot 5) (.cons (.bin .add (.slot 6) (.lit (.int 1))) .nil) .nil)) (.cons (.rev (.slot 5)) (.cons (.sl (.slot 5) (.cons (.slot 6) .nil) .nil) (.cons (.bin .add (.slot 5) (.lit (S [97]))) .nil))))))) .nil)) (.lit (.bool true))) .nop)))) (.seq (.ret (.bi .tuple (.cons (.bi .sorted (.cons (.slot 3) .nil)) .nil))) .nop)))⟩
/-- _law_words -/
def d_33 : DefC := ⟨⟨("_law_words", none), "_law_words", "_law_words", defArgs (topS 48), defBody (topS 48), defScope (topS 48), [], []⟩, ["cup", "stack", "rows"], ["cup", "stack", "rows", "found", "turn", "word", "at"], f_33⟩
def e_34_0 : Tx := .comp [5] (.slot 5) (.cons (.slot 2) .nil) .nil (.bin .mod (.bi .int (.cons (.bin .add (.slot 5) (.slot 9)) .nil)) (.slot 13))
def e_34_1 : Tx := .comp [9] (.slot 9) (.itR (.cons (.slot 13) .nil)) (.cons (.cmp .eq (.bin .add (.sl (.slot 11) (.cons (.slot 9) .nil) .nil) (.sl (.slot 11) .nil (.cons (.slot 9) .nil))) (.slot 12)) .nil) (.slot 9)
def e_34_2 : Tx := .comp [9] (.slot 9) (.cons (.slot 2) .nil) .nil (.bin .mod (.bi .int (.cons (.bin .sub (.bin .add (.slot 9) (.slot 13)) (.idx (.slot 2) (.lit (.int 0)))) .nil)) (.slot 13))
def e_34_3 : Tx := .comp [19, 9] (.tup (.cons (.slot 19) (.cons (.slot 9) .nil))) (.itZ (.slot 1) (.slot 2)) .nil (.bin .add (.sl (.slot 19) (.cons (.slot 9) .nil) .nil) (.sl (.slot 19) .nil (.cons (.slot 9) .nil)))
def e_34_4 : Tx := .comp [20] (.slot 20) (.itR (.cons (.slot 13) .nil)) (.cons (.cmp .eq (.idx (.slot 11) (.slot 20)) (.slot 5)) .nil) (.slot 20)
def e_34_5 : Tx := .comp [5] (.slot 5) (.cons (.slot 14) .nil) (.cons (.cmp .isin (.slot 5) (.slot 11)) .nil) (.slot 5)
def e_34_6 : Tx := .comp [18] (.slot 18) (.itR (.cons (.slot 13) .nil)) .nil (.call 20 (.cons (.slot 1) (.cons (.slot 2) (.cons (.slot 18) .nil))))
def f_34 : Fn := ⟨4, 21, true, (.seq (.asg (.tup (.cons (.slot 11) (.cons (.slot 12) (.cons (.slot 13) .nil)))) (.tup (.cons (.call 32 (.cons (.slot 1) (.cons (.slot 2) .nil))) (.cons (.call 32 (.cons (.slot 1) (.cons (.slot 3) .nil))) (.cons (.bi .len (.cons (.idx (.slot 1) (.lit (.int 0))) .nil)) .nil))))) (.seq (.par 14 15 (.callM 33 0 (.cons (.slot 1) (.cons (.slot 11) .nil))) (.callM 28 0 (.cons (.slot 11) .nil))) (.seq (.asg (.slot 4) (.tup (.cons (.call 19 (.cons (.slot 1) (.cons (.slot 2) .nil))) (.cons (.bi .tuple (.cons e_34_6 .nil)) .nil)))) (.seq (.ifs (.not (.call 29 (.cons (.bin .add (.slot 4) (.tup (.cons (.call 22 (.cons (.slot 1) (.cons (.slot 2) (.cons (.slot 14) .nil)))) .nil))) (.cons (.tup (.cons (.slot 11) (.cons (.slot 11) (.cons (.bi .tuple (.cons e_34_5 .nil)) .nil)))) .nil)))) (.seq (.ret (.lit (.bool false))) .nop) .nop) (.seq (.loop (.slot 5) (.cons (.bin .add (.slot 14) (.tup (.cons (.slot 15) .nil))) .nil) (.seq (.ifs (.not (.call 29 (.cons (.call 21 (.cons (.slot 1) (.cons (.slot 2) (.cons (.slot 5) .nil)))) (.cons (.bi .tuple (.cons e_34_4 .nil)) .nil)))) (.seq (.ret (.lit (.bool false))) .nop) .nop) .nop)) (.seq (.par 16 17 (.call 23 (.cons (.slot 1) (.cons (.slot 2) .nil))) (.call 25 (.cons (.slot 1) (.cons (.slot 2) .nil)))) (.seq (.asg (.slot 6) (.bi .tuple (.cons e_34_3 .nil))) (.seq (.asg (.slot 7) (.tup (.cons (.call 19 (.cons (.slot 16) (.cons (.bin .mul (.tup (.cons (.lit (.int 0)) .nil)) (.bi .len (.cons (.slot 1) .nil))) .nil))) (.cons (.call 19 (.cons (.call 23 (.cons (.slot 16) (.cons (.slot 3) .nil))) (.cons (.bin .mul (.tup (.cons (.lit (.int 0)) .nil)) (.bi .len (.cons (.slot 1) .nil))) .nil))) .nil)))) (.seq (.ifs (.not (.call 29 (.cons (.tup (.cons (.slot 16) (.cons (.slot 7) .nil))) (.cons (.tup (.cons (.slot 6) (.cons (.tup (.cons (.slot 11) (.cons (.call 32 (.cons (.slot 6) (.cons (.slot 3) .nil))) .nil))) .nil))) .nil)))) (.seq (.ret (.lit (.bool false))) .nop) .nop) (.seq (.ifs (.or (.cmp .ne (.idx (.slot 17) (.lit (.int 0))) (.lit (.int 0))) (.not (.call 29 (.cons (.slot 17) (.cons (.bi .tuple (.cons e_34_2 .nil)) .nil))))) (.seq (.ret (.lit (.bool false))) .nop) .nop) (.seq (.asg (.slot 8) (.bi .tuple (.cons e_34_1 .nil))) (.seq (.ifs (.not (.call 29 (.cons (.tup (.cons (.call 24 (.cons (.slot 1) (.cons (.slot 2) (.cons (.slot 3) .nil)))) (.cons (.cmp .isin (.idx (.slot 2) (.lit (.int 0))) (.call 24 (.cons (.slot 1) (.cons (.slot 17) (.cons (.slot 2) .nil))))) .nil))) (.cons (.tup (.cons (.slot 8) (.cons (.lit (.bool true)) .nil))) .nil)))) (.seq (.ret (.lit (.bool false))) .nop) .nop) (.seq (.asg (.slot 9) (.callM 27 0 (.cons (.slot 13) .nil))) (.seq (.asg (.slot 10) (.bi .tuple (.cons e_34_0 .nil))) (.seq (.ret (.and (.cmp .isin (.slot 9) (.call 24 (.cons (.slot 1) (.cons (.slot 2) (.cons (.slot 10) .nil))))) (.cmp .eq (.call 25 (.cons (.slot 1) (.cons (.slot 10) .nil))) (.slot 17)))) .nop)))))))))))))))⟩
/-- _law_right -/
def d_34 : DefC := ⟨⟨("_law_right", none), "_law_right", "_law_right", defArgs (topS 49), defBody (topS 49), defScope (topS 49), [], []⟩, ["cup", "stack", "setting", "other"], ["cup", "stack", "setting", "other", "told", "own", "due", "plain_lines", "round_in", "turn", "along", "rows", "late", "size", "words", "word", "turned", "plain", "spoke", "ring", "at"], f_34⟩
def e_35_0 : Tx := .comp [8] (.slot 8) (.cons (.slot 3) .nil) (.cons (.cmp .isnot (.call 18 (.cons (.slot 1) (.cons (.slot 8) .nil))) (.lit (.bool false))) .nil) (.slot 8)
def e_35_1 : Tx := .comp [8] (.slot 8) (.cons (.slot 3) .nil) (.cons (.cmp .isnot (.call 17 (.cons (.slot 8) .nil)) (.lit (.bool false))) .nil) (.slot 8)
def e_35_2 : Tx := .comp [4] (.slot 4) (.cons (.tup (.cons (.bin .add (.sl (.idx (.slot 1) (.slot 5)) .nil (.cons (.neg (.lit (.int 1))) .nil)) (.lit (S [65]))) (.cons (.lit .none) (.cons (.bi .list (.cons (.idx (.slot 1) (.slot 5)) .nil)) (.cons (.lit (S [])) .nil))))) .nil) .nil (.bin .add (.bin .add (.sl (.slot 1) .nil (.cons (.slot 5) .nil)) (.tup (.cons (.slot 4) .nil))) (.sl (.slot 1) (.cons (.bin .add (.slot 5) (.lit (.int 1))) .nil) .nil))
def f_35 : Fn := ⟨3, 9, true, (.seq (.asg (.tup (.cons (.slot 5) (.cons (.slot 6) .nil))) (.tup (.cons (.callM 27 0 (.cons (.bi .len (.cons (.slot 1) .nil)) .nil)) (.cons (.bi .len (.cons (.idx (.slot 1) (.lit (.int 0))) .nil)) .nil)))) (.seq (.asg (.slot 3) e_35_2) (.seq (.asg (.slot 3) (.bin .add (.slot 3) (.lst (.cons (.bi .list (.cons (.slot 1) .nil)) (.cons (.bin .mul (.tup (.cons (.idx (.slot 1) (.lit (.int 0))) .nil)) (.lit (.int 7))) (.cons (.bin .mul (.tup (.cons (.bin .mul (.lit (S [97])) (.lit (.int 13))) .nil)) (.bi .len (.cons (.slot 1) .nil))) (.cons (.me .join (.lit (S [])) (.cons (.slot 1) .nil)) (.cons (.lit .none) (.cons (.tup .nil) (.cons (.lit (.int 5)) (.cons (.bin .add (.slot 1) (.tup (.cons (.bin .add (.idx (.slot 1) (.lit (.int 0))) (.lit (S [97]))) .nil))) .nil))))))))))) (.seq (.ifs (.or (.cmp .ne e_35_1 (.lst .nil)) (.cmp .isnot (.call 17 (.cons (.slot 1) .nil)) (.lit (.bool true)))) (.seq (.ret (.lit (.bool false))) .nop) .nop) (.seq (.loop (.slot 4) (.cons (.tup (.cons (.lit (.int 0)) (.cons (.bin .sub (.slot 6) (.lit (.int 1))) (.cons (.slot 6) (.cons (.neg (.lit (.int 1))) (.cons (.lit (.bool true)) (.cons (.lit .none) (.cons (.lit (S [48])) (.cons (.tup (.cons (.lit (.int 0)) .nil)) (.cons (.lit (.int 12)) .nil)))))))))) .nil) (.seq (.asg (.slot 7) (.bin .add (.bin .add (.sl (.slot 2) .nil (.cons (.slot 5) .nil)) (.tup (.cons (.slot 4) .nil))) (.sl (.slot 2) (.cons (.bin .add (.slot 5) (.lit (.int 1))) .nil) .nil))) (.seq (.ifs (.not (.call 29 (.cons (.call 18 (.cons (.slot 1) (.cons (.slot 7) .nil))) (.cons (.and (.bi (.isinst ["int"]) (.cons (.slot 4) .nil)) (.and (.not (.bi (.isinst ["bool"]) (.cons (.slot 4) .nil))) (.chain .le .lt (.lit (.int 0)) (.slot 4) (.slot 6)))) .nil)))) (.seq (.ret (.lit (.bool false))) .nop) .nop) .nop))) (.seq (.asg (.slot 3) (.lst (.cons (.bi .list (.cons (.slot 2) .nil)) (.cons (.sl (.slot 2) (.cons (.lit (.int 1)) .nil) .nil) (.cons (.bin .add (.slot 2) (.tup (.cons (.lit (.int 0)) .nil))) (.cons (.lit .none) (.cons (.tup .nil) (.cons (.lit (.int 0)) .nil)))))))) (.seq (.ret (.and (.cmp .eq e_35_0 (.lst .nil)) (.cmp .is (.call 18 (.cons (.slot 1) (.cons (.slot 2) .nil))) (.lit (.bool true))))) .nop)))))))⟩
/-- _law_values_right -/
def d_35 : DefC := ⟨⟨("_law_values_right", none), "_law_values_right", "_law_values_right", defArgs (topS 50), defBody (topS 50), defScope (topS 50), [], []⟩, ["cup", "stack", "setting"], ["cup", "stack", "setting", "odds", "own", "at", "size", "value", "odd"], f_35⟩
def f_36 : Fn := ⟨1, 15, false, (.seq (.asg (.slot 1) (.call 26 (.cons (.slot 0) .nil))) (.seq (.asg (.slot 2) (.lit (S [98, 99, 100, 101, 102, 103, 104, 105, 106, 107, 108, 109]))) (.seq (.par 6 7 (.bin .mul (.tup (.cons (.slot 2) .nil)) (.lit (.int 6))) (.tup (.cons (.lit (.int 0)) (.cons (.lit (.int 1)) (.cons (.lit (.int 2)) (.cons (.lit (.int 3)) (.cons (.lit (.int 4)) (.cons (.lit (.int 5)) .nil)))))))) (.seq (.asg (.slot 3) (.tup (.cons (.lit (S [98, 99, 100, 101, 102, 103])) (.cons (.lit (S [104, 105, 106, 107, 108, 109])) (.cons (.lit (S [109, 98, 99, 100, 101, 102])) .nil))))) (.seq (.asg (.slot 4) (.tup (.cons (.idx (.call 19 (.cons (.slot 6) (.cons (.slot 7) .nil))) (.lit (.int 0))) (.cons (.sl (.call 19 (.cons (.slot 6) (.cons (.slot 7) .nil))) (.cons (.lit (.int 11)) .nil) .nil) (.cons (.call 22 (.cons (.slot 6) (.cons (.slot 7) (.cons (.slot 3) .nil)))) (.cons (.call 24 (.cons (.slot 6) (.cons (.slot 7) (.cons (.tup (.cons (.lit (.int 11)) (.cons (.lit (.int 0)) (.cons (.lit (.int 1)) (.cons (.lit (.int 2)) (.cons (.lit (.int 3)) (.cons (.lit (.int 4)) .nil))))))) .nil)))) .nil)))))) (.seq (.ifs (.not (.call 29 (.cons (.slot 4) (.cons (.tup (.cons (.lit (S [98, 99, 100, 101, 102, 103])) (.cons (.tup (.cons (.lit (S [109, 98, 99, 100, 101, 102])) .nil)) (.cons (.slot 3) (.cons (.tup (.cons (.lit (.int 11)) .nil)) .nil))))) .nil)))) (.seq (.ret (.lit (.bool false))) .nop) .nop) (.seq (.asg (.slot 5) (.tup (.cons (.bin .mul (.lit (S [122])) (.lit (.int 12))) (.cons (.bin .mul (.lit (S [122])) (.lit (.int 12))) .nil)))) (.seq (.asg (.slot 4) (.tup (.cons (.call 24 (.cons (.slot 5) (.cons (.tup (.cons (.lit (.int 3)) (.cons (.lit (.int 4)) .nil))) (.cons (.tup (.cons (.lit (.int 11)) (.cons (.lit (.int 0)) .nil))) .nil)))) (.cons (.call 21 (.cons (.slot 5) (.cons (.tup (.cons (.lit (.int 0)) (.cons (.lit (.int 11)) .nil))) (.cons (.lit (S [122, 122])) .nil)))) (.cons (.call 21 (.cons (.slot 5) (.cons (.tup (.cons (.lit (.int 0)) (.cons (.lit (.int 0)) .nil))) (.cons (.lit (S [122])) .nil)))) .nil))))) (.seq (.ifs (.not (.call 29 (.cons (.slot 4) (.cons (.tup (.cons (.bi .trng (.cons (.lit (.int 12)) .nil)) (.cons (.bi .trng (.cons (.lit (.int 12)) .nil)) (.cons (.tup .nil) .nil)))) .nil)))) (.seq (.ret (.lit (.bool false))) .nop) .nop) (.seq (.loop (.tup (.cons (.slot 8) (.cons (.slot 9) .nil))) (.cons (.tup (.cons (.tup (.cons (.lit (.int 6)) (.cons (.lit (.int 12)) .nil))) (.cons (.tup (.cons (.lit (.int 1)) (.cons (.lit (.int 12)) .nil))) (.cons (.tup (.cons (.lit (.int 6)) (.cons (.lit (.int 1)) .nil))) (.cons (.tup (.cons (.bin .add (.lit (.int 1)) (.callM 27 1 (.cons (.lit (.int 6)) .nil))) (.cons (.bin .add (.lit (.int 1)) (.callM 27 1 (.cons (.lit (.int 12)) .nil))) .nil))) (.cons (.tup (.cons (.lit (.int 2)) (.cons (.bin .add (.lit (.int 2)) (.callM 27 1 (.cons (.lit (.int 11)) .nil))) .nil))) .nil)))))) .nil) (.seq (.par 11 12 (.callM 30 1 (.cons (.slot 8) (.cons (.slot 9) .nil))) (.callM 30 1 (.cons (.slot 8) (.cons (.slot 9) .nil)))) (.seq (.par 13 14 (.callM 31 1 (.cons (.slot 11) .nil)) (.callM 31 1 (.cons (.slot 11) .nil))) (.seq (.loop (.slot 10) (.cons (.tup (.cons (.slot 11) (.cons (.slot 12) (.cons (.slot 11) .nil)))) .nil) (.seq (.ifs (.or (.not (.callM 34 1 (.cons (.slot 10) (.cons (.slot 13) (.cons (.slot 14) .nil))))) (.not (.callM 34 1 (.cons (.slot 10) (.cons (.slot 14) (.cons (.slot 13) .nil)))))) (.seq (.ret (.lit (.bool false))) .nop) .nop) .nop)) (.seq (.ifs (.not (.callM 35 1 (.cons (.slot 11) (.cons (.slot 13) .nil)))) (.seq (.ret (.lit (.bool false))) .nop) .nop) .nop))))) (.seq (.ret (.lit (.bool true))) .nop)))))))))))⟩
/-- law -/
def d_36 : DefC := ⟨⟨("law", none), "law", "law", defArgs (topS 51), defBody (topS 51), defScope (topS 51), [], []⟩, ["script"], ["script", "cup", "letters", "some", "told", "alike", "full", "steps", "rings", "places", "own", "stack", "late", "setting", "other"], f_36⟩
def ds : List DefC := [d_0, d_1, d_2, d_3, d_4, d_5, d_6, d_7, d_8, d_9, d_10, d_11, d_12, d_13, d_14, d_15, d_16, d_17, d_18, d_19, d_20, d_21, d_22, d_23, d_24, d_25, d_26, d_27, d_28, d_29, d_30, d_31, d_32, d_33, d_34, d_35, d_36]
def tp : Tops := ⟨["len", "abs", "int", "str", "list", "tuple", "all", "isinstance", "range", "zip", "enumerate", "bool", "sorted"], [("LONGEST", 12), ("WORDS", 60), ("RINGS", 6), ("PLACES", 12)], [("LETTERS", [97, 98, 99, 100, 101, 102, 103, 104, 105, 106, 107, 108, 109, 110, 111, 112, 113, 114, 115, 116, 117, 118, 119, 120, 121, 122])], ["WordError", "InvalidWord", "InvalidList", "InvalidPlan", "InvalidBoard", "InvalidNumber"]⟩
set_option maxHeartbeats 0
theorem sh_all : ∀ d ∈ ds, shB d = true := List.all_eq_true.mp (by kernel_rfl)
theorem at_all : ∀ d ∈ ds, d.d.at_ = (d.d.name, none) := fun d hd => by
  simp only [ds, List.mem_cons, List.not_mem_nil, or_false] at hd
  rcases hd with rfl | rfl | rfl | rfl | rfl | rfl | rfl | rfl | rfl | rfl | rfl | rfl | rfl | rfl | rfl | rfl | rfl | rfl | rfl | rfl | rfl | rfl | rfl | rfl | rfl | rfl | rfl | rfl | rfl | rfl | rfl | rfl | rfl | rfl | rfl | rfl | rfl <;> rfl
theorem bd_0 : BindOk d_0 := fun kV doc pm an cdv ct us hl => match us, hl with | [_], _ => rfl
theorem bd_1 : BindOk d_1 := fun kV doc pm an cdv ct us hl => match us, hl with | [_, _, _], _ => rfl
theorem bd_2 : BindOk d_2 := fun kV doc pm an cdv ct us hl => match us, hl with | [_, _, _], _ => rfl
theorem bd_3 : BindOk d_3 := fun kV doc pm an cdv ct us hl => match us, hl with | [_], _ => rfl
theorem bd_4 : BindOk d_4 := fun kV doc pm an cdv ct us hl => match us, hl with | [_], _ => rfl
theorem bd_5 : BindOk d_5 := fun kV doc pm an cdv ct us hl => match us, hl with | [_], _ => rfl
theorem bd_6 : BindOk d_6 := fun kV doc pm an cdv ct us hl => match us, hl with | [_], _ => rfl
theorem bd_7 : BindOk d_7 := fun kV doc pm an cdv ct us hl => match us, hl with | [_], _ => rfl
theorem bd_8 : BindOk d_8 := fun kV doc pm an cdv ct us hl => match us, hl with | [_], _ => rfl
theorem bd_9 : BindOk d_9 := fun kV doc pm an cdv ct us hl => match us, hl with | [_], _ => rfl
theorem bd_10 : BindOk d_10 := fun kV doc pm an cdv ct us hl => match us, hl with | [_, _], _ => rfl
theorem bd_11 : BindOk d_11 := fun kV doc pm an cdv ct us hl => match us, hl with | [_, _], _ => rfl
theorem bd_12 : BindOk d_12 := fun kV doc pm an cdv ct us hl => match us, hl with | [_, _], _ => rfl
theorem bd_13 : BindOk d_13 := fun kV doc pm an cdv ct us hl => match us, hl with | [_, _, _], _ => rfl
theorem bd_14 : BindOk d_14 := fun kV doc pm an cdv ct us hl => match us, hl with | [_, _], _ => rfl
theorem bd_15 : BindOk d_15 := fun kV doc pm an cdv ct us hl => match us, hl with | [_, _], _ => rfl
theorem bd_16 : BindOk d_16 := fun kV doc pm an cdv ct us hl => match us, hl with | [_, _], _ => rfl
theorem bd_17 : BindOk d_17 := fun kV doc pm an cdv ct us hl => match us, hl with | [_], _ => rfl
theorem bd_18 : BindOk d_18 := fun kV doc pm an cdv ct us hl => match us, hl with | [_, _], _ => rfl
theorem bd_19 : BindOk d_19 := fun kV doc pm an cdv ct us hl => match us, hl with | [_, _], _ => rfl
theorem bd_20 : BindOk d_20 := fun kV doc pm an cdv ct us hl => match us, hl with | [_, _, _], _ => rfl
theorem bd_21 : BindOk d_21 := fun kV doc pm an cdv ct us hl => match us, hl with | [_, _, _], _ => rfl
theorem bd_22 : BindOk d_22 := fun kV doc pm an cdv ct us hl => match us, hl with | [_, _, _], _ => rfl
theorem bd_23 : BindOk d_23 := fun kV doc pm an cdv ct us hl => match us, hl with | [_, _], _ => rfl
theorem bd_24 : BindOk d_24 := fun kV doc pm an cdv ct us hl => match us, hl with | [_, _, _], _ => rfl
theorem bd_25 : BindOk d_25 := fun kV doc pm an cdv ct us hl => match us, hl with | [_, _], _ => rfl
theorem bd_26 : BindOk d_26 := fun kV doc pm an cdv ct us hl => match us, hl with | [_], _ => rfl
theorem bd_27 : BindOk d_27 := fun kV doc pm an cdv ct us hl => match us, hl with | [_, _], _ => rfl
theorem bd_28 : BindOk d_28 := fun kV doc pm an cdv ct us hl => match us, hl with | [_, _], _ => rfl
theorem bd_29 : BindOk d_29 := fun kV doc pm an cdv ct us hl => match us, hl with | [_, _], _ => rfl
theorem bd_30 : BindOk d_30 := fun kV doc pm an cdv ct us hl => match us, hl with | [_, _, _], _ => rfl
theorem bd_31 : BindOk d_31 := fun kV doc pm an cdv ct us hl => match us, hl with | [_, _], _ => rfl
theorem bd_32 : BindOk d_32 := fun kV doc pm an cdv ct us hl => match us, hl with | [_, _], _ => rfl
theorem bd_33 : BindOk d_33 := fun kV doc pm an cdv ct us hl => match us, hl with | [_, _, _], _ => rfl
theorem bd_34 : BindOk d_34 := fun kV doc pm an cdv ct us hl => match us, hl with | [_, _, _, _], _ => rfl
theorem bd_35 : BindOk d_35 := fun kV doc pm an cdv ct us hl => match us, hl with | [_, _, _], _ => rfl
theorem bd_36 : BindOk d_36 := fun kV doc pm an cdv ct us hl => match us, hl with | [_], _ => rfl
theorem ok_0 (F : Fns) (cls : Nat → Value) : bodyB F cls tp.nms ds d_0 = true := by kernel_rfl
theorem ok_1 (F : Fns) (cls : Nat → Value) : bodyB F cls tp.nms ds d_1 = true := by kernel_rfl
theorem ok_2 (F : Fns) (cls : Nat → Value) : bodyB F cls tp.nms ds d_2 = true := by kernel_rfl
theorem ok_3 (F : Fns) (cls : Nat → Value) : bodyB F cls tp.nms ds d_3 = true := by kernel_rfl
theorem ok_4 (F : Fns) (cls : Nat → Value) : bodyB F cls tp.nms ds d_4 = true := by kernel_rfl
theorem ok_5 (F : Fns) (cls : Nat → Value) : bodyB F cls tp.nms ds d_5 = true := by kernel_rfl
theorem ok_6 (F : Fns) (cls : Nat → Value) : bodyB F cls tp.nms ds d_6 = true := by kernel_rfl
theorem ok_7 (F : Fns) (cls : Nat → Value) : bodyB F cls tp.nms ds d_7 = true := by kernel_rfl
theorem ok_8 (F : Fns) (cls : Nat → Value) : bodyB F cls tp.nms ds d_8 = true := by kernel_rfl
theorem ok_9 (F : Fns) (cls : Nat → Value) : bodyB F cls tp.nms ds d_9 = true := by kernel_rfl
theorem ok_10 (F : Fns) (cls : Nat → Value) : bodyB F cls tp.nms ds d_10 = true := by kernel_rfl
theorem ok_11 (F : Fns) (cls : Nat → Value) : bodyB F cls tp.nms ds d_11 = true := by kernel_rfl
theorem ok_12 (F : Fns) (cls : Nat → Value) : bodyB F cls tp.nms ds d_12 = true := by kernel_rfl
theorem ok_13 (F : Fns) (cls : Nat → Value) : bodyB F cls tp.nms ds d_13 = true := by kernel_rfl
theorem ok_14 (F : Fns) (cls : Nat → Value) : bodyB F cls tp.nms ds d_14 = true := by kernel_rfl
theorem ok_15 (F : Fns) (cls : Nat → Value) : bodyB F cls tp.nms ds d_15 = true := by kernel_rfl
theorem ok_16 (F : Fns) (cls : Nat → Value) : bodyB F cls tp.nms ds d_16 = true := by kernel_rfl
theorem ok_17 (F : Fns) (cls : Nat → Value) : bodyB F cls tp.nms ds d_17 = true := by kernel_rfl
theorem ok_18 (F : Fns) (cls : Nat → Value) : bodyB F cls tp.nms ds d_18 = true := by kernel_rfl
theorem ok_19 (F : Fns) (cls : Nat → Value) : bodyB F cls tp.nms ds d_19 = true := by kernel_rfl
theorem ok_20 (F : Fns) (cls : Nat → Value) : bodyB F cls tp.nms ds d_20 = true := by kernel_rfl
theorem ok_21 (F : Fns) (cls : Nat → Value) : bodyB F cls tp.nms ds d_21 = true := by kernel_rfl
theorem ok_22 (F : Fns) (cls : Nat → Value) : bodyB F cls tp.nms ds d_22 = true := by kernel_rfl
theorem ok_23 (F : Fns) (cls : Nat → Value) : bodyB F cls tp.nms ds d_23 = true := by kernel_rfl
theorem ok_24 (F : Fns) (cls : Nat → Value) : bodyB F cls tp.nms ds d_24 = true := by kernel_rfl
theorem ok_25 (F : Fns) (cls : Nat → Value) : bodyB F cls tp.nms ds d_25 = true := by kernel_rfl
theorem ok_26 (F : Fns) (cls : Nat → Value) : bodyB F cls tp.nms ds d_26 = true := by kernel_rfl
theorem ok_27 (F : Fns) (cls : Nat → Value) : bodyB F cls tp.nms ds d_27 = true := by kernel_rfl
theorem ok_28 (F : Fns) (cls : Nat → Value) : bodyB F cls tp.nms ds d_28 = true := by kernel_rfl
theorem ok_29 (F : Fns) (cls : Nat → Value) : bodyB F cls tp.nms ds d_29 = true := by kernel_rfl
theorem ok_30 (F : Fns) (cls : Nat → Value) : bodyB F cls tp.nms ds d_30 = true := by kernel_rfl
theorem ok_31 (F : Fns) (cls : Nat → Value) : bodyB F cls tp.nms ds d_31 = true := by kernel_rfl
theorem ok_32 (F : Fns) (cls : Nat → Value) : bodyB F cls tp.nms ds d_32 = true := by kernel_rfl
theorem ok_33 (F : Fns) (cls : Nat → Value) : bodyB F cls tp.nms ds d_33 = true := by kernel_rfl
theorem ok_34 (F : Fns) (cls : Nat → Value) : bodyB F cls tp.nms ds d_34 = true := by kernel_rfl
theorem ok_35 (F : Fns) (cls : Nat → Value) : bodyB F cls tp.nms ds d_35 = true := by kernel_rfl
theorem ok_36 (F : Fns) (cls : Nat → Value) : bodyB F cls tp.nms ds d_36 = true := by kernel_rfl
theorem all_ok : AllOk tp.nms ds where
  sh := sh_all
  bd := fun d hd => by
    simp only [ds, List.mem_cons, List.not_mem_nil, or_false] at hd
    rcases hd with rfl | rfl | rfl | rfl | rfl | rfl | rfl | rfl | rfl | rfl | rfl | rfl | rfl | rfl | rfl | rfl | rfl | rfl | rfl | rfl | rfl | rfl | rfl | rfl | rfl | rfl | rfl | rfl | rfl | rfl | rfl | rfl | rfl | rfl | rfl | rfl | rfl
    · exact bd_0
    · exact bd_1
    · exact bd_2
    · exact bd_3
    · exact bd_4
    · exact bd_5
    · exact bd_6
    · exact bd_7
    · exact bd_8
    · exact bd_9
    · exact bd_10
    · exact bd_11
    · exact bd_12
    · exact bd_13
    · exact bd_14
    · exact bd_15
    · exact bd_16
    · exact bd_17
    · exact bd_18
    · exact bd_19
    · exact bd_20
    · exact bd_21
    · exact bd_22
    · exact bd_23
    · exact bd_24
    · exact bd_25
    · exact bd_26
    · exact bd_27
    · exact bd_28
    · exact bd_29
    · exact bd_30
    · exact bd_31
    · exact bd_32
    · exact bd_33
    · exact bd_34
    · exact bd_35
    · exact bd_36
  body := fun F cls d hd => by
    simp only [ds, List.mem_cons, List.not_mem_nil, or_false] at hd
    rcases hd with rfl | rfl | rfl | rfl | rfl | rfl | rfl | rfl | rfl | rfl | rfl | rfl | rfl | rfl | rfl | rfl | rfl | rfl | rfl | rfl | rfl | rfl | rfl | rfl | rfl | rfl | rfl | rfl | rfl | rfl | rfl | rfl | rfl | rfl | rfl | rfl | rfl
    · exact ok_0 F cls
    · exact ok_1 F cls
    · exact ok_2 F cls
    · exact ok_3 F cls
    · exact ok_4 F cls
    · exact ok_5 F cls
    · exact ok_6 F cls
    · exact ok_7 F cls
    · exact ok_8 F cls
    · exact ok_9 F cls
    · exact ok_10 F cls
    · exact ok_11 F cls
    · exact ok_12 F cls
    · exact ok_13 F cls
    · exact ok_14 F cls
    · exact ok_15 F cls
    · exact ok_16 F cls
    · exact ok_17 F cls
    · exact ok_18 F cls
    · exact ok_19 F cls
    · exact ok_20 F cls
    · exact ok_21 F cls
    · exact ok_22 F cls
    · exact ok_23 F cls
    · exact ok_24 F cls
    · exact ok_25 F cls
    · exact ok_26 F cls
    · exact ok_27 F cls
    · exact ok_28 F cls
    · exact ok_29 F cls
    · exact ok_30 F cls
    · exact ok_31 F cls
    · exact ok_32 F cls
    · exact ok_33 F cls
    · exact ok_34 F cls
    · exact ok_35 F cls
    · exact ok_36 F cls
abbrev hk : PySem.W.Hook := He.hookD 4 (tp.facts ds) (ds.map (·.d))
def ob (s : PySem.W.SharedT) : He.AlD := He.obsDG 4 (tp.facts ds) (ds.map (·.d)) (HandSHeadRun.getT s)
theorem ob_eq (s : PySem.W.SharedT) : ob s = hk.obs s.abs := He.obsDG_eq (HandSHeadRun.getT_eq s)
abbrev R : PySem.W.OpenRow := PySem.W.OpenLaw.row PySem.Challenge.rw_lettergrounds_k45_whole_lines_of_full_st
def nm_0 : List PySem.Str := ["WordError", "InvalidWord", "InvalidList", "InvalidPlan", "InvalidBoard", "InvalidNumber", "LETTERS", "LONGEST", "WORDS", "is_whole", "fits_whole", "is_tuple_of", "is_rising", "fits_word", "fits_list", "need_word", "need_list", "RINGS", "PLACES", "fits_stack", "need_stack", "fits_setting", "need_setting", "need_spoke"]
def nm_1 : List PySem.Str := ["line_in", "lines_in", "plain_in", "shown_in", "is_stack", "is_setting", "lines", "line_at", "spokes_of", "words_shown", "turned_stack", "same_lines", "plain_setting", "_law_cup", "_law_roll", "_law_some", "_law_same", "_law_stack", "_law_setting", "_law_lines", "_law_words", "_law_right", "_law_values_right"]
def nmA : List PySem.Str := nm_0 ++ nm_1
theorem run (w : World) : HandSHeadRun.RunEq R (PySem.W.view R.prog [51]) hk ob 4000 nmA w := by
  intro os
  kernel_rfl
end K45
end

section
namespace K45
open PySem U
abbrev P (n : Nat) : Fns := prog (tbl ds) n
/-- no dict -/
def nd : D → Bool
  | .dict _ => false
  | _ => true
theorem c0 (n : Nat) {d : D} (h : nd d = true) : (P (n + 1)).call 0 [d] = .ret (.val (.bool (isI d))) := by
  rw [call_eq n (f := f_0) rfl]
  cases d with
  | dict _ => cases h
  | none => simp -implicitDefEqProofs [runF, f_0, tst, isI]
  | bool _ => simp -implicitDefEqProofs [runF, f_0, tst, isI]
  | int _ => simp -implicitDefEqProofs [runF, f_0, tst, isI]
  | str _ => simp -implicitDefEqProofs [runF, f_0, tst, isI]
  | list _ => simp -implicitDefEqProofs [runF, f_0, tst, isI]
  | tuple _ => simp -implicitDefEqProofs [runF, f_0, tst, isI]
def wholeB (lo hi : Int) : D → Bool
  | .int i => decide (lo ≤ i) && decide (i ≤ hi)
  | _ => false
theorem c1 (n : Nat) {d : D} (h : nd d = true) (lo hi : Int) : (P (n + 2)).call 1 [d, .int lo, .int hi] = .ret (.val (.bool (wholeB lo hi d))) := by
  rw [call_eq (n + 1) (f := f_1) rfl]
  have k := c0 n h
  cases d with
  | dict _ => cases h
  | int i =>
    simp -implicitDefEqProofs [runF, f_1, k, isI, wholeB]
    by_cases h : lo ≤ i <;> simp [h]
  | none => simp -implicitDefEqProofs [runF, f_1, k, isI, wholeB]
  | bool _ => simp -implicitDefEqProofs [runF, f_1, k, isI, wholeB]
  | str _ => simp -implicitDefEqProofs [runF, f_1, k, isI, wholeB]
  | list _ => simp -implicitDefEqProofs [runF, f_1, k, isI, wholeB]
  | tuple _ => simp -implicitDefEqProofs [runF, f_1, k, isI, wholeB]
def tupB (lo hi : Nat) : D → Bool
  | .tuple xs => decide (lo ≤ xs.length) && decide (xs.length ≤ hi)
  | _ => false
theorem c2 (n : Nat) {d : D} (h : nd d = true) (lo hi : Nat) : (P (n + 1)).call 2 [d, .int lo, .int hi] = .ret (.val (.bool (tupB lo hi d))) := by
  rw [call_eq n (f := f_2) rfl]
  cases d with
  | dict _ => cases h
  | tuple xs =>
    simp -implicitDefEqProofs [runF, f_2, tst, tupB]
    by_cases h : lo ≤ xs.length <;> simp [h]
  | none => simp -implicitDefEqProofs [runF, f_2, tupB]
  | bool _ => simp -implicitDefEqProofs [runF, f_2, tupB]
  | str _ => simp -implicitDefEqProofs [runF, f_2, tupB]
  | list _ => simp -implicitDefEqProofs [runF, f_2, tupB]
  | int _ => simp -implicitDefEqProofs [runF, f_2, tupB]
def abc : List Nat := [97, 98, 99, 100, 101, 102, 103, 104, 105, 106, 107, 108, 109, 110, 111, 112, 113, 114, 115, 116, 117, 118, 119, 120, 121, 122]
/-- a word -/
structure Wd (w : List Nat) : Prop where
  h1 : 1 ≤ w.length
  h2 : w.length ≤ 12
  h3 : ∀ c ∈ w, c ∈ abc
theorem Wd.ll {w : List Nat} (h : Wd w) : w.length ≤ U.line := by have := h.h2; have : U.line = 16777216 := rfl; omega
theorem c4 (n : Nat) {w : List Nat} (h : Wd w) : (P (n + 1)).call 4 [S w] = .ret (.val (.bool true)) := by
  rw [call_eq n (f := f_4) rfl]
  have hl := h.ll
  have hc : denE (P n) e_4_0 [.val (S w), .no] = .ok (.fr (.lst (w.map fun c => PyData.bool (abc.contains c))), [.val (S w), .no]) :=
    U.comp_map (fun c => S [c]) _ w (by simp) (by simp) (fun c hc => turn_of (by simp; rfl) ⟨by simp, by simp [abc]⟩) hl
  have h1 : (1 : Int) ≤ w.length := by have := h.h1; omega
  have h2 : (w.length : Int) ≤ 12 := by have := h.h2; omega
  have ho := opd_nm (x := e_4_0) rfl hc
  simp -implicitDefEqProofs [runF, f_4, tst, hl, hc, h1, h2, ho]
  exact h.h3
theorem c6 (n : Nat) {w : List Nat} (h : Wd w) : (P (n + 2)).call 6 [S w] = .ret (.val .none) := by
  rw [call_eq (n + 1) (f := f_6) rfl]
  simp -implicitDefEqProofs [runF, f_6, tst, c4 n h]
abbrev tS (ls : List (List Nat)) : D := .tuple (ls.map S)
/-- a list of words -/
structure Wl (ls : List (List Nat)) : Prop where
  len : ls.length ≤ 60
  wd : ∀ w ∈ ls, Wd w
  up : ls.Pairwise fun a b => a < b
theorem Wl.ll {ls : List (List Nat)} (h : Wl ls) : ls.length ≤ line := by have := h.len; have : line = 16777216 := rfl; omega
theorem zipT_maps {α β : Type} (f : α → D) (g : β → D) : ∀ (xs : List α) (ys : List β), zipT (xs.map f) (ys.map g) = (xs.zip ys).map fun p => PyData.tuple [f p.1, g p.2]
  | [], _ => by simp [zipT]
  | _ :: _, [] => by simp [zipT]
  | x :: xs, y :: ys => by simp [zipT, zipT_maps f g xs ys]
theorem denI_z {F : Fns} {a b : Tx} {env e1 e2 : Ev} {d d' : D} {xs ys : List D} (h : frz (denE F a env) = .ok (d, e1)) (h' : frz (denE F b e1) = .ok (d', e2)) (hx : itemsD d = some xs) (hy : itemsD d' = some ys) : denI F (.itZ a b) env = .ok (zipT xs ys, e2) := by
  simp only [denI, h, h', bind_ok', hx, hy, ofO_some]
theorem ltS_lt' (a b : List Nat) : ltS a b = decide (a < b) := by
  induction a generalizing b with
  | nil => cases b <;> simp [ltS]
  | cons x a ih =>
    cases b with
    | nil => simp [ltS]
    | cons y b => simp [ltS, ih, List.cons_lt_cons_iff]
theorem up_pairs {ls : List (List Nat)} (h : ls.Pairwise fun a b => a < b) : ∀ p ∈ ls.zip (ls.drop 1), p.1 < p.2 := by
  induction ls with
  | nil => intro p hp; cases hp
  | cons x ls ih =>
    intro p hp
    cases ls with
    | nil => simp at hp
    | cons y r =>
      rw [List.pairwise_cons] at h
      rw [List.drop_one, List.tail_cons, List.zip_cons_cons] at hp
      rcases List.mem_cons.mp hp with rfl | hp
      · exact h.1 y List.mem_cons_self
      · exact ih h.2 p (by rw [List.drop_one, List.tail_cons]; exact hp)
theorem c3 (n : Nat) {ls : List (List Nat)} (h : Wl ls) : (P (n + 1)).call 3 [tS ls] = .ret (.val (.bool true)) := by
  rw [call_eq n (f := f_3) rfl]
  have hl := h.ll
  have ct : cut (ls.map S) (some 1) none = (ls.drop 1).map S := (cut_from _ 1).trans List.map_drop.symm
  have hc : denE (P n) e_3_0 [.val (tS ls), .no, .no] = .ok (.fr (.lst ((ls.zip (ls.drop 1)).map fun p => PyData.bool (decide (p.1 < p.2)))), [.val (tS ls), .no, .no]) := by
    refine U.comp_map (fun p : List Nat × List Nat => PyData.tuple [S p.1, S p.2]) _ (ls.zip (ls.drop 1)) ?_ (by simp) (fun p hp => turn_of (e2 := [.val (tS ls), .val (S p.1), .val (S p.2)]) (by simp) ⟨by simp, by simp [ltS_lt']⟩) (by rw [List.length_zip]; omega)
    rw [denI_z (d := tS ls) (d' := .tuple (cut (ls.map S) (some 1) none)) (e1 := [.val (tS ls), .no, .no]) (e2 := [.val (tS ls), .no, .no]) (xs := ls.map S) (ys := (ls.drop 1).map S) (by simp) (by simp) rfl (by rw [ct]; rfl), zipT_maps]
  have ho := opd_nm (x := e_3_0) rfl hc
  simp -implicitDefEqProofs [runF, f_3, ho]
  exact fun a b hp => up_pairs h.up (a, b) (by rw [List.drop_one]; exact hp)
theorem c5 (n : Nat) {ls : List (List Nat)} (h : Wl ls) : (P (n + 2)).call 5 [tS ls] = .ret (.val (.bool true)) := by
  rw [call_eq (n + 1) (f := f_5) rfl]
  have hl := h.ll
  have k2 := c2 n (d := tS ls) rfl 0 60
  have k2 : (P (n + 1)).call 2 [tS ls, .int 0, .int 60] = .ret (.val (.bool true)) := by
    have t : tupB 0 60 (tS ls) = true := by simp [tupB]; exact h.len
    rw [t] at k2; exact k2
  have hc : denE (P (n + 1)) e_5_0 [.val (tS ls), .no] = .ok (.fr (.lst (ls.map fun w => PyData.bool true)), [.val (tS ls), .no]) :=
    U.comp_map S _ ls (by simp) (by simp) (fun w hw => turn_of (by simp; rfl) ⟨by simp, by simp [c4 n (h.wd w hw)]⟩) hl
  have ho := opd_nm (x := e_5_0) rfl hc
  simp -implicitDefEqProofs [runF, f_5, k2, ho, c3 n h]
theorem c7 (n : Nat) {ls : List (List Nat)} (h : Wl ls) : (P (n + 3)).call 7 [tS ls] = .ret (.val .none) := by
  rw [call_eq (n + 2) (f := f_7) rfl]
  simp -implicitDefEqProofs [runF, f_7, tst, c5 n h]
theorem joinL_ones : ∀ l : List Nat, joinL [] (l.map fun c => [c]) = l
  | [] => rfl
  | [c] => rfl
  | c :: d :: r => by
    have := joinL_ones (d :: r)
    simp only [List.map_cons, joinL] at this ⊢
    rw [List.append_nil]
    simpa using this
theorem ones_sum (l : List Nat) : (l.map fun _ => 1).sum = l.length := by
  induction l with
  | nil => rfl
  | cons a l ih => rw [List.map_cons, List.sum_cons, ih, List.length_cons]; omega
theorem abc_line : abc.length ≤ line := by decide
theorem c27 (n : Nat) {o : Ow} (ho : cupOk o) {many : Int} (h1 : 0 < many) (h2 : many < 1073741824) : ∃ v o', (P (n + 1)).callM 27 o [.int many] = .ret (.val (.int v)) o' ∧ cupOk o' ∧ 0 ≤ v ∧ v < many := by
  rw [callM_eq n (f := f_27) rfl]
  exact roll_ok (P n) (a := 33641) (b := 9053) (m := 2147482951) (c := 645) (g := 2147483059) (h := 1451) (by decide) (by decide) (by decide) (by decide) ho h1 h2
/-- what has items that can be drawn -/
theorem some_of (n : Nat) {o : Ow} (ho : cupOk o) {d : D} {ds : List D} (hd : biD .len [d] = some (.val (.int ds.length))) (hi : ∀ j : Nat, j < ds.length → idxD d (.int j) = ds[j]?) (h0 : 0 < ds.length) (h1 : ds.length < 1000000) :
    ∃ x ∈ ds, ∃ o', (P (n + 2)).callM 28 o [d] = .ret (.val x) o' ∧ cupOk o' := by
  obtain ⟨v, o', e, ho', v0, v1⟩ := c27 n ho (many := (ds.length : Int)) (by omega) (by omega)
  obtain ⟨j, rfl⟩ := Int.eq_ofNat_of_zero_le v0
  have hj : j < ds.length := by omega
  refine ⟨ds[j], List.getElem_mem hj, o', ?_, ho'⟩
  have hx := hi j hj
  rw [List.getElem?_eq_getElem hj] at hx
  rw [callM_eq (n + 1) (f := f_28) rfl]
  simp -implicitDefEqProofs [runM, f_28, ioOf, hd, dE_callM, e]
  simp -implicitDefEqProofs [hx]
theorem some_str (n : Nat) {o : Ow} (ho : cupOk o) {l : List Nat} (h0 : 0 < l.length) (h1 : l.length < 1000000) :
    ∃ c ∈ l, ∃ o', (P (n + 2)).callM 28 o [S l] = .ret (.val (S [c])) o' ∧ cupOk o' := by
  have hl : l.length ≤ line := by have : line = 16777216 := rfl; omega
  obtain ⟨x, hx, o', e, k⟩ := some_of n ho (d := S l) (ds := l.map fun c => S [c]) (by simp [hl]) (fun j hj => by
    have hj : j < l.length := by simpa using hj
    simp [hl, ixAt_nat hj]) (by simpa using h0) (by simpa using h1)
  obtain ⟨c, hc, rfl⟩ := List.mem_map.mp hx
  exact ⟨c, hc, o', e, k⟩
theorem some_list (n : Nat) {o : Ow} (ho : cupOk o) {l : List D} (h0 : 0 < l.length) (h1 : l.length < 1000000) :
    ∃ x ∈ l, ∃ o', (P (n + 2)).callM 28 o [.list l] = .ret (.val x) o' ∧ cupOk o' :=
  some_of n ho (by simp) (fun j hj => by simp [ixAt_nat hj]) h0 h1
theorem same29 (n k : Nat) {d : D} (h : Sm k d) : (P (n + k + 1)).call 29 [d, d] = .ret (.val (.bool true)) := same_ok (i := 29) rfl k d h n
theorem ones_of {l : List Nat} : ∀ ys : List D, (∀ y ∈ ys, ∃ c ∈ l, y = S [c]) → ∃ w : List Nat, ys = w.map (fun c => S [c]) ∧ w.length = ys.length ∧ ∀ c ∈ w, c ∈ l
  | [], _ => ⟨[], rfl, rfl, fun _ h => nomatch h⟩
  | y :: ys, h => by
    obtain ⟨w, rfl, h2, h3⟩ := ones_of ys fun z hz => h z (List.mem_cons_of_mem _ hz)
    obtain ⟨c, hc, rfl⟩ := h y List.mem_cons_self
    refine ⟨c :: w, rfl, by simp, fun z hz => ?_⟩
    rcases List.mem_cons.mp hz with rfl | hz
    · exact hc
    · exact h3 z hz
theorem joinD_ones {w : List Nat} (h : w.length ≤ line) : joinD [] (w.map fun c => S [c]) = some (.val (S w)) := by
  have so : strsOf (w.map fun c => S [c]) = some (w.map fun c => [c]) := strsOf_map (fun c => [c]) w
  have sl : ((w.map fun c => ([c] : List Nat)).map (·.length)).sum = w.length := by rw [List.map_map]; exact ones_sum w
  unfold joinD
  rw [so]
  simp only [Option.bind_some, List.length_nil, Nat.mul_zero, Nat.add_zero, sl, if_pos h, joinL_ones]
theorem strict {ls : List (List Nat)} (nd : ls.Nodup) : (ls.mergeSort fun a b => decide (a ≤ b)).Pairwise fun a b => a < b := by
  have h1 := List.pairwise_mergeSort str_tr str_to ls
  have h2 : (ls.mergeSort fun a b => decide (a ≤ b)).Nodup := (List.mergeSort_perm _ _).nodup_iff.mpr nd
  refine (h1.and h2).imp fun {a b} h => ?_
  have := of_decide_eq_true h.1
  by_cases h3 : a < b
  · exact h3
  · exact absurd (List.le_antisymm this (List.not_lt.mp h3)) h.2
end K45
end

section
namespace K45
open PySem U
theorem ones_any {α : Type} {p : α → Bool} {l : List α} {x : α} (hx : x ∈ l) (h : p x = false) : l.all p = false := by
  rw [← Bool.not_eq_true, List.all_eq_true]
  intro q; rw [q x hx] at h; cases h
/-! ### stacks -/
theorem isS_inst {d : D} (h : nd d = true) : biD (.isinst ["str"]) [d] = some (.val (.bool (isS d))) := by
  cases d with
  | dict _ => cases h
  | none => rfl
  | bool _ => rfl
  | int _ => rfl
  | str _ => rfl
  | list _ => rfl
  | tuple _ => rfl
theorem e8_3 (n : Nat) {xs : List D} (hl : xs.length ≤ line) (hn : ∀ x ∈ xs, nd x = true) : denE (P n) e_8_3 [.val (.tuple xs), .no, .no] = .ok (.fr (.lst (xs.map fun x => PyData.bool (isS x))), [.val (.tuple xs), .no, .no]) :=
  U.comp_map id _ xs (by simp) (by simp) (fun x hx => turn_of (e2 := [.val (.tuple xs), .val x, .no]) (by simp) ⟨by simp, by simp [isS_inst (hn x hx)]⟩) hl
/-- no tuple of one to six -/
theorem c8A (n : Nat) {d : D} (h : nd d = true) (hb : tupB 1 6 d = false) : (P (n + 2)).call 8 [d] = .ret (.val (.bool false)) := by
  rw [call_eq (n + 1) (f := f_8) rfl]
  have k := c2 n h 1 6
  rw [hb] at k
  have k : (P (n + 1)).call 2 [d, .int 1, .int 6] = .ret (.val (.bool false)) := k
  simp -implicitDefEqProofs [runF, f_8, k, tst]
/-- something that is no text -/
theorem c8B (n : Nat) {xs : List D} (hn : ∀ x ∈ xs, nd x = true) (h1 : 1 ≤ xs.length) (h2 : xs.length ≤ 6) {y : D} (hy : y ∈ xs) (hs : isS y = false) : (P (n + 2)).call 8 [.tuple xs] = .ret (.val (.bool false)) := by
  rw [call_eq (n + 1) (f := f_8) rfl]
  have L : line = 16777216 := rfl
  have k := c2 n (d := .tuple xs) rfl 1 6
  have t : tupB 1 6 (.tuple xs) = true := by simp [tupB, h1, h2]
  rw [t] at k
  have k : (P (n + 1)).call 2 [.tuple xs, .int 1, .int 6] = .ret (.val (.bool true)) := k
  have ho := opd_nm (x := e_8_3) rfl (e8_3 (n + 1) (by omega) hn)
  have al : (xs.map fun x => isS x).all id = false := by rw [List.all_map]; exact ones_any hy hs
  have ba : biD .all [.list (xs.map fun x => PyData.bool (isS x))] = some (.val (.bool false)) := by rw [bi_all, boolsOf_map, Option.map_some, al]
  obtain ⟨B, hB⟩ : ∃ B, (xs.map fun x => PyData.bool (isS x)) = B := ⟨_, rfl⟩
  rw [hB] at ho ba
  simp -implicitDefEqProofs [runF, f_8, k, ho, ba, tst, -bi_all]
def okR (p : Nat) (r : List Nat) : Bool := decide (1 ≤ r.length) && decide (r.length ≤ 12) && decide (r.length = p)
theorem e8_2 (n : Nat) {r0 : List Nat} {ls : List (List Nat)} (hl : (r0 :: ls).length ≤ 6) (hr : ∀ r ∈ r0 :: ls, r.length ≤ line) : denE (P n) e_8_2 [.val (tS (r0 :: ls)), .no, .no] = .ok (.fr (.lst ((r0 :: ls).map fun r => PyData.bool (okR r0.length r))), [.val (tS (r0 :: ls)), .no, .no]) := by
  have L : line = 16777216 := rfl
  refine U.comp_map S _ (r0 :: ls) (by simp) (by simp) (fun r hm => turn_of (e2 := [.val (tS (r0 :: ls)), .val (S r), .no]) (by simp) ⟨by simp, ?_⟩) (by omega)
  have a := hr r hm
  have b := hr r0 List.mem_cons_self
  have ix : idxD (tS (r0 :: ls)) (.int 0) = some (S r0) := by simp
  have lr : biD .len [S r] = some (.val (.int r.length)) := by rw [bi_len_str, if_pos a]
  have l0 : biD .len [S r0] = some (.val (.int r0.length)) := by rw [bi_len_str, if_pos b]
  have ok : okR r0.length r = (decide ((1 : Int) ≤ r.length) && decide ((r.length : Int) ≤ 12) && decide ((r.length : Int) = r0.length)) := by
    unfold okR
    rw [Bool.eq_iff_iff]; simp only [Bool.and_eq_true, decide_eq_true_eq]; omega
  rw [ok]
  obtain ⟨W, hW⟩ : ∃ W, tS (r0 :: ls) = W := ⟨_, rfl⟩
  rw [hW] at ix ⊢
  obtain ⟨x, hx⟩ : ∃ x : Int, (r.length : Int) = x := ⟨_, rfl⟩
  obtain ⟨y, hy⟩ : ∃ y : Int, (r0.length : Int) = y := ⟨_, rfl⟩
  rw [hx] at lr ⊢
  rw [hy] at l0 ⊢
  by_cases h1 : 1 ≤ x
  · by_cases h2 : x ≤ 12
    · by_cases h3 : x = y
      · subst h3; simp -implicitDefEqProofs [lr, l0, ix, h1, h2, -bi_len_str]
      · simp -implicitDefEqProofs [lr, l0, ix, h1, h2, h3, -bi_len_str]
    · simp -implicitDefEqProofs [lr, l0, ix, h1, h2, -bi_len_str]
  · simp -implicitDefEqProofs [lr, l0, ix, h1, -bi_len_str]
theorem e8_1 (n : Nat) {ls : List (List Nat)} (hl : ls.length ≤ 6) (hr : ∀ r ∈ ls, r.length ≤ line) : denE (P n) e_8_1 [.val (tS ls), .no, .no] = .ok (.fr (.lst (ls.map fun r => PyData.bool (r.all fun c => abc.contains c))), [.val (tS ls), .no, .no]) := by
  have L : line = 16777216 := rfl
  refine U.comp_map S _ ls (by simp) (by simp) (fun r hm => turn_of (e2 := [.val (tS ls), .val (S r), .no]) (by simp) ⟨by simp, ?_⟩) (by omega)
  have hc : denE (P n) e_8_0 [.val (tS ls), .val (S r), .no] = .ok (.fr (.lst (r.map fun c => PyData.bool (abc.contains c))), [.val (tS ls), .val (S r), .no]) :=
    U.comp_map (fun c => S [c]) _ r (by simp) (by simp) (fun c hc => turn_of (by simp; rfl) ⟨by simp, by simp [abc]⟩) (hr r hm)
  have ho := opd_nm (x := e_8_0) rfl hc
  have ba : biD .all [.list (r.map fun c => PyData.bool (abc.contains c))] = some (.val (.bool (r.all fun c => abc.contains c))) := by rw [bi_all, boolsOf_map, Option.map_some, all_map_id]
  obtain ⟨B, hB⟩ : ∃ B, (r.map fun c => PyData.bool (abc.contains c)) = B := ⟨_, rfl⟩
  obtain ⟨b, hb⟩ : ∃ b, (r.all fun c => abc.contains c) = b := ⟨_, rfl⟩
  rw [hB] at ho ba
  rw [hb] at ba ⊢
  simp -implicitDefEqProofs [ho, ba, -bi_all]
def stB (p : Nat) (ls : List (List Nat)) : Bool := ls.all (okR p) && ls.all fun r => r.all fun c => abc.contains c
theorem c8C (n : Nat) {r0 : List Nat} {ls : List (List Nat)} (hl : (r0 :: ls).length ≤ 6) (hr : ∀ r ∈ r0 :: ls, r.length ≤ line) : (P (n + 2)).call 8 [tS (r0 :: ls)] = .ret (.val (.bool (stB r0.length (r0 :: ls)))) := by
  rw [call_eq (n + 1) (f := f_8) rfl]
  have L : line = 16777216 := rfl
  have k := c2 n (d := tS (r0 :: ls)) rfl 1 6
  have t : tupB 1 6 (tS (r0 :: ls)) = true := by simp [tupB]; simpa using hl
  rw [t] at k
  have k : (P (n + 1)).call 2 [tS (r0 :: ls), .int 1, .int 6] = .ret (.val (.bool true)) := k
  have nx : ∀ x ∈ (r0 :: ls).map S, nd x = true := fun x hx => by obtain ⟨_, _, rfl⟩ := List.mem_map.mp hx; rfl
  have o3 := opd_nm (x := e_8_3) rfl (e8_3 (n + 1) (xs := (r0 :: ls).map S) (by rw [List.length_map]; omega) nx)
  have o2 := opd_nm (x := e_8_2) rfl (e8_2 (n + 1) hl hr)
  have o1 := opd_nm (x := e_8_1) rfl (e8_1 (n + 1) hl hr)
  have b3 : biD .all [.list (((r0 :: ls).map S).map fun x => PyData.bool (isS x))] = some (.val (.bool true)) := by
    rw [bi_all, boolsOf_map, Option.map_some, all_map_id, List.all_map]
    congr 3
    exact List.all_eq_true.mpr fun _ _ => rfl
  have b2 : biD .all [.list ((r0 :: ls).map fun r => PyData.bool (okR r0.length r))] = some (.val (.bool ((r0 :: ls).all (okR r0.length)))) := by rw [bi_all, boolsOf_map, Option.map_some, all_map_id]
  have b1 : biD .all [.list ((r0 :: ls).map fun r => PyData.bool (r.all fun c => abc.contains c))] = some (.val (.bool ((r0 :: ls).all fun r => r.all fun c => abc.contains c))) := by rw [bi_all, boolsOf_map, Option.map_some, all_map_id]
  unfold stB
  obtain ⟨W, hW⟩ : ∃ W, (r0 :: ls).map S = W := ⟨_, rfl⟩
  have eW : tS (r0 :: ls) = .tuple W := by rw [← hW]
  rw [hW] at o3 b3
  rw [eW] at k o2 o1 ⊢
  obtain ⟨B3, h3⟩ : ∃ B, (W.map fun x => PyData.bool (isS x)) = B := ⟨_, rfl⟩
  obtain ⟨B2, h2⟩ : ∃ B, ((r0 :: ls).map fun r => PyData.bool (okR r0.length r)) = B := ⟨_, rfl⟩
  obtain ⟨B1, h1⟩ : ∃ B, ((r0 :: ls).map fun r => PyData.bool (r.all fun c => abc.contains c)) = B := ⟨_, rfl⟩
  obtain ⟨x, hx⟩ : ∃ x, (r0 :: ls).all (okR r0.length) = x := ⟨_, rfl⟩
  obtain ⟨y, hy⟩ : ∃ y, ((r0 :: ls).all fun r => r.all fun c => abc.contains c) = y := ⟨_, rfl⟩
  rw [h3] at o3 b3
  rw [h2] at o2 b2
  rw [h1] at o1 b1
  rw [hx] at b2 ⊢
  rw [hy] at b1 ⊢
  cases x <;> simp -implicitDefEqProofs [runF, f_8, k, o3, o2, o1, b3, b2, b1, tst, -bi_all]
/-- a stack of rings, p places each -/
structure St (p : Nat) (ls : List (List Nat)) : Prop where
  l1 : 1 ≤ ls.length
  l2 : ls.length ≤ 6
  p1 : 1 ≤ p
  p2 : p ≤ 12
  len : ∀ r ∈ ls, r.length = p
  abc : ∀ r ∈ ls, ∀ c ∈ r, c ∈ abc
theorem St.cons {p : Nat} {ls : List (List Nat)} (h : St p ls) : ∃ r0 rs, ls = r0 :: rs ∧ r0.length = p := by
  cases ls with
  | nil => have := h.l1; simp at this
  | cons r0 rs => exact ⟨r0, rs, rfl, h.len r0 List.mem_cons_self⟩
theorem St.stB {p : Nat} {ls : List (List Nat)} (h : St p ls) : stB p ls = true := by
  unfold K45.stB
  rw [Bool.and_eq_true]
  refine ⟨List.all_eq_true.mpr fun r hr => ?_, List.all_eq_true.mpr fun r hr => List.all_eq_true.mpr fun c hc => List.contains_iff_mem.mpr (h.abc r hr c hc)⟩
  have := h.len r hr
  have := h.p1
  have := h.p2
  simp [okR]; omega
theorem c8 (n : Nat) {p : Nat} {ls : List (List Nat)} (h : St p ls) : (P (n + 2)).call 8 [tS ls] = .ret (.val (.bool true)) := by
  have L : line = 16777216 := rfl
  have sb := h.stB
  have hr : ∀ r ∈ ls, r.length ≤ line := fun r hr => by have := h.len r hr; have := h.p2; omega
  have h6 := h.l2
  obtain ⟨r0, rs, rfl, hp⟩ := h.cons
  rw [c8C n h6 hr, hp, sb]
theorem c9 (n : Nat) {p : Nat} {ls : List (List Nat)} (h : St p ls) : (P (n + 3)).call 9 [tS ls] = .ret (.val .none) := by
  rw [call_eq (n + 2) (f := f_9) rfl]
  simp -implicitDefEqProofs [runF, f_9, tst, c8 n h]
theorem c17 (n : Nat) (d : D) : (P (n + 3)).call 17 [d] = (match (P (n + 2)).call 8 [d] with | .ret r => .ret r | .exn c => .exn c | .stuck => .stuck) := by
  rw [call_eq (n + 2) (f := f_17) rfl]
  unfold runF
  rw [if_pos ⟨rfl, rfl⟩]
  have e : denS (P (n + 2)) f_17.body ([d].map .val ++ List.replicate (f_17.ns - f_17.np) .no) = (match (P (n + 2)).call 8 [d] with | .ret r => .ok (.ret r, [.val d]) | .exn c => .exn c [.val d] | .stuck => .stuck) := by
    simp -implicitDefEqProofs [f_17]
    cases (P (n + 2)).call 8 [d] <;> rfl
  rw [e]
  cases (P (n + 2)).call 8 [d] <;> rfl
/-! ### settings -/
def setB (m : Nat) (p : Nat) : D → Bool
  | .tuple xs => decide (xs.length = m) && xs.all (wholeB 0 ((p : Int) - 1))
  | _ => false
theorem ix0 {p : Nat} {ls : List (List Nat)} (h : St p ls) : ∃ r0 : List Nat, idxD (tS ls) (.int 0) = some (S r0) ∧ r0.length = p ∧ r0 ∈ ls := by
  obtain ⟨r0, rs, rfl, hp⟩ := h.cons
  exact ⟨r0, by simp, hp, List.mem_cons_self⟩
theorem c10 (n : Nat) {p : Nat} {ls : List (List Nat)} (h : St p ls) {d : D} (hd : nd d = true) (hi : ∀ xs, d = .tuple xs → ∀ x ∈ xs, nd x = true) : (P (n + 3)).call 10 [tS ls, d] = .ret (.val (.bool (setB ls.length p d))) := by
  rw [call_eq (n + 2) (f := f_10) rfl]
  have L : line = 16777216 := rfl
  have p2 := h.p2
  have l2 := h.l2
  obtain ⟨r0, ix, hr, _⟩ := ix0 h
  have k := c2 (n + 1) hd ls.length ls.length
  have k : (P (n + 2)).call 2 [d, .int ls.length, .int ls.length] = .ret (.val (.bool (tupB ls.length ls.length d))) := k
  have ln : biD .len [tS ls] = some (.val (.int ls.length)) := by simp
  have rl : r0.length ≤ line := by omega
  cases d with
  | dict _ => cases hd
  | tuple xs =>
    by_cases hx : xs.length = ls.length
    · have hc : denE (P (n + 2)) e_10_0 [.val (tS ls), .val (.tuple xs), .val (.int ls.length), .no] = .ok (.fr (.lst (xs.map fun x => PyData.bool (wholeB 0 ((p : Int) - 1) x))), [.val (tS ls), .val (.tuple xs), .val (.int ls.length), .no]) := by
        refine U.comp_map id _ xs (by simp) (by simp) (fun x hx => turn_of (e2 := [.val (tS ls), .val (.tuple xs), .val (.int ls.length), .val x]) (by simp) ⟨by simp, ?_⟩) (by omega)
        have k1 := c1 n (hi xs rfl x hx) 0 ((p : Int) - 1)
        obtain ⟨W, hW⟩ : ∃ W, tS ls = W := ⟨_, rfl⟩
        rw [hW] at ix ⊢
        have pl : p ≤ line := by omega
        simp -implicitDefEqProofs [ix, rl, hr, k1, pl]
      have ho := opd_nm (x := e_10_0) rfl hc
      have ba : biD .all [.list (xs.map fun x => PyData.bool (wholeB 0 ((p : Int) - 1) x))] = some (.val (.bool (xs.all (wholeB 0 ((p : Int) - 1))))) := by rw [bi_all, boolsOf_map, Option.map_some, all_map_id]
      have t : tupB ls.length ls.length (.tuple xs) = true := by simp [tupB, hx]
      rw [t] at k
      obtain ⟨W, hW⟩ : ∃ W, tS ls = W := ⟨_, rfl⟩
      obtain ⟨B, hB⟩ : ∃ B, (xs.map fun x => PyData.bool (wholeB 0 ((p : Int) - 1) x)) = B := ⟨_, rfl⟩
      rw [hW] at ho ln ⊢
      rw [hB] at ho ba
      simp -implicitDefEqProofs [runF, f_10, ln, k, ho, ba, setB, hx, -bi_all, -bi_len_tuple]
    · have t : tupB ls.length ls.length (.tuple xs) = false := by simp [tupB]; omega
      rw [t] at k
      obtain ⟨W, hW⟩ : ∃ W, tS ls = W := ⟨_, rfl⟩
      rw [hW] at ln ⊢
      simp -implicitDefEqProofs [runF, f_10, ln, k, setB, hx, -bi_len_tuple]
  | none => obtain ⟨W, hW⟩ : ∃ W, tS ls = W := ⟨_, rfl⟩
            rw [hW] at ln ⊢
            simp -implicitDefEqProofs [runF, f_10, ln, k, tupB, setB, -bi_len_tuple]
  | bool _ => obtain ⟨W, hW⟩ : ∃ W, tS ls = W := ⟨_, rfl⟩
              rw [hW] at ln ⊢
              simp -implicitDefEqProofs [runF, f_10, ln, k, tupB, setB, -bi_len_tuple]
  | str _ => obtain ⟨W, hW⟩ : ∃ W, tS ls = W := ⟨_, rfl⟩
             rw [hW] at ln ⊢
             simp -implicitDefEqProofs [runF, f_10, ln, k, tupB, setB, -bi_len_tuple]
  | list _ => obtain ⟨W, hW⟩ : ∃ W, tS ls = W := ⟨_, rfl⟩
              rw [hW] at ln ⊢
              simp -implicitDefEqProofs [runF, f_10, ln, k, tupB, setB, -bi_len_tuple]
  | int _ => obtain ⟨W, hW⟩ : ∃ W, tS ls = W := ⟨_, rfl⟩
             rw [hW] at ln ⊢
             simp -implicitDefEqProofs [runF, f_10, ln, k, tupB, setB, -bi_len_tuple]
/-- a setting's turns -/
abbrev tN (ts : List Nat) : D := .tuple (ts.map fun t : Nat => PyData.int t)
structure Se (m p : Nat) (ts : List Nat) : Prop where
  len : ts.length = m
  lt : ∀ t ∈ ts, t < p
theorem nd_nats {ts : List Nat} {xs : List D} (e : tN ts = .tuple xs) : ∀ x ∈ xs, nd x = true := by
  cases e
  intro x hx
  obtain ⟨z, _, rfl⟩ := List.mem_map.mp hx
  rfl
theorem se_B {m p : Nat} {ts : List Nat} (h : Se m p ts) : setB m p (tN ts) = true := by
  simp only [setB, List.length_map, h.len, decide_true, Bool.true_and, List.all_map, List.all_eq_true]
  intro t ht
  have := h.lt t ht
  simp only [Function.comp, wholeB, Bool.and_eq_true, decide_eq_true_eq]
  omega
theorem c11 (n : Nat) {p : Nat} {ls : List (List Nat)} (h : St p ls) {ts : List Nat} (hs : Se ls.length p ts) : (P (n + 4)).call 11 [tS ls, tN ts] = .ret (.val .none) := by
  rw [call_eq (n + 3) (f := f_11) rfl]
  have k := c10 n h (d := tN ts) rfl fun xs e => nd_nats e
  rw [se_B hs] at k
  simp -implicitDefEqProofs [runF, f_11, tst, k]
theorem c12 (n : Nat) {p : Nat} {ls : List (List Nat)} (h : St p ls) {j : Nat} (hj : j < p) : (P (n + 3)).call 12 [tS ls, .int j] = .ret (.val .none) := by
  rw [call_eq (n + 2) (f := f_12) rfl]
  have L : line = 16777216 := rfl
  have p2 := h.p2
  obtain ⟨r0, ix, hr, _⟩ := ix0 h
  have k1 := c1 n (d := .int j) rfl 0 ((p : Int) - 1)
  have t : wholeB 0 ((p : Int) - 1) (.int j) = true := by simp only [wholeB, Bool.and_eq_true, decide_eq_true_eq]; omega
  rw [t] at k1
  have rl : r0.length ≤ line := by omega
  obtain ⟨W, hW⟩ : ∃ W, tS ls = W := ⟨_, rfl⟩
  rw [hW] at ix ⊢
  have pl : p ≤ line := by omega
  simp -implicitDefEqProofs [runF, f_12, ix, rl, hr, k1, tst, pl]
end K45
end

section
namespace K45
open PySem U
/-! ### turns -/
def rot {α : Type} (r : List α) (t : Nat) : List α := r.drop t ++ r.take t
theorem rot_len {α : Type} (r : List α) {t : Nat} (h : t ≤ r.length) : (rot r t).length = r.length := by
  unfold rot; rw [List.length_append, List.length_drop, List.length_take]; omega
theorem rot_get {α : Type} (r : List α) {t j : Nat} (ht : t < r.length) (hj : j < r.length) : (rot r t)[j]? = r[(j + t) % r.length]? := by
  unfold rot
  by_cases h : j + t < r.length
  · rw [List.getElem?_append_left (by rw [List.length_drop]; omega), List.getElem?_drop, Nat.mod_eq_of_lt h, Nat.add_comm]
  · have e : (j + t) % r.length = j + t - r.length := by
      rw [Nat.mod_eq_sub_mod (by omega), Nat.mod_eq_of_lt (by omega)]
    rw [List.getElem?_append_right (by rw [List.length_drop]; omega), List.length_drop, e, List.getElem?_take_of_lt (by omega)]
    congr 1; omega
def lineOf (ls : List (List Nat)) (ts : List Nat) (p sp : Nat) : List Nat := (ls.zip ts).map fun q => q.1.getD ((sp + q.2) % p) 0
def rowsOf (ls : List (List Nat)) (ts : List Nat) (p : Nat) : List (List Nat) := (List.range p).map (lineOf ls ts p)
theorem line_len {ls : List (List Nat)} {ts : List Nat} {p sp : Nat} (hs : ts.length = ls.length) : (lineOf ls ts p sp).length = ls.length := by
  unfold lineOf; rw [List.length_map, List.length_zip]; omega
theorem zip_mem {ls : List (List Nat)} {ts : List Nat} {q : List Nat × Nat} (h : q ∈ ls.zip ts) : q.1 ∈ ls ∧ q.2 ∈ ts := List.of_mem_zip h
theorem line_abc {ls : List (List Nat)} {ts : List Nat} {p sp : Nat} (h : St p ls) : ∀ c ∈ lineOf ls ts p sp, c ∈ abc := by
  intro c hc
  obtain ⟨q, hq, rfl⟩ := List.mem_map.mp hc
  have hm := (zip_mem hq).1
  have hl := h.len _ hm
  have hp := h.p1
  have hi : (sp + q.2) % p < q.1.length := by rw [hl]; exact Nat.mod_lt _ (by omega)
  rw [List.getD_eq_getElem?_getD, List.getElem?_eq_getElem hi]
  exact h.abc _ hm _ (List.getElem_mem hi)
theorem line_wd {ls : List (List Nat)} {ts : List Nat} {p sp : Nat} (h : St p ls) (hs : ts.length = ls.length) : Wd (lineOf ls ts p sp) := by
  have := h.l1
  have := h.l2
  have hl := line_len (p := p) (sp := sp) hs
  exact ⟨by omega, by omega, line_abc h⟩
theorem c13 (n : Nat) {p : Nat} {ls : List (List Nat)} (h : St p ls) {ts : List Nat} (hs : Se ls.length p ts) (sp : Nat) : (P (n + 1)).call 13 [tS ls, tN ts, .int sp] = .ret (.val (S (lineOf ls ts p sp))) := by
  rw [call_eq n (f := f_13) rfl]
  have L : line = 16777216 := rfl
  have p1 := h.p1
  have p2 := h.p2
  have l2 := h.l2
  have sl := hs.len
  obtain ⟨r0, ix, hr, _⟩ := ix0 h
  have rl : r0.length ≤ line := by omega
  have hc : denE (P n) e_13_0 [.val (tS ls), .val (tN ts), .val (.int sp), .val (.int p), .no, .no] = .ok (.fr (.lst ((lineOf ls ts p sp).map fun c => S [c])), [.val (tS ls), .val (tN ts), .val (.int sp), .val (.int p), .no, .no]) := by
    unfold lineOf
    rw [List.map_map]
    refine U.comp_map (fun q : List Nat × Nat => PyData.tuple [S q.1, .int q.2]) _ (ls.zip ts) ?_ (by simp) (fun q hq => turn_of (e2 := [.val (tS ls), .val (tN ts), .val (.int sp), .val (.int p), .val (S q.1), .val (.int q.2)]) (by simp) ⟨by simp, ?_⟩) (by rw [List.length_zip]; omega)
    · rw [denI_z (d := tS ls) (d' := tN ts) (e1 := [.val (tS ls), .val (tN ts), .val (.int sp), .val (.int p), .no, .no]) (e2 := [.val (tS ls), .val (tN ts), .val (.int sp), .val (.int p), .no, .no]) (xs := ls.map S) (ys := ts.map fun t : Nat => PyData.int t) (by simp) (by simp) rfl rfl, zipT_maps]
    · have hl := h.len _ (zip_mem hq).1
      have hi : (sp + q.2) % p < q.1.length := by rw [hl]; exact Nat.mod_lt _ (by omega)
      have pp : (0 : Int) < p := by omega
      have em : ((sp : Int) + (q.2 : Int)) % (p : Int) = (((sp + q.2) % p : Nat) : Int) := by rw [Int.natCast_emod, Int.natCast_add]
      have ii : idxD (S q.1) (.int (((sp + q.2) % p : Nat) : Int)) = some (S [q.1.getD ((sp + q.2) % p) 0]) := by
        rw [ix_str, if_pos (by omega), ixAt_nat hi, Option.bind_some, List.getElem?_eq_getElem hi, List.getD_eq_getElem?_getD, List.getElem?_eq_getElem hi]; rfl
      rw [← em] at ii
      have pn : 0 < p := by omega
      simp -implicitDefEqProofs [pn, ii, -ix_str, Function.comp]
  have ho := opd_nm (x := e_13_0) rfl hc
  have jd := joinD_ones (w := lineOf ls ts p sp) (by rw [line_len sl]; omega)
  have ln : biD .len [S r0] = some (.val (.int p)) := by rw [bi_len_str, if_pos rl, hr]
  obtain ⟨W, hW⟩ : ∃ W, tS ls = W := ⟨_, rfl⟩
  rw [hW] at ix ho ⊢
  simp -implicitDefEqProofs [runF, f_13, ix, ln, ho, jd, -bi_len_str]
theorem rows_len (ls : List (List Nat)) (ts : List Nat) (p : Nat) : (rowsOf ls ts p).length = p := by simp [rowsOf]
theorem c14 (n : Nat) {p : Nat} {ls : List (List Nat)} (h : St p ls) {ts : List Nat} (hs : Se ls.length p ts) : (P (n + 2)).call 14 [tS ls, tN ts] = .ret (.fr (.lst ((rowsOf ls ts p).map S))) := by
  rw [call_eq (n + 1) (f := f_14) rfl]
  have L : line = 16777216 := rfl
  have p2 := h.p2
  obtain ⟨r0, ix, hr, _⟩ := ix0 h
  have rl : r0.length ≤ line := by omega
  have pl : p ≤ line := by omega
  have ln : biD .len [S r0] = some (.val (.int p)) := by rw [bi_len_str, if_pos rl, hr]
  have hc : denE (P (n + 1)) e_14_0 [.val (tS ls), .val (tN ts), .no] = .ok (.fr (.lst ((rowsOf ls ts p).map S)), [.val (tS ls), .val (tN ts), .no]) := by
    unfold rowsOf
    rw [List.map_map]
    refine U.comp_map (fun j : Nat => PyData.int j) _ (List.range p) (denI_r1 ?_ pl) (by simp) (fun j hj => turn_of (e2 := [.val (tS ls), .val (tN ts), .val (.int j)]) (by simp) ⟨by simp, ?_⟩) (by simpa using pl)
    · obtain ⟨W, hW⟩ : ∃ W, tS ls = W := ⟨_, rfl⟩
      rw [hW] at ix ⊢
      simp -implicitDefEqProofs [ix, ln, -bi_len_str]
    · have k := c13 n h hs j
      simp -implicitDefEqProofs [k]
  refine runF_ret (e := [.val (tS ls), .val (tN ts), .no]) rfl rfl ?_
  have e : f_14.body = .seq (.ret e_14_0) .nop := rfl
  rw [e]
  show denS (P (n + 1)) _ [.val (tS ls), .val (tN ts), .no] = _
  simp -implicitDefEqProofs only [q_denS_2, q_denS_3, q_denS_1, hc, to_bnd, bnd_ok]
theorem c19 (n : Nat) {p : Nat} {ls : List (List Nat)} (h : St p ls) {ts : List Nat} (hs : Se ls.length p ts) : (P (n + 5)).call 19 [tS ls, tN ts] = .ret (.val (tS (rowsOf ls ts p))) := by
  rw [call_eq (n + 4) (f := f_19) rfl]
  have k9 := c9 (n + 1) h
  have k11 := c11 n h hs
  have k14 := c14 (n + 2) h hs
  obtain ⟨R, hR⟩ : ∃ R, (rowsOf ls ts p).map S = R := ⟨_, rfl⟩
  have eR : tS (rowsOf ls ts p) = .tuple R := by rw [← hR]
  rw [hR] at k14
  rw [eR]
  obtain ⟨W, hW⟩ : ∃ W, tS ls = W := ⟨_, rfl⟩
  obtain ⟨T, hT⟩ : ∃ T, tN ts = T := ⟨_, rfl⟩
  rw [hW] at k9 k11 k14 ⊢
  rw [hT] at k11 k14 ⊢
  simp -implicitDefEqProofs [runF, f_19, k9, k11, k14]
theorem c20 (n : Nat) {p : Nat} {ls : List (List Nat)} (h : St p ls) {ts : List Nat} (hs : Se ls.length p ts) {j : Nat} (hj : j < p) : (P (n + 5)).call 20 [tS ls, tN ts, .int j] = .ret (.val (S (lineOf ls ts p j))) := by
  rw [call_eq (n + 4) (f := f_20) rfl]
  have k9 := c9 (n + 1) h
  have k11 := c11 n h hs
  have k12 := c12 (n + 1) h hj
  have k13 := c13 (n + 3) h hs j
  obtain ⟨W, hW⟩ : ∃ W, tS ls = W := ⟨_, rfl⟩
  obtain ⟨T, hT⟩ : ∃ T, tN ts = T := ⟨_, rfl⟩
  rw [hW] at k9 k11 k12 k13 ⊢
  rw [hT] at k11 k13 ⊢
  simp -implicitDefEqProofs [runF, f_20, k9, k11, k12, k13]
/-- where a word stands -/
def spk (f : Nat → List Nat) (p : Nat) (w : List Nat) : List Nat := (List.range p).filter fun j => decide (f j = w)
theorem c21 (n : Nat) {p : Nat} {ls : List (List Nat)} (h : St p ls) {ts : List Nat} (hs : Se ls.length p ts) {w : List Nat} (hw : Wd w) : (P (n + 5)).call 21 [tS ls, tN ts, S w] = .ret (.val (tN (spk (lineOf ls ts p) p w))) := by
  rw [call_eq (n + 4) (f := f_21) rfl]
  have L : line = 16777216 := rfl
  have p2 := h.p2
  have k9 := c9 (n + 1) h
  have k11 := c11 n h hs
  have k6 := c6 (n + 2) hw
  have k14 := c14 (n + 2) h hs
  obtain ⟨W, hW⟩ : ∃ W, tS ls = W := ⟨_, rfl⟩
  obtain ⟨T, hT⟩ : ∃ T, tN ts = T := ⟨_, rfl⟩
  rw [hW] at k9 k11 k14 ⊢
  rw [hT] at k11 k14 ⊢
  have hc : denE (P (n + 4)) e_21_0 [.val W, .val T, .val (S w), .no, .no] = .ok (.fr (.lst ((spk (lineOf ls ts p) p w).map fun j : Nat => PyData.int j)), [.val W, .val T, .val (S w), .no, .no]) := by
    refine U.comp_filter (fun j : Nat => PyData.tuple [.int j, S (lineOf ls ts p j)]) (fun j => decide (lineOf ls ts p j = w)) (fun j : Nat => PyData.int j) (List.range p) ?_ (by simp) (fun j hj => turn_of (e2 := [.val W, .val T, .val (S w), .val (.int j), .val (S (lineOf ls ts p j))]) (by simp) ?_) (by simp; omega)
    · rw [denI_en (d := .list ((rowsOf ls ts p).map S)) (e := [.val W, .val T, .val (S w), .no, .no]) (ds := (rowsOf ls ts p).map S) (by simp -implicitDefEqProofs [k14]) rfl, enumT_mapP]
      unfold rowsOf
      rw [enumP_fun, List.map_map]; rfl
    · by_cases hp : lineOf ls ts p j = w
      · simp -implicitDefEqProofs [hp, tst]
      · simp -implicitDefEqProofs [hp, tst]
  have ho := opd_nm (x := e_21_0) rfl hc
  obtain ⟨R, hR⟩ : ∃ R, ((spk (lineOf ls ts p) p w).map fun j : Nat => PyData.int j) = R := ⟨_, rfl⟩
  have eR : tN (spk (lineOf ls ts p) p w) = .tuple R := by rw [← hR]
  rw [hR] at ho
  rw [eR]
  simp -implicitDefEqProofs [runF, f_21, k9, k11, k6, ho]
end K45
end

section
namespace K45
open PySem U
theorem Se.cons {p : Nat} {ls : List (List Nat)} (h : St p ls) {ts : List Nat} (hs : Se ls.length p ts) : ∃ t0 r, ts = t0 :: r ∧ t0 < p := by
  cases ts with
  | nil => have := h.l1; have := hs.len; simp at this; omega
  | cons t0 r => exact ⟨t0, r, rfl, hs.lt t0 List.mem_cons_self⟩
def plainS (p : Nat) (ts : List Nat) : List Nat := ts.map fun t => (t + p - ts.headD 0) % p
theorem emod_nat {t t0 p : Nat} (h : t0 ≤ p) : ((t : Int) - (t0 : Int)) % (p : Int) = (((t + p - t0) % p : Nat) : Int) := by
  rw [Int.natCast_emod]
  have e : ((t + p - t0 : Nat) : Int) = (t : Int) - t0 + p := by omega
  rw [e, Int.add_emod_right]
theorem c15 (n : Nat) {p : Nat} {ls : List (List Nat)} (h : St p ls) {ts : List Nat} (hs : Se ls.length p ts) : (P (n + 1)).call 15 [tS ls, tN ts] = .ret (.val (tN (plainS p ts))) := by
  rw [call_eq n (f := f_15) rfl]
  have L : line = 16777216 := rfl
  have p1 := h.p1
  have p2 := h.p2
  have l2 := h.l2
  have sl := hs.len
  obtain ⟨r0, ix, hr, _⟩ := ix0 h
  have rl : r0.length ≤ line := by omega
  have ln : biD .len [S r0] = some (.val (.int p)) := by rw [bi_len_str, if_pos rl, hr]
  obtain ⟨t0, r, ht, t0p⟩ := Se.cons h hs
  have i1 : idxD (tN ts) (.int 0) = some (.int t0) := by rw [ht]; simp
  have pn : 0 < p := by omega
  have hd : ts.headD 0 = t0 := by rw [ht]; rfl
  obtain ⟨W, hW⟩ : ∃ W, tS ls = W := ⟨_, rfl⟩
  rw [hW] at ix ⊢
  have hc : denE (P n) e_15_0 [.val W, .val (tN ts), .val (.int p), .no] = .ok (.fr (.lst ((plainS p ts).map fun t : Nat => PyData.int t)), [.val W, .val (tN ts), .val (.int p), .no]) := by
    unfold plainS
    rw [List.map_map, hd]
    refine U.comp_map (fun t : Nat => PyData.int t) _ ts (by simp) (by simp) (fun t htm => turn_of (e2 := [.val W, .val (tN ts), .val (.int p), .val (.int t)]) (by simp) ⟨by simp, ?_⟩) (by omega)
    have em := emod_nat (t := t) (t0 := t0) (p := p) (by omega)
    obtain ⟨T, hT⟩ : ∃ T, tN ts = T := ⟨_, rfl⟩
    rw [hT] at i1 ⊢
    obtain ⟨z, hz⟩ : ∃ z : Int, (((t + p - t0) % p : Nat) : Int) = z := ⟨_, rfl⟩
    rw [hz] at em
    show _ = Out.ok (PyData.int (((t + p - t0) % p : Nat) : Int), _)
    rw [hz]
    simp -implicitDefEqProofs [i1, pn, em]
  have ho := opd_nm (x := e_15_0) rfl hc
  obtain ⟨R, hR⟩ : ∃ R, ((plainS p ts).map fun t : Nat => PyData.int t) = R := ⟨_, rfl⟩
  have eR : tN (plainS p ts) = .tuple R := by rw [← hR]
  rw [hR] at ho
  rw [eR]
  obtain ⟨T, hT⟩ : ∃ T, tN ts = T := ⟨_, rfl⟩
  rw [hT] at ho ⊢
  simp -implicitDefEqProofs [runF, f_15, ix, ln, ho, -bi_len_str]
theorem c25 (n : Nat) {p : Nat} {ls : List (List Nat)} (h : St p ls) {ts : List Nat} (hs : Se ls.length p ts) : (P (n + 5)).call 25 [tS ls, tN ts] = .ret (.val (tN (plainS p ts))) := by
  rw [call_eq (n + 4) (f := f_25) rfl]
  have k9 := c9 (n + 1) h
  have k11 := c11 n h hs
  have k15 := c15 (n + 3) h hs
  obtain ⟨W, hW⟩ : ∃ W, tS ls = W := ⟨_, rfl⟩
  obtain ⟨T, hT⟩ : ∃ T, tN ts = T := ⟨_, rfl⟩
  obtain ⟨R, hR⟩ : ∃ R, tN (plainS p ts) = R := ⟨_, rfl⟩
  rw [hW] at k9 k11 k15 ⊢
  rw [hT] at k11 k15 ⊢
  rw [hR] at k15 ⊢
  simp -implicitDefEqProofs [runF, f_25, k9, k11, k15]
def inR (rows : List (List Nat)) (w : List Nat) : Bool := rows.any fun r => decide (r = w)
theorem c16 (n : Nat) (rows ws : List (List Nat)) (hl : ws.length ≤ line) : (P (n + 1)).call 16 [.list (rows.map S), tS ws] = .ret (.fr (.lst ((ws.filter (inR rows)).map S))) := by
  rw [call_eq n (f := f_16) rfl]
  have hc : denE (P n) e_16_0 [.val (.list (rows.map S)), .val (tS ws), .no] = .ok (.fr (.lst ((ws.filter (inR rows)).map S)), [.val (.list (rows.map S)), .val (tS ws), .no]) := by
    refine U.comp_filter S (inR rows) S ws (by simp) (by simp) (fun w hw => turn_of (e2 := [.val (.list (rows.map S)), .val (tS ws), .val (S w)]) (by simp) ?_) hl
    have ci := cm_in_ls w rows
    have ci : cmpD .isin (S w) (.list (rows.map S)) = some (inR rows w) := ci
    obtain ⟨R, hR⟩ : ∃ R, rows.map S = R := ⟨_, rfl⟩
    obtain ⟨b, hb⟩ : ∃ b, inR rows w = b := ⟨_, rfl⟩
    rw [hR] at ci ⊢
    rw [hb] at ci ⊢
    cases b <;> simp -implicitDefEqProofs [ci, tst]
  refine runF_ret (e := [.val (.list (rows.map S)), .val (tS ws), .no]) rfl rfl ?_
  have e : f_16.body = .seq (.ret e_16_0) .nop := rfl
  rw [e]
  show denS (P n) _ [.val (.list (rows.map S)), .val (tS ws), .no] = _
  simp -implicitDefEqProofs only [q_denS_2, q_denS_3, q_denS_1, hc, to_bnd, bnd_ok]
theorem c22 (n : Nat) {p : Nat} {ls : List (List Nat)} (h : St p ls) {ts : List Nat} (hs : Se ls.length p ts) {ws : List (List Nat)} (hw : Wl ws) : (P (n + 5)).call 22 [tS ls, tN ts, tS ws] = .ret (.val (tS (ws.filter (inR (rowsOf ls ts p))))) := by
  rw [call_eq (n + 4) (f := f_22) rfl]
  have k9 := c9 (n + 1) h
  have k11 := c11 n h hs
  have k7 := c7 (n + 1) hw
  have k14 := c14 (n + 2) h hs
  have k16 := c16 (n + 3) (rowsOf ls ts p) ws hw.ll
  obtain ⟨R, hR⟩ : ∃ R, (rowsOf ls ts p).map S = R := ⟨_, rfl⟩
  rw [hR] at k14 k16
  obtain ⟨V, hV⟩ : ∃ V, (ws.filter (inR (rowsOf ls ts p))).map S = V := ⟨_, rfl⟩
  have eV : tS (ws.filter (inR (rowsOf ls ts p))) = .tuple V := by rw [← hV]
  rw [hV] at k16
  rw [eV]
  obtain ⟨W, hW⟩ : ∃ W, tS ls = W := ⟨_, rfl⟩
  obtain ⟨T, hT⟩ : ∃ T, tN ts = T := ⟨_, rfl⟩
  obtain ⟨Y, hY⟩ : ∃ Y, tS ws = Y := ⟨_, rfl⟩
  rw [hW] at k9 k11 k14 ⊢
  rw [hT] at k11 k14 ⊢
  rw [hY] at k7 k16 ⊢
  simp -implicitDefEqProofs [runF, f_22, k9, k11, k7, k14, k16]
def rots (ls : List (List Nat)) (ts : List Nat) : List (List Nat) := (ls.zip ts).map fun q => rot q.1 q.2
/-- ring[turn:] + ring[:turn] -/
theorem rot_den {p : Nat} {r : List Nat} {t : Nat} (hr : r.length = p) (ht : t < p) (hp : p ≤ 12) : binD .add (S (cut r (some (t : Int)) none)) (S (cut r none (some (t : Int)))) = some (.val (S (rot r t))) := by
  have L : line = 16777216 := rfl
  rw [cut_from, cut_to, bn_adds, if_pos (by rw [List.length_drop, List.length_take]; omega)]; rfl
theorem rots_comp (F : Fns) (it : Tx) {p : Nat} {ls : List (List Nat)} (h : St p ls) {ts : List Nat} (hs : Se ls.length p ts) (x y : Nat) (own : List Nat) (ho : own = [x, y]) (env : Ev) (bnd2 : ∀ r t : D, ∃ e2, bindT (.tup (.cons (.slot x) (.cons (.slot y) .nil))) (.tuple [r, t]) (wipeE env own) = some e2 ∧ e2[x]? = some (.val r) ∧ e2[y]? = some (.val t))
    (hz : denI F it env = .ok ((ls.zip ts).map fun q => PyData.tuple [S q.1, .int (q.2 : Nat)], env)) (hio : (own.all fun v => !isIo env[v]?) = true) :
    denE F (.comp own (.tup (.cons (.slot x) (.cons (.slot y) .nil))) it .nil (.bin .add (.sl (.slot x) (.cons (.slot y) .nil) .nil) (.sl (.slot x) .nil (.cons (.slot y) .nil)))) env = .ok (.fr (.lst ((rots ls ts).map S)), env) := by
  have L : line = 16777216 := rfl
  have l2 := h.l2
  have sl := hs.len
  unfold rots
  rw [List.map_map]
  refine U.comp_map (fun q : List Nat × Nat => PyData.tuple [S q.1, .int (q.2 : Nat)]) _ (ls.zip ts) hz (by rw [hio, ho]; simp) (fun q hq => ?_) (by rw [List.length_zip]; omega)
  obtain ⟨e2, b1, b2, b3⟩ := bnd2 (S q.1) (.int (q.2 : Nat))
  refine turn_of b1 ⟨by simp, ?_⟩
  have hl := h.len _ (zip_mem hq).1
  have ht := hs.lt _ (zip_mem hq).2
  have rd := rot_den hl ht h.p2
  have rl : q.1.length ≤ line := by have := h.p2; omega
  simp -implicitDefEqProofs [b2, b3, rl, rd, -bn_adds]
end K45
end

section
namespace K45
open PySem U
theorem c23 (n : Nat) {p : Nat} {ls : List (List Nat)} (h : St p ls) {ts : List Nat} (hs : Se ls.length p ts) : (P (n + 5)).call 23 [tS ls, tN ts] = .ret (.val (tS (rots ls ts))) := by
  rw [call_eq (n + 4) (f := f_23) rfl]
  have k9 := c9 (n + 1) h
  have k11 := c11 n h hs
  have hc : denE (P (n + 4)) e_23_0 [.val (tS ls), .val (tN ts), .no, .no] = .ok (.fr (.lst ((rots ls ts).map S)), [.val (tS ls), .val (tN ts), .no, .no]) :=
    rots_comp (P (n + 4)) (.itZ (.slot 0) (.slot 1)) h hs 2 3 [2, 3] rfl [.val (tS ls), .val (tN ts), .no, .no] (fun r t => ⟨[.val (tS ls), .val (tN ts), .val r, .val t], by simp, rfl, rfl⟩)
      (by rw [denI_z (d := tS ls) (d' := tN ts) (e1 := [.val (tS ls), .val (tN ts), .no, .no]) (e2 := [.val (tS ls), .val (tN ts), .no, .no]) (xs := ls.map S) (ys := ts.map fun t : Nat => PyData.int t) (by simp) (by simp) rfl rfl, zipT_maps]) rfl
  have ho := opd_nm (x := e_23_0) rfl hc
  obtain ⟨R, hR⟩ : ∃ R, (rots ls ts).map S = R := ⟨_, rfl⟩
  have eR : tS (rots ls ts) = .tuple R := by rw [← hR]
  rw [hR] at ho
  rw [eR]
  obtain ⟨W, hW⟩ : ∃ W, tS ls = W := ⟨_, rfl⟩
  obtain ⟨T, hT⟩ : ∃ T, tN ts = T := ⟨_, rfl⟩
  rw [hW] at k9 k11 ho ⊢
  rw [hT] at k11 ho ⊢
  simp -implicitDefEqProofs [runF, f_23, k9, k11, ho]
/-- the turns that make one of the other -/
def sameS (a b : List (List Nat)) (p : Nat) : List Nat := (List.range p).filter fun t => decide (rot a t = b)
theorem map_rot {α β : Type} (f : α → β) (r : List α) (t : Nat) : (rot r t).map f = (r.map f).drop t ++ (r.map f).take t := by
  unfold rot; rw [List.map_append, List.map_drop, List.map_take]
theorem rotL_den {p : Nat} {a : List (List Nat)} {t : Nat} (ha : a.length = p) (ht : t < p) (hp : p ≤ 12) : binD .add (.list (cut (a.map S) (some (t : Int)) none)) (.list (cut (a.map S) none (some (t : Int)))) = some (.fr (.lst ((rot a t).map S))) := by
  have L : line = 16777216 := rfl
  rw [cut_from, cut_to, bn_addl, if_pos (by rw [List.length_drop, List.length_take, List.length_map]; omega), map_rot]
theorem c24 (n : Nat) {p : Nat} {ls : List (List Nat)} (h : St p ls) {ts us : List Nat} (hs : Se ls.length p ts) (hu : Se ls.length p us) : (P (n + 5)).call 24 [tS ls, tN ts, tN us] = .ret (.val (tN (sameS (rowsOf ls ts p) (rowsOf ls us p) p))) := by
  rw [call_eq (n + 4) (f := f_24) rfl]
  have L : line = 16777216 := rfl
  have p2 := h.p2
  have k9 := c9 (n + 1) h
  have k11 := c11 n h hs
  have k11' := c11 n h hu
  have k14 := c14 (n + 2) h hs
  have k14' := c14 (n + 2) h hu
  have la := rows_len ls ts p
  obtain ⟨a, hA⟩ : ∃ a, rowsOf ls ts p = a := ⟨_, rfl⟩
  obtain ⟨b, hB⟩ : ∃ b, rowsOf ls us p = b := ⟨_, rfl⟩
  rw [hA] at k14 la ⊢
  rw [hB] at k14' ⊢
  obtain ⟨W, hW⟩ : ∃ W, tS ls = W := ⟨_, rfl⟩
  obtain ⟨T, hT⟩ : ∃ T, tN ts = T := ⟨_, rfl⟩
  obtain ⟨U', hU⟩ : ∃ U', tN us = U' := ⟨_, rfl⟩
  rw [hW] at k9 k11 k11' k14 k14' ⊢
  rw [hT] at k11 k14 ⊢
  rw [hU] at k11' k14' ⊢
  have lm : (a.map S).length = p := by rw [List.length_map, la]
  have hc : denE (P (n + 4)) e_24_0 [.val W, .val T, .val U', .val (.list (a.map S)), .val (.list (b.map S)), .no] = .ok (.fr (.lst ((sameS a b p).map fun j : Nat => PyData.int j)), [.val W, .val T, .val U', .val (.list (a.map S)), .val (.list (b.map S)), .no]) := by
    refine U.comp_filter (fun j : Nat => PyData.int j) (fun t => decide (rot a t = b)) (fun j : Nat => PyData.int j) (List.range p) (denI_r1 (by simp [la]) (by omega)) (by simp) (fun t ht => turn_of (e2 := [.val W, .val T, .val U', .val (.list (a.map S)), .val (.list (b.map S)), .val (.int t)]) (by simp) ?_) (by simp; omega)
    have rd := rotL_den la (by simpa using ht : t < p) p2
    have ce := cm_eq_ls (rot a t) b
    obtain ⟨A, hA2⟩ : ∃ A, a.map S = A := ⟨_, rfl⟩
    obtain ⟨B, hB2⟩ : ∃ B, b.map S = B := ⟨_, rfl⟩
    obtain ⟨R, hR2⟩ : ∃ R, (rot a t).map S = R := ⟨_, rfl⟩
    obtain ⟨q, hq⟩ : ∃ q, decide (rot a t = b) = q := ⟨_, rfl⟩
    rw [hA2] at rd ⊢
    rw [hR2] at rd ce
    rw [hB2] at ce ⊢
    rw [hq] at ce ⊢
    cases q <;> simp -implicitDefEqProofs [rd, ce, tst, -bn_addl]
  have ho := opd_nm (x := e_24_0) rfl hc
  obtain ⟨R, hR⟩ : ∃ R, ((sameS a b p).map fun j : Nat => PyData.int j) = R := ⟨_, rfl⟩
  have eR : tN (sameS a b p) = .tuple R := by rw [← hR]
  rw [hR] at ho
  rw [eR]
  obtain ⟨A, hA2⟩ : ∃ A, a.map S = A := ⟨_, rfl⟩
  obtain ⟨B, hB2⟩ : ∃ B, b.map S = B := ⟨_, rfl⟩
  rw [hA2] at k14 ho
  rw [hB2] at k14' ho
  simp -implicitDefEqProofs [runF, f_24, k9, k11, k11', k14, k14', ho]
/-- the letters at j -/
def colOf (rs : List (List Nat)) (j : Nat) : List Nat := rs.map fun r => r.getD j 0
theorem col_line {p : Nat} {ls : List (List Nat)} (h : St p ls) {ts : List Nat} (hs : Se ls.length p ts) {j : Nat} (hj : j < p) : colOf (rots ls ts) j = lineOf ls ts p j := by
  unfold colOf rots lineOf
  rw [List.map_map]
  refine List.map_congr_left fun q hq => ?_
  have hl := h.len _ (zip_mem hq).1
  have ht := hs.lt _ (zip_mem hq).2
  show (rot q.1 q.2).getD j 0 = _
  rw [List.getD_eq_getElem?_getD, rot_get q.1 (by omega) (by omega), hl, List.getD_eq_getElem?_getD]
theorem rots_mem {p : Nat} {ls : List (List Nat)} (h : St p ls) {ts : List Nat} (hs : Se ls.length p ts) : St p (rots ls ts) := by
  have sl := hs.len
  have rl : (rots ls ts).length = ls.length := by unfold rots; rw [List.length_map, List.length_zip]; omega
  refine ⟨by rw [rl]; exact h.l1, by rw [rl]; exact h.l2, h.p1, h.p2, fun r hr => ?_, fun r hr c hc => ?_⟩
  · obtain ⟨q, hq, rfl⟩ := List.mem_map.mp hr
    have hl := h.len _ (zip_mem hq).1
    have ht := hs.lt _ (zip_mem hq).2
    rw [rot_len _ (by omega), hl]
  · obtain ⟨q, hq, rfl⟩ := List.mem_map.mp hr
    unfold rot at hc
    refine h.abc _ (zip_mem hq).1 c ?_
    rcases List.mem_append.mp hc with hc | hc
    · exact List.mem_of_mem_drop hc
    · exact List.mem_of_mem_take hc
theorem rots_len {ls : List (List Nat)} {ts : List Nat} (hs : ts.length = ls.length) : (rots ls ts).length = ls.length := by unfold rots; rw [List.length_map, List.length_zip]; omega
def Eb (W T : D) (X : List D) (b : Bool) (j : Slot) : Ev := [.val W, .val T, if b then .own false (.lst X) else .val (.list X), .no, .no, j, .no]
theorem c32 (n : Nat) {p : Nat} {ls : List (List Nat)} (h : St p ls) {ts : List Nat} (hs : Se ls.length p ts) : (P (n + 1)).call 32 [tS ls, tN ts] = .ret (.val (tS (rowsOf ls ts p))) := by
  rw [call_eq n (f := f_32) rfl]
  have L : line = 16777216 := rfl
  have p2 := h.p2
  have l2 := h.l2
  have hR := rots_mem h hs
  have rl := rots_len hs.len
  have col := fun j (hj : j < p) => col_line h hs hj
  have hc : denE (P n) e_32_2 [.val (tS ls), .val (tN ts), .no, .no, .no, .no, .no] = .ok (.fr (.lst ((rots ls ts).map S)), [.val (tS ls), .val (tN ts), .no, .no, .no, .no, .no]) :=
    rots_comp (P n) (.itZ (.slot 0) (.slot 1)) h hs 3 4 [3, 4] rfl [.val (tS ls), .val (tN ts), .no, .no, .no, .no, .no] (fun r t => ⟨[.val (tS ls), .val (tN ts), .no, .val r, .val t, .no, .no], by simp, rfl, rfl⟩)
      (by rw [denI_z (d := tS ls) (d' := tN ts) (e1 := [.val (tS ls), .val (tN ts), .no, .no, .no, .no, .no]) (e2 := [.val (tS ls), .val (tN ts), .no, .no, .no, .no, .no]) (xs := ls.map S) (ys := ts.map fun t : Nat => PyData.int t) (by simp) (by simp) rfl rfl, zipT_maps]) rfl
  obtain ⟨rs, hrs⟩ : ∃ rs, rots ls ts = rs := ⟨_, rfl⟩
  rw [hrs] at hR rl hc col
  obtain ⟨W, hW⟩ : ∃ W, tS ls = W := ⟨_, rfl⟩
  obtain ⟨T, hT⟩ : ∃ T, tN ts = T := ⟨_, rfl⟩
  rw [hW] at hc ⊢
  rw [hT] at hc ⊢
  -- the inner one
  have inner : ∀ (b : Bool) (j : Nat), j < p → denE (P n) e_32_0 (Eb W T (rs.map S) b (.val (.int j))) = .ok (.fr (.lst ((colOf rs j).map fun c => S [c])), Eb W T (rs.map S) false (.val (.int j))) := by
    intro b j hj
    have key : denE (P n) e_32_0 (Eb W T (rs.map S) false (.val (.int j))) = .ok (.fr (.lst ((colOf rs j).map fun c => S [c])), Eb W T (rs.map S) false (.val (.int j))) := by
      unfold colOf
      rw [List.map_map]
      refine U.comp_map S _ rs (by simp [Eb]) (by simp [Eb]) (fun r hr => turn_of (e2 := [.val W, .val T, .val (.list (rs.map S)), .no, .no, .val (.int j), .val (S r)]) (by simp [Eb]) ⟨by simp, ?_⟩) (by omega)
      have hl := hR.len r hr
      have hi : j < r.length := by omega
      have ii : idxD (S r) (.int j) = some (S [r.getD j 0]) := by
        rw [ix_str, if_pos (by omega), ixAt_nat hi, Option.bind_some, List.getElem?_eq_getElem hi, List.getD_eq_getElem?_getD, List.getElem?_eq_getElem hi]; rfl
      simp -implicitDefEqProofs [ii, -ix_str, Function.comp]
    cases b with
    | false => exact key
    | true => exact (comp_start (by simp [Eb])).trans key
  obtain ⟨r0, rt, hcons, hr0⟩ := hR.cons
  have r0l : r0.length ≤ line := by omega
  have ix : idxD (.list (rs.map S)) (.int 0) = some (S r0) := by rw [hcons]; simp
  have ln : biD .len [S r0] = some (.val (.int p)) := by rw [bi_len_str, if_pos r0l, hr0]
  obtain ⟨b', hout⟩ := comp_st (F := P n) (own := [5]) (tg := .slot 5) (it := .itR (.cons (.bi .len (.cons (.idx (.slot 2) (.lit (.int 0))) .nil)) .nil)) (el := .me .join (.lit (S [])) (.cons e_32_0 .nil))
    (fun b => Eb W T (rs.map S) b .no) (fun j : Nat => PyData.int j) (fun j => S (lineOf ls ts p j)) (List.range p) (e0 := Eb W T (rs.map S) true .no) true
    (by
      refine denI_r1 ?_ (by omega)
      obtain ⟨X, hX⟩ : ∃ X, rs.map S = X := ⟨_, rfl⟩
      rw [hX] at ix ⊢
      simp -implicitDefEqProofs [Eb, ix, ln, -bi_len_str, -ix_list]) (by simp [Eb]) (fun b => ⟨by simp [Eb], fun v hv => by simp at hv; subst hv; simp [Eb]⟩)
    (fun j hj b => by
      have hj : j < p := by simpa using hj
      have ho := opd_nm (x := e_32_0) rfl (inner b j hj)
      have jd := joinD_ones (w := colOf rs j) (by unfold colOf; rw [List.length_map]; omega)
      rw [col j hj] at ho jd
      obtain ⟨X, hX⟩ : ∃ X, rs.map S = X := ⟨_, rfl⟩
      rw [hX] at ho ⊢
      refine ⟨Eb W T X b (.val (.int j)), Eb W T X false (.val (.int j)), false, by simp [Eb], ?_, by simp [Eb]⟩
      simp -implicitDefEqProofs [ho, jd]) (by simp; omega)
  have ho := opd_nm (x := e_32_1) rfl hout
  obtain ⟨X, hX⟩ : ∃ X, rs.map S = X := ⟨_, rfl⟩
  rw [hX] at hc ho
  have e1 : (List.range p).map (fun j => S (lineOf ls ts p j)) = (rowsOf ls ts p).map S := by unfold rowsOf; rw [List.map_map]; rfl
  rw [e1] at ho
  obtain ⟨Y, hY⟩ : ∃ Y, (rowsOf ls ts p).map S = Y := ⟨_, rfl⟩
  have eY : tS (rowsOf ls ts p) = .tuple Y := by rw [← hY]
  rw [hY] at ho
  rw [eY]
  have ho : opd e_32_1 (denE (P n) e_32_1) [.val W, .val T, .own false (.lst X), .no, .no, .no, .no] = _ := ho
  simp -implicitDefEqProofs [runF, f_32, hc, ho]
end K45
end

section
namespace K45
open PySem U
theorem some_tup (n : Nat) {o : Ow} (ho : cupOk o) {l : List D} (h0 : 0 < l.length) (h1 : l.length < 1000000) :
    ∃ x ∈ l, ∃ o', (P (n + 2)).callM 28 o [.tuple l] = .ret (.val x) o' ∧ cupOk o' :=
  some_of n ho (by simp) (fun j hj => by simp [ixAt_nat hj]) h0 h1
structure Lt (l : List Nat) : Prop where
  h0 : 0 < l.length
  h1 : l.length < 1000000
  ha : ∀ c ∈ l, c ∈ abc
theorem strs_of {Q : List Nat → Prop} : ∀ ys : List D, (∀ y ∈ ys, ∃ r, y = S r ∧ Q r) → ∃ ls : List (List Nat), ys = ls.map S ∧ ls.length = ys.length ∧ ∀ r ∈ ls, Q r
  | [], _ => ⟨[], rfl, rfl, fun _ h => nomatch h⟩
  | y :: ys, h => by
    obtain ⟨w, rfl, h2, h3⟩ := strs_of ys fun z hz => h z (List.mem_cons_of_mem _ hz)
    obtain ⟨c, rfl, hc⟩ := h y List.mem_cons_self
    refine ⟨c :: w, rfl, by simp, fun z hz => ?_⟩
    rcases List.mem_cons.mp hz with rfl | hz
    · exact hc
    · exact h3 z hz
theorem nats_of {m : Nat} : ∀ ys : List D, (∀ y ∈ ys, ∃ t : Nat, y = .int t ∧ t < m) → ∃ ts : List Nat, ys = ts.map (fun t : Nat => PyData.int t) ∧ ts.length = ys.length ∧ ∀ t ∈ ts, t < m
  | [], _ => ⟨[], rfl, rfl, fun _ h => nomatch h⟩
  | y :: ys, h => by
    obtain ⟨w, rfl, h2, h3⟩ := nats_of ys fun z hz => h z (List.mem_cons_of_mem _ hz)
    obtain ⟨c, rfl, hc⟩ := h y List.mem_cons_self
    refine ⟨c :: w, rfl, by simp, fun z hz => ?_⟩
    rcases List.mem_cons.mp hz with rfl | hz
    · exact hc
    · exact h3 z hz
theorem e30_0 (n : Nat) {l : List Nat} (hl : Lt l) (m : D) {p : Nat} (hp : p ≤ 12) (x : Slot) {o : Ow} (ho : cupOk o) :
    ∃ (r : List Nat) (o' : Ow), denE (P (n + 2)) e_30_0 [.own true o, .val m, .val (.int p), .val (S l), x, .no] = .ok (.fr (.lst (r.map fun c => S [c])), [.own true o', .val m, .val (.int p), .val (S l), x, .no]) ∧ cupOk o' ∧ r.length = p ∧ ∀ c ∈ r, c ∈ abc := by
  have L : line = 16777216 := rfl
  obtain ⟨ys, o2, c1, ho2, c2, c3⟩ := comp_io (F := P (n + 2)) (own := [5]) (tg := .slot 5) (it := .itR (.cons (.slot 2) .nil)) (el := .callM 28 0 (.cons (.slot 3) .nil))
    (fun o => [.own true o, .val m, .val (.int p), .val (S l), x, .no]) cupOk (fun y => ∃ c ∈ l, y = S [c]) ((List.range p).map fun j : Nat => PyData.int j) (e0 := [.own true o, .val m, .val (.int p), .val (S l), x, .no]) o ho
    (denI_r1 (n := p) (by simp) (by omega)) (by simp) (fun o' => ⟨rfl, fun v hv => by simp at hv; subst hv; rfl⟩)
    (fun y hy o ho => by
      obtain ⟨c, hc, o', ec, ho'⟩ := some_str n ho hl.h0 hl.h1
      exact ⟨[.own true o, .val m, .val (.int p), .val (S l), x, .val y], S [c], [.own true o', .val m, .val (.int p), .val (S l), x, .val y], o', by simp, by simp -implicitDefEqProofs [dE_callM, ec], by simp, ho', c, hc, rfl⟩)
    (by simp; omega)
  obtain ⟨w, rfl, w2, w3⟩ := ones_of ys c3
  exact ⟨w, o2, c1, ho2, by rw [w2, c2]; simp, fun c hc => hl.ha c (w3 c hc)⟩
theorem c30 (n : Nat) {o : Ow} (ho : cupOk o) {m p : Nat} (m1 : 1 ≤ m) (m2 : m ≤ 6) (p1 : 1 ≤ p) (p2 : p ≤ 12) : ∃ ls o', (P (n + 3)).callM 30 o [.int m, .int p] = .ret (.val (tS ls)) o' ∧ cupOk o' ∧ St p ls ∧ ls.length = m := by
  have L : line = 16777216 := rfl
  obtain ⟨v, o1, e1, ho1, v0, v1⟩ := c27 (n + 1) ho (many := 15) (by decide) (by decide)
  obtain ⟨a, rfl⟩ := Int.eq_ofNat_of_zero_le v0
  obtain ⟨x, hx, o2, e2, ho2⟩ := some_list n ho1 (l := [.int 1, .int 2, .int 5, .int 11]) (by simp) (by simp)
  obtain ⟨b, rfl, b1⟩ : ∃ b : Nat, x = .int b ∧ 1 ≤ b := by
    simp only [List.mem_cons, List.not_mem_nil, or_false] at hx
    rcases hx with rfl | rfl | rfl | rfl
    · exact ⟨1, rfl, by decide⟩
    · exact ⟨2, rfl, by decide⟩
    · exact ⟨5, rfl, by decide⟩
    · exact ⟨11, rfl, by decide⟩
  have cd := cut_from abc a
  have ct := cut_to (abc.drop a) b
  have al : (abc.drop a).length = 26 - a := by rw [List.length_drop]; rfl
  have hl : Lt ((abc.drop a).take b) := ⟨by rw [List.length_take]; omega, by rw [List.length_take]; omega, fun c hc => List.mem_of_mem_drop (List.mem_of_mem_take hc)⟩
  obtain ⟨l, hll⟩ : ∃ l, (abc.drop a).take b = l := ⟨_, rfl⟩
  rw [hll] at hl ct
  obtain ⟨A, hA⟩ : ∃ A, abc.drop a = A := ⟨_, rfl⟩
  rw [hA] at cd ct al
  have Al : A.length ≤ line := by omega
  obtain ⟨ys, o3, c1, ho3, c2, c3⟩ := comp_io (F := P (n + 2)) (own := [4]) (tg := .slot 4) (it := .itR (.cons (.slot 1) .nil)) (el := .me .join (.lit (S [])) (.cons e_30_0 .nil))
    (fun o => [.own true o, .val (.int m), .val (.int p), .val (S l), .no, .no]) cupOk (fun y => ∃ r, y = S r ∧ (r.length = p ∧ ∀ c ∈ r, c ∈ abc)) ((List.range m).map fun j : Nat => PyData.int j) (e0 := [.own true o2, .val (.int m), .val (.int p), .val (S l), .no, .no]) o2 ho2
    (denI_r1 (n := m) (by simp) (by omega)) (by simp) (fun o' => ⟨rfl, fun v hv => by simp at hv; subst hv; rfl⟩)
    (fun y hy o ho => by
      obtain ⟨r, o', er, ho', rl, ra⟩ := e30_0 n hl (.int m) p2 (.val y) ho
      have hoo := opd_nm (x := e_30_0) rfl er
      have jd := joinD_ones (w := r) (by omega)
      exact ⟨[.own true o, .val (.int m), .val (.int p), .val (S l), .val y, .no], S r, [.own true o', .val (.int m), .val (.int p), .val (S l), .val y, .no], o', by simp, by simp -implicitDefEqProofs [hoo, jd], by simp, ho', r, rfl, rl, ra⟩)
    (by simp; omega)
  obtain ⟨ls, rfl, w2, w3⟩ := strs_of ys c3
  have lm : ls.length = m := by rw [w2, c2]; simp
  refine ⟨ls, o3, ?_, ho3, ⟨by omega, by omega, p1, p2, fun r hr => (w3 r hr).1, fun r hr => (w3 r hr).2⟩, lm⟩
  have c1 : denE (P (n + 2)) e_30_1 _ = _ := c1
  have hoo := opd_nm (x := e_30_1) rfl c1
  obtain ⟨X, hX⟩ : ∃ X, ls.map S = X := ⟨_, rfl⟩
  have eX : tS ls = .tuple X := by rw [← hX]
  rw [hX] at hoo
  rw [eX]
  have cd : cut [97, 98, 99, 100, 101, 102, 103, 104, 105, 106, 107, 108, 109, 110, 111, 112, 113, 114, 115, 116, 117, 118, 119, 120, 121, 122] (some (a : Int)) none = A := cd
  have e1 : (P (n + 2)).callM 27 o [.int 15] = .ret (.val (.int a)) o1 := e1
  have L26 : (26 ≤ line) = True := by simp [line]
  rw [callM_eq (n + 2) (f := f_30) rfl]
  simp -implicitDefEqProofs [runM, f_30, ioOf, dE_callM, e1, e2, cd, ct, Al, L26, hoo]
theorem c31 (n : Nat) {o : Ow} (ho : cupOk o) {p : Nat} {ls : List (List Nat)} (h : St p ls) : ∃ ts o', (P (n + 2)).callM 31 o [tS ls] = .ret (.val (tN ts)) o' ∧ cupOk o' ∧ Se ls.length p ts := by
  have L : line = 16777216 := rfl
  have p1 := h.p1
  have p2 := h.p2
  have l2 := h.l2
  obtain ⟨ys, o3, c1, ho3, c2, c3⟩ := comp_io (F := P (n + 1)) (own := [2]) (tg := .slot 2) (it := .cons (.slot 1) .nil) (el := .callM 27 0 (.cons (.bi .len (.cons (.slot 2) .nil)) .nil))
    (fun o => [.own true o, .val (tS ls), .no]) cupOk (fun y => ∃ t : Nat, y = .int t ∧ t < p) (ls.map S) (e0 := [.own true o, .val (tS ls), .no]) o ho
    (by simp) (by simp) (fun o' => ⟨rfl, fun v hv => by simp at hv; subst hv; rfl⟩)
    (fun y hy o ho => by
      obtain ⟨r, hr, rfl⟩ := List.mem_map.mp hy
      have hl := h.len r hr
      obtain ⟨v, o1, e1, ho1, v0, v1⟩ := c27 n ho (many := (p : Int)) (by omega) (by omega)
      obtain ⟨t, rfl⟩ := Int.eq_ofNat_of_zero_le v0
      have ln : biD .len [S r] = some (.val (.int p)) := by rw [bi_len_str, if_pos (by omega), hl]
      exact ⟨[.own true o, .val (tS ls), .val (S r)], .int t, [.own true o1, .val (tS ls), .val (S r)], o1, by simp, by simp -implicitDefEqProofs [dE_callM, ln, e1, -bi_len_str], by simp, ho1, t, rfl, by omega⟩)
    (by rw [List.length_map]; omega)
  obtain ⟨ts, rfl, w2, w3⟩ := nats_of ys c3
  refine ⟨ts, o3, ?_, ho3, by rw [w2, c2, List.length_map], w3⟩
  have c1 : denE (P (n + 1)) e_31_0 _ = _ := c1
  have hoo := opd_nm (x := e_31_0) rfl c1
  rw [callM_eq (n + 1) (f := f_31) rfl]
  obtain ⟨X, hX⟩ : ∃ X, (ts.map fun t : Nat => PyData.int t) = X := ⟨_, rfl⟩
  have eX : tN ts = .tuple X := by rw [← hX]
  rw [hX] at hoo
  rw [eX]
  obtain ⟨W, hW⟩ : ∃ W, tS ls = W := ⟨_, rfl⟩
  rw [hW] at hoo ⊢
  simp -implicitDefEqProofs [runM, f_31, ioOf, hoo]
end K45
end

section
namespace K45
open PySem U
theorem cut_from1 {α : Type} (l : List α) (k : Nat) : cut l (some ((k : Int) + 1)) none = l.drop (k + 1) := cut_from l (k + 1)
def in33 : St' := (.seq (.asg (.slot 5) (.callM 28 0 (.cons (.slot 2) .nil))) (.seq (.asg (.slot 6) (.callM 27 0 (.cons (.bi .len (.cons (.slot 5) .nil)) .nil))) (.seq (.setI 3 (.callM 28 0 (.cons (.lst (.cons (.slot 5) (.cons (.slot 5) (.cons (.bin .add (.bin .add (.sl (.slot 5) .nil (.cons (.slot 6) .nil)) (.callM 28 0 (.cons (.lit (S [97, 113, 122])) .nil))) (.sl (.slot 5) (.cons (.bin .add (.slot 6) (.lit (.int 1))) .nil) .nil)) (.cons (.rev (.slot 5)) (.cons (.sl (.slot 5) (.cons (.slot 6) .nil) .nil) (.cons (.bin .add (.slot 5) (.lit (S [97]))) .nil))))))) .nil)) (.lit (.bool true))) .nop)))
theorem f33_eq : f_33 = ⟨3, 7, true, .seq (.asg (.slot 3) .dict0) (.seq (.loop (.slot 4) (.itR (.cons (.lit (.int 60)) .nil)) in33) (.seq (.ret (.bi .tuple (.cons (.bi .sorted (.cons (.slot 3) .nil)) .nil))) .nop))⟩ := rfl
def I33 (st : D) (rows : List (List Nat)) (k : Nat) (e : Ev) : Prop := ∃ o ls s4 s5 s6, e = [.own true o, .val st, .val (tS rows), .own false (.dic (dW (.bool true) ls)), s4, s5, s6] ∧ cupOk o ∧ isIo (some s4) = false ∧ isIo (some s5) = false ∧ isIo (some s6) = false ∧ ls.length ≤ k ∧ ls.Nodup ∧ ∀ w ∈ ls, Wd w
theorem turn33 (n : Nat) {st : D} {rows : List (List Nat)} (r0 : 0 < rows.length) (r1 : rows.length < 1000000) (hr : ∀ w ∈ rows, Wd w ∧ w.length ≤ 6) (d : D) {k : Nat} (hk : k < 1000) (e : Ev) (he : I33 st rows k e) :
    ∃ e1 e2, bindT (.slot 4) d e = some e1 ∧ denS (P (n + 2)) in33 e1 = .ok (.next, e2) ∧ I33 st rows (k + 1) e2 := by
  obtain ⟨o, ls, s4, s5, s6, rfl, ho, i4, i5, i6, hl, nd, hw⟩ := he
  have L : line = 16777216 := rfl
  obtain ⟨x, hx, o1, e1, ho1⟩ := some_tup n ho (l := rows.map S) (by rw [List.length_map]; omega) (by rw [List.length_map]; omega)
  obtain ⟨w, hwr, rfl⟩ := List.mem_map.mp hx
  obtain ⟨ww, wl⟩ := hr w hwr
  have w1 := ww.h1
  obtain ⟨v, o2, e2, ho2, v0, v1⟩ := c27 (n + 1) ho1 (many := (w.length : Int)) (by omega) (by omega)
  obtain ⟨j, rfl⟩ := Int.eq_ofNat_of_zero_le v0
  have hj : j < w.length := by omega
  obtain ⟨c, hc, o3, e3, ho3⟩ := some_str n ho2 (l := [97, 113, 122]) (by decide) (by decide)
  have ca : c ∈ abc := by
    simp only [List.mem_cons, List.not_mem_nil, or_false] at hc
    rcases hc with rfl | rfl | rfl <;> decide
  have lT : (w.take j).length = j := by rw [List.length_take]; omega
  have lD : (w.drop (j + 1)).length = w.length - (j + 1) := List.length_drop
  have lE : (w.drop j).length = w.length - j := List.length_drop
  have aT : ∀ c ∈ w.take j, c ∈ abc := fun c hc => ww.h3 c (List.mem_of_mem_take hc)
  have aD : ∀ c ∈ w.drop (j + 1), c ∈ abc := fun c hc => ww.h3 c (List.mem_of_mem_drop hc)
  have aE : ∀ c ∈ w.drop j, c ∈ abc := fun c hc => ww.h3 c (List.mem_of_mem_drop hc)
  have t1 := cut_to w j
  have t2 := cut_from1 w j
  have t3 := cut_from w j
  obtain ⟨T, hT⟩ : ∃ T, w.take j = T := ⟨_, rfl⟩
  obtain ⟨Dr, hD⟩ : ∃ T, w.drop (j + 1) = T := ⟨_, rfl⟩
  obtain ⟨Er, hE⟩ : ∃ T, w.drop j = T := ⟨_, rfl⟩
  rw [hT] at lT aT t1
  rw [hD] at lD aD t2
  rw [hE] at lE aE t3
  have six : ∀ y ∈ [S w, S w, S (T ++ c :: Dr), S w.reverse, S Er, S (w ++ [97])], ∃ u, y = S u ∧ Wd u := by
    intro y hy
    simp only [List.mem_cons, List.not_mem_nil, or_false] at hy
    rcases hy with rfl | rfl | rfl | rfl | rfl | rfl
    · exact ⟨w, rfl, ww⟩
    · exact ⟨w, rfl, ww⟩
    · refine ⟨_, rfl, by simp; omega, by simp; omega, fun d hd => ?_⟩
      rcases List.mem_append.mp hd with hd | hd
      · exact aT d hd
      · rcases List.mem_cons.mp hd with rfl | hd
        · exact ca
        · exact aD d hd
    · exact ⟨_, rfl, by simpa using w1, by simp; omega, fun d hd => ww.h3 d (List.mem_reverse.mp hd)⟩
    · exact ⟨_, rfl, by omega, by omega, aE⟩
    · refine ⟨_, rfl, by simp, by simp; omega, fun d hd => ?_⟩
      rcases List.mem_append.mp hd with hd | hd
      · exact ww.h3 d hd
      · rw [List.mem_singleton.mp hd]; decide
  obtain ⟨y, hy, o4, e4, ho4⟩ := some_list n ho3 (l := [S w, S w, S (T ++ c :: Dr), S w.reverse, S Er, S (w ++ [97])]) (by simp) (by simp)
  obtain ⟨u, rfl, hu⟩ := six y hy
  have ln : biD .len [S w] = some (.val (.int w.length)) := by rw [bi_len_str, if_pos (by omega)]
  have a1 : T.length + 1 ≤ line := by omega
  have a2 : T.length + 1 + Dr.length ≤ line := by omega
  have a3 : w.length ≤ line := by omega
  have a4 : w.length + 1 ≤ line := by omega
  refine ⟨[.own true o, .val st, .val (tS rows), .own false (.dic (dW (.bool true) ls)), .val d, s5, s6], [.own true o4, .val st, .val (tS rows), .own false (.dic (dW (.bool true) (if u ∈ ls then ls else ls ++ [u]))), .val d, .val (S w), .val (.int j)], by simp [i4], ?_, o4, _, _, _, _, rfl, ho4, rfl, rfl, rfl, ?_, ?_, ?_⟩
  · have dl : (dW (.bool true) ls).length < line := by rw [List.length_map]; omega
    have dp := dput_words (.bool true) ls u
    obtain ⟨kv, hkv⟩ : ∃ kv, dW (.bool true) ls = kv := ⟨_, rfl⟩
    rw [hkv] at dl dp ⊢
    obtain ⟨R, hR⟩ : ∃ R, tS rows = R := ⟨_, rfl⟩
    have e1 : (P (n + 2)).callM 28 o [R] = .ret (.val (S w)) o1 := by rw [← hR]; exact e1
    have e2 : (P (n + 2)).callM 27 o1 [.int w.length] = .ret (.val (.int j)) o2 := e2
    rw [hR]
    unfold in33
    simp -implicitDefEqProofs [dE_callM, e1, e2, ln, t1, t2, t3, e3, a1, a2, a3, a4, e4, dl, dp, i5, i6, -bi_len_str]
  · split
    · omega
    · rw [List.length_append]; simp; omega
  · split
    · exact nd
    · rename_i h
      refine List.nodup_append.mpr ⟨nd, by simp, fun a ha b hb => ?_⟩
      rw [List.mem_singleton.mp hb]
      rintro rfl; exact h ha
  · intro z hz
    split at hz
    · exact hw z hz
    · rcases List.mem_append.mp hz with hz | hz
      · exact hw z hz
      · rw [List.mem_singleton.mp hz]; exact hu
theorem c33 (n : Nat) {o : Ow} (ho : cupOk o) (st : D) {rows : List (List Nat)} (r0 : 0 < rows.length) (r1 : rows.length < 1000000) (hr : ∀ w ∈ rows, Wd w ∧ w.length ≤ 6) :
    ∃ ls o', (P (n + 3)).callM 33 o [st, tS rows] = .ret (.val (tS ls)) o' ∧ cupOk o' ∧ Wl ls := by
  have L : line = 16777216 := rfl
  obtain ⟨e', l1, o2, ls, s4, s5, s6, rfl, ho2, i4, i5, i6, hl, nd, hw⟩ := loopS_cnt (bind := bindT (.slot 4)) (body := denS (P (n + 2)) in33) (I33 st rows) ((List.range 60).map fun j : Nat => PyData.int j) 0 [.own true o, .val st, .val (tS rows), .own false (.dic []), .no, .no, .no] ⟨o, [], _, _, _, rfl, ho, rfl, rfl, rfl, Nat.le_refl _, List.nodup_nil, fun _ h => nomatch h⟩ (fun d hd k e hk he => turn33 n r0 r1 hr d (by simp at hk; omega) e he)
  have hl : ls.length ≤ 60 := by simpa using hl
  have pm := List.mergeSort_perm ls fun a b => decide (a ≤ b)
  refine ⟨ls.mergeSort fun a b => decide (a ≤ b), o2, ?_, ho2, by rw [List.length_mergeSort]; omega, fun w hw' => hw w (pm.mem_iff.mp hw'), strict nd⟩
  rw [callM_eq (n + 2) (f := f_33) rfl, f33_eq]
  have sd := sorted_dW (v := .bool true) (ls := ls) (by omega)
  have dr : ∀ env, denI (P (n + 2)) (.itR (.cons (.lit (.int 60)) .nil)) env = .ok ((List.range 60).map fun j : Nat => PyData.int j, env) := fun env => denI_r1 (n := 60) (by simp) (by decide)
  obtain ⟨kv, hkv⟩ : ∃ kv, dW (.bool true) ls = kv := ⟨_, rfl⟩
  obtain ⟨us, hus⟩ : ∃ us, (ls.mergeSort fun a b => decide (a ≤ b)) = us := ⟨_, rfl⟩
  rw [hkv] at sd l1
  rw [hus] at sd ⊢
  obtain ⟨R, hR⟩ : ∃ R, tS rows = R := ⟨_, rfl⟩
  rw [hR] at l1 ⊢
  refine runM_ret (e := [.own true o2, .val st, .val R, .own false (.dic kv), s4, s5, s6]) rfl rfl ?_ rfl
  obtain ⟨b, hb⟩ : ∃ b, in33 = b := ⟨_, rfl⟩
  rw [hb] at l1 ⊢
  obtain ⟨xs, hx⟩ : ∃ xs, ((List.range 60).map fun j : Nat => PyData.int j) = xs := ⟨_, rfl⟩
  rw [hx] at l1
  simp only [hx] at dr
  simp -implicitDefEqProofs [dr, l1, sd, -q_denI_1, -q_bindT_1]
/-! ### what the turns give -/
theorem mod_cancel {p t t0 u : Nat} (h0 : t0 < p) (hp : 0 < p) : ((u + t0) % p + (t + p - t0) % p) % p = (u + t) % p := by
  rw [← Nat.add_mod]
  have e : u + t0 + (t + p - t0) = u + t + p := by omega
  rw [e, Nat.add_mod_right]
theorem rot_rows {f : Nat → List Nat} {p t : Nat} (ht : t < p) : rot ((List.range p).map f) t = (List.range p).map fun j => f ((j + t) % p) := by
  have hl : ((List.range p).map f).length = p := by simp
  refine List.ext_getElem? fun j => ?_
  by_cases hj : j < p
  · rw [rot_get _ (by omega) (by omega), hl, List.getElem?_map, List.getElem?_map, List.getElem?_range (Nat.mod_lt _ (by omega)), List.getElem?_range hj]; rfl
  · rw [List.getElem?_eq_none (by rw [rot_len _ (by omega), hl]; omega), List.getElem?_eq_none (by simp; omega)]
theorem lineOf_map {ls : List (List Nat)} {ts : List Nat} {p : Nat} (g : Nat → Nat) (sp sp' : Nat) (h : ∀ t ∈ ts, (sp' + g t) % p = (sp + t) % p) : lineOf ls (ts.map g) p sp' = lineOf ls ts p sp := by
  unfold lineOf
  rw [List.zip_map_right, List.map_map]
  refine List.map_congr_left fun q hq => ?_
  show q.1.getD ((sp' + g q.2) % p) 0 = _
  rw [h q.2 (zip_mem hq).2]
theorem Se.plain {m p : Nat} {ts : List Nat} (hs : Se m p ts) (hp : 0 < p) : Se m p (plainS p ts) := ⟨by unfold plainS; rw [List.length_map, hs.len], fun t ht => by
  obtain ⟨s, _, rfl⟩ := List.mem_map.mp ht
  exact Nat.mod_lt _ hp⟩
/-- the plain setting's lines, turned -/
theorem plain_rows {ls : List (List Nat)} {ts : List Nat} {p : Nat} (hp : 0 < p) (h0 : ts.headD 0 < p) : rot (rowsOf ls (plainS p ts) p) (ts.headD 0) = rowsOf ls ts p := by
  unfold rowsOf
  rw [rot_rows h0]
  refine List.map_congr_left fun j _ => ?_
  exact lineOf_map _ j _ fun t _ => mod_cancel h0 hp
def alongS (p u : Nat) (ts : List Nat) : List Nat := ts.map fun t => (t + u) % p
theorem Se.along {m p : Nat} {ts : List Nat} (hs : Se m p ts) (hp : 0 < p) (u : Nat) : Se m p (alongS p u ts) := ⟨by unfold alongS; rw [List.length_map, hs.len], fun t ht => by
  obtain ⟨s, _, rfl⟩ := List.mem_map.mp ht
  exact Nat.mod_lt _ hp⟩
theorem along_rows {ls : List (List Nat)} {ts : List Nat} {p u : Nat} (hu : u < p) : rot (rowsOf ls ts p) u = rowsOf ls (alongS p u ts) p := by
  unfold rowsOf
  rw [rot_rows hu]
  refine List.map_congr_left fun j _ => ?_
  refine (lineOf_map _ _ _ fun t _ => ?_).symm
  rw [Nat.add_mod_mod, Nat.mod_add_mod]
  congr 1; omega
theorem along_plain {ts : List Nat} {p u : Nat} (hp : 0 < p) (h0 : ts.headD 0 < p) (ht : ∀ t ∈ ts, t < p) (hn : ts ≠ []) : plainS p (alongS p u ts) = plainS p ts := by
  have hd : (alongS p u ts).headD 0 = (ts.headD 0 + u) % p := by
    cases ts with
    | nil => exact absurd rfl hn
    | cons t0 r => rfl
  unfold plainS
  rw [hd]
  unfold alongS
  rw [List.map_map]
  refine List.map_congr_left fun t htm => ?_
  have h1 := ht t htm
  obtain ⟨t0, hh⟩ : ∃ t0, ts.headD 0 = t0 := ⟨_, rfl⟩
  rw [hh] at h0 ⊢
  show ((t + u) % p + p - (t0 + u) % p) % p = (t + p - t0) % p
  have m1 : (t0 + u) % p < p := Nat.mod_lt _ hp
  -- add t0 + u to both
  have q1 : ((t0 + u) % p + ((t + u) % p + p - (t0 + u) % p) % p) % p = (t + u) % p := by
    rw [Nat.add_mod_mod]
    have : (t0 + u) % p + ((t + u) % p + p - (t0 + u) % p) = (t + u) % p + p := by omega
    rw [this, Nat.add_mod_right, Nat.mod_mod]
  have q2 : ((t0 + u) % p + (t + p - t0) % p) % p = (t + u) % p := by
    rw [Nat.add_mod_mod, Nat.mod_add_mod]
    have : t0 + u + (t + p - t0) = t + u + p := by omega
    rw [this, Nat.add_mod_right]
  have q : ((t0 + u) % p + ((t + u) % p + p - (t0 + u) % p) % p) % p = ((t0 + u) % p + (t + p - t0) % p) % p := q1.trans q2.symm
  have a1 : ((t + u) % p + p - (t0 + u) % p) % p < p := Nat.mod_lt _ hp
  have a2 : (t + p - t0) % p < p := Nat.mod_lt _ hp
  obtain ⟨x, hx⟩ : ∃ x, ((t + u) % p + p - (t0 + u) % p) % p = x := ⟨_, rfl⟩
  obtain ⟨y, hy⟩ : ∃ y, (t + p - t0) % p = y := ⟨_, rfl⟩
  obtain ⟨s, hs⟩ : ∃ s, (t0 + u) % p = s := ⟨_, rfl⟩
  rw [hx, hy, hs] at q
  rw [hx] at a1 ⊢
  rw [hy] at a2 ⊢
  rw [hs] at m1
  by_cases c1 : s + x < p
  · by_cases c2 : s + y < p
    · rw [Nat.mod_eq_of_lt c1, Nat.mod_eq_of_lt c2] at q; omega
    · rw [Nat.mod_eq_of_lt c1, Nat.mod_eq_sub_mod (by omega), Nat.mod_eq_of_lt (by omega)] at q; omega
  · by_cases c2 : s + y < p
    · rw [Nat.mod_eq_of_lt c2, Nat.mod_eq_sub_mod (by omega), Nat.mod_eq_of_lt (by omega)] at q; omega
    · rw [Nat.mod_eq_sub_mod (by omega), Nat.mod_eq_of_lt (by omega), Nat.mod_eq_sub_mod (a := s + y) (by omega), Nat.mod_eq_of_lt (by omega)] at q; omega
theorem zero_rows {p : Nat} {ls : List (List Nat)} (h : St p ls) {ts : List Nat} (hs : Se ls.length p ts) : rowsOf (rots ls ts) (List.replicate ls.length 0) p = rowsOf ls ts p := by
  unfold rowsOf
  refine List.map_congr_left fun j hj => ?_
  have hj : j < p := by simpa using hj
  rw [← col_line h hs hj]
  unfold lineOf colOf
  have rl := rots_len hs.len
  have key : ∀ (rs : List (List Nat)) (m : Nat), m = rs.length → (rs.zip (List.replicate m 0)).map (fun q => q.1.getD ((j + q.2) % p) 0) = rs.map fun r => r.getD j 0 := by
    intro rs
    induction rs with
    | nil => intro m hm; simp
    | cons r rs ih =>
      intro m hm
      subst hm
      rw [List.length_cons, List.replicate_succ, List.zip_cons_cons, List.map_cons, List.map_cons, ih _ rfl, Nat.add_zero, Nat.mod_eq_of_lt hj]
  exact key _ _ rl.symm
theorem Se.zero {m p : Nat} (hp : 0 < p) : Se m p (List.replicate m 0) := ⟨by simp, fun t ht => by rw [(List.mem_replicate.mp ht).2]; exact hp⟩
end K45
end

section
namespace K45
open PySem U
abbrev E34 (o : Ow) (st ts us : D) (s4 s5 s6 s7 s8 s9 s10 s11 s12 s13 s14 s15 s16 s17 : Slot) : Ev := [.own true o, .val st, .val ts, .val us, s4, s5, s6, s7, s8, s9, s10, s11, s12, s13, s14, s15, s16, s17, .no, .no, .no]
section
variable {p : Nat} {ls : List (List Nat)} {ts us : List Nat}
theorem e34_6 (n : Nat) (h : St p ls) (hs : Se ls.length p ts) (o : Ow) (us' : D) (s4 s5 s6 s7 s8 s9 s10 s11 s12 s14 s15 s16 s17 : Slot) :
    denE (P (n + 5)) e_34_6 (E34 o (tS ls) (tN ts) us' s4 s5 s6 s7 s8 s9 s10 s11 s12 (.val (.int p)) s14 s15 s16 s17) = .ok (.fr (.lst ((rowsOf ls ts p).map S)), E34 o (tS ls) (tN ts) us' s4 s5 s6 s7 s8 s9 s10 s11 s12 (.val (.int p)) s14 s15 s16 s17) := by
  have L : line = 16777216 := rfl
  have p2 := h.p2
  unfold rowsOf
  rw [List.map_map]
  refine U.comp_map (fun j : Nat => PyData.int j) _ (List.range p) (denI_r1 (by simp) (by omega)) (by simp) (fun j hj => turn_of (by simp; rfl) ⟨by simp, ?_⟩) (by simp; omega)
  have k := c20 n h hs (by simpa using hj : j < p)
  obtain ⟨W, hW⟩ : ∃ W, tS ls = W := ⟨_, rfl⟩
  obtain ⟨T, hT⟩ : ∃ T, tN ts = T := ⟨_, rfl⟩
  rw [hW, hT] at k ⊢
  simp -implicitDefEqProofs [k, Function.comp]
theorem e34_5 (F : Fns) (rows ws : List (List Nat)) (hl : ws.length ≤ line) (o : Ow) (st ts us' : D) (s4 s5 s6 s7 s8 s9 s10 s12 s13 s15 s16 s17 : Slot) (i5 : isIo (some s5) = false) :
    denE F e_34_5 (E34 o st ts us' s4 s5 s6 s7 s8 s9 s10 (.val (tS rows)) s12 s13 (.val (tS ws)) s15 s16 s17) = .ok (.fr (.lst ((ws.filter (inR rows)).map S)), E34 o st ts us' s4 s5 s6 s7 s8 s9 s10 (.val (tS rows)) s12 s13 (.val (tS ws)) s15 s16 s17) := by
  refine U.comp_filter S (inR rows) S ws (by simp) (by simp [i5]) (fun w hw => turn_of (by simp; rfl) ?_) hl
  have ci : cmpD .isin (S w) (tS rows) = some (inR rows w) := cm_in_ts w rows
  obtain ⟨R, hR⟩ : ∃ R, tS rows = R := ⟨_, rfl⟩
  obtain ⟨b, hb⟩ : ∃ b, inR rows w = b := ⟨_, rfl⟩
  rw [hR] at ci ⊢
  rw [hb] at ci ⊢
  cases b <;> simp -implicitDefEqProofs [ci, tst]
theorem e34_4 (F : Fns) (h : St p ls) (w : List Nat) (o : Ow) (st ts' us' : D) (s4 s6 s7 s8 s9 s10 s12 s14 s15 s16 s17 : Slot) :
    denE F e_34_4 (E34 o st ts' us' s4 (.val (S w)) s6 s7 s8 s9 s10 (.val (tS (rowsOf ls ts p))) s12 (.val (.int p)) s14 s15 s16 s17) = .ok (.fr (.lst ((spk (lineOf ls ts p) p w).map fun j : Nat => PyData.int j)), E34 o st ts' us' s4 (.val (S w)) s6 s7 s8 s9 s10 (.val (tS (rowsOf ls ts p))) s12 (.val (.int p)) s14 s15 s16 s17) := by
  have L : line = 16777216 := rfl
  have p2 := h.p2
  refine U.comp_filter (fun j : Nat => PyData.int j) (fun j => decide (lineOf ls ts p j = w)) (fun j : Nat => PyData.int j) (List.range p) (denI_r1 (by simp) (by omega)) (by simp) (fun j hj => turn_of (by simp; rfl) ?_) (by simp; omega)
  have hj : j < p := by simpa using hj
  have ix : idxD (tS (rowsOf ls ts p)) (.int j) = some (S (lineOf ls ts p j)) := by
    rw [ix_tuple, List.length_map, rows_len, ixAt_nat hj, Option.bind_some, List.getElem?_map]
    unfold rowsOf
    rw [List.getElem?_map, List.getElem?_range hj]; rfl
  obtain ⟨R, hR⟩ : ∃ R, tS (rowsOf ls ts p) = R := ⟨_, rfl⟩
  rw [hR] at ix ⊢
  by_cases hp : lineOf ls ts p j = w
  · simp -implicitDefEqProofs [ix, hp, tst]
  · simp -implicitDefEqProofs [ix, hp, tst]
theorem e34_3 (F : Fns) (h : St p ls) (hs : Se ls.length p ts) (o : Ow) (us' : D) (s4 s5 s6 s7 s8 s10 s11 s12 s13 s14 s15 s16 s17 : Slot) :
    denE F e_34_3 (E34 o (tS ls) (tN ts) us' s4 s5 s6 s7 s8 .no s10 s11 s12 s13 s14 s15 s16 s17) = .ok (.fr (.lst ((rots ls ts).map S)), E34 o (tS ls) (tN ts) us' s4 s5 s6 s7 s8 .no s10 s11 s12 s13 s14 s15 s16 s17) :=
  rots_comp F (.itZ (.slot 1) (.slot 2)) h hs 19 9 [19, 9] rfl _ (fun r t => ⟨[.own true o, .val (tS ls), .val (tN ts), .val us', s4, s5, s6, s7, s8, .val t, s10, s11, s12, s13, s14, s15, s16, s17, .no, .val r, .no], by simp, rfl, rfl⟩)
    (by rw [denI_z (d := tS ls) (d' := tN ts) (e1 := E34 o (tS ls) (tN ts) us' s4 s5 s6 s7 s8 .no s10 s11 s12 s13 s14 s15 s16 s17) (e2 := E34 o (tS ls) (tN ts) us' s4 s5 s6 s7 s8 .no s10 s11 s12 s13 s14 s15 s16 s17) (xs := ls.map S) (ys := ts.map fun t : Nat => PyData.int t) (by simp) (by simp) rfl rfl, zipT_maps]) rfl
theorem e34_2 (F : Fns) (h : St p ls) (hs : Se ls.length p ts) (o : Ow) (st us' : D) (s4 s5 s6 s7 s8 s10 s11 s12 s14 s15 s16 s17 : Slot) :
    denE F e_34_2 (E34 o st (tN ts) us' s4 s5 s6 s7 s8 .no s10 s11 s12 (.val (.int p)) s14 s15 s16 s17) = .ok (.fr (.lst ((plainS p ts).map fun t : Nat => PyData.int t)), E34 o st (tN ts) us' s4 s5 s6 s7 s8 .no s10 s11 s12 (.val (.int p)) s14 s15 s16 s17) := by
  have L : line = 16777216 := rfl
  have p1 := h.p1
  have l2 := h.l2
  have sl := hs.len
  obtain ⟨t0, r, ht, t0p⟩ := Se.cons h hs
  have i1 : idxD (tN ts) (.int 0) = some (.int t0) := by rw [ht]; simp
  have pn : 0 < p := by omega
  have hd : ts.headD 0 = t0 := by rw [ht]; rfl
  unfold plainS
  rw [List.map_map, hd]
  refine U.comp_map (fun t : Nat => PyData.int t) _ ts (by simp) (by simp) (fun t htm => turn_of (by simp; rfl) ⟨by simp, ?_⟩) (by omega)
  have em : ((t : Int) + (p : Int) - (t0 : Int)) % (p : Int) = (((t + p - t0) % p : Nat) : Int) := by
    rw [Int.natCast_emod]
    congr 1; omega
  obtain ⟨T, hT⟩ : ∃ T, tN ts = T := ⟨_, rfl⟩
  rw [hT] at i1 ⊢
  obtain ⟨z, hz⟩ : ∃ z : Int, (((t + p - t0) % p : Nat) : Int) = z := ⟨_, rfl⟩
  rw [hz] at em
  have goal' : ((fun t : Nat => PyData.int t) ∘ fun t => (t + p - t0) % p) t = PyData.int z := by rw [← hz]; rfl
  rw [goal']
  simp -implicitDefEqProofs [i1, pn, em]
theorem e34_1 (F : Fns) (h : St p ls) {a b : List (List Nat)} (ha : a.length = p) (o : Ow) (st ts' us' : D) (s4 s5 s6 s7 s8 s10 s14 s15 s16 s17 : Slot) :
    denE F e_34_1 (E34 o st ts' us' s4 s5 s6 s7 s8 .no s10 (.val (tS a)) (.val (tS b)) (.val (.int p)) s14 s15 s16 s17) = .ok (.fr (.lst ((sameS a b p).map fun j : Nat => PyData.int j)), E34 o st ts' us' s4 s5 s6 s7 s8 .no s10 (.val (tS a)) (.val (tS b)) (.val (.int p)) s14 s15 s16 s17) := by
  have L : line = 16777216 := rfl
  have p2 := h.p2
  refine U.comp_filter (fun j : Nat => PyData.int j) (fun t => decide (rot a t = b)) (fun j : Nat => PyData.int j) (List.range p) (denI_r1 (by simp) (by omega)) (by simp) (fun t ht => turn_of (by simp; rfl) ?_) (by simp; omega)
  have ht : t < p := by simpa using ht
  have cf := cut_from (a.map S) t
  have ct := cut_to (a.map S) t
  have ce := cm_eq_ts (rot a t) b
  have mr := map_rot S a t
  have l1 : ((a.map S).drop t).length + ((a.map S).take t).length ≤ line := by rw [List.length_drop, List.length_take, List.length_map]; omega
  rw [mr] at ce
  obtain ⟨X, hX⟩ : ∃ X, (a.map S).drop t = X := ⟨_, rfl⟩
  obtain ⟨Y, hY⟩ : ∃ Y, (a.map S).take t = Y := ⟨_, rfl⟩
  rw [hX] at cf ce l1
  rw [hY] at ct ce l1
  obtain ⟨A, hA⟩ : ∃ A, a.map S = A := ⟨_, rfl⟩
  obtain ⟨B, hB⟩ : ∃ B, tS b = B := ⟨_, rfl⟩
  have eA : tS a = .tuple A := by rw [← hA]
  rw [hA] at cf ct
  have ce : cmpD .eq (.tuple (X ++ Y)) B = some (decide (rot a t = b)) := by rw [← hB]; exact ce
  rw [eA, hB]
  obtain ⟨q, hq⟩ : ∃ q, decide (rot a t = b) = q := ⟨_, rfl⟩
  rw [hq] at ce ⊢
  cases q <;> simp -implicitDefEqProofs [cf, ct, l1, ce, tst]
theorem e34_0 (F : Fns) (h : St p ls) (hs : Se ls.length p ts) (u : Nat) (o : Ow) (st us' : D) (s4 s5 s6 s7 s8 s10 s11 s12 s14 s15 s16 s17 : Slot) (i5 : isIo (some s5) = false) :
    denE F e_34_0 (E34 o st (tN ts) us' s4 s5 s6 s7 s8 (.val (.int u)) s10 s11 s12 (.val (.int p)) s14 s15 s16 s17) = .ok (.fr (.lst ((alongS p u ts).map fun t : Nat => PyData.int t)), E34 o st (tN ts) us' s4 s5 s6 s7 s8 (.val (.int u)) s10 s11 s12 (.val (.int p)) s14 s15 s16 s17) := by
  have L : line = 16777216 := rfl
  have p1 := h.p1
  have l2 := h.l2
  have sl := hs.len
  have pn : 0 < p := by omega
  unfold alongS
  rw [List.map_map]
  refine U.comp_map (fun t : Nat => PyData.int t) _ ts (by simp) (by simp [i5]) (fun t htm => turn_of (by simp; rfl) ⟨by simp, ?_⟩) (by omega)
  have em : ((t : Int) + (u : Int)) % (p : Int) = (((t + u) % p : Nat) : Int) := by rw [Int.natCast_emod, Int.natCast_add]
  obtain ⟨T, hT⟩ : ∃ T, tN ts = T := ⟨_, rfl⟩
  rw [hT]
  obtain ⟨z, hz⟩ : ∃ z : Int, (((t + u) % p : Nat) : Int) = z := ⟨_, rfl⟩
  rw [hz] at em
  have goal' : ((fun t : Nat => PyData.int t) ∘ fun t => (t + u) % p) t = PyData.int z := by rw [← hz]; rfl
  rw [goal']
  simp -implicitDefEqProofs [pn, em]
end
end K45
end

section
namespace K45
open PySem U
def pA (k : St') : St' := (.seq (.asg (.tup (.cons (.slot 11) (.cons (.slot 12) (.cons (.slot 13) .nil)))) (.tup (.cons (.call 32 (.cons (.slot 1) (.cons (.slot 2) .nil))) (.cons (.call 32 (.cons (.slot 1) (.cons (.slot 3) .nil))) (.cons (.bi .len (.cons (.idx (.slot 1) (.lit (.int 0))) .nil)) .nil))))) (.seq (.par 14 15 (.callM 33 0 (.cons (.slot 1) (.cons (.slot 11) .nil))) (.callM 28 0 (.cons (.slot 11) .nil))) (.seq (.asg (.slot 4) (.tup (.cons (.call 19 (.cons (.slot 1) (.cons (.slot 2) .nil))) (.cons (.bi .tuple (.cons e_34_6 .nil)) .nil)))) (.seq (.ifs (.not (.call 29 (.cons (.bin .add (.slot 4) (.tup (.cons (.call 22 (.cons (.slot 1) (.cons (.slot 2) (.cons (.slot 14) .nil)))) .nil))) (.cons (.tup (.cons (.slot 11) (.cons (.slot 11) (.cons (.bi .tuple (.cons e_34_5 .nil)) .nil)))) .nil)))) (.seq (.ret (.lit (.bool false))) .nop) .nop) k))))
def itL : Tx := (.cons (.bin .add (.slot 14) (.tup (.cons (.slot 15) .nil))) .nil)
def bL : St' := (.seq (.ifs (.not (.call 29 (.cons (.call 21 (.cons (.slot 1) (.cons (.slot 2) (.cons (.slot 5) .nil)))) (.cons (.bi .tuple (.cons e_34_4 .nil)) .nil)))) (.seq (.ret (.lit (.bool false))) .nop) .nop) .nop)
def pB (k : St') : St' := (.seq (.par 16 17 (.call 23 (.cons (.slot 1) (.cons (.slot 2) .nil))) (.call 25 (.cons (.slot 1) (.cons (.slot 2) .nil)))) (.seq (.asg (.slot 6) (.bi .tuple (.cons e_34_3 .nil))) (.seq (.asg (.slot 7) (.tup (.cons (.call 19 (.cons (.slot 16) (.cons (.bin .mul (.tup (.cons (.lit (.int 0)) .nil)) (.bi .len (.cons (.slot 1) .nil))) .nil))) (.cons (.call 19 (.cons (.call 23 (.cons (.slot 16) (.cons (.slot 3) .nil))) (.cons (.bin .mul (.tup (.cons (.lit (.int 0)) .nil)) (.bi .len (.cons (.slot 1) .nil))) .nil))) .nil)))) (.seq (.ifs (.not (.call 29 (.cons (.tup (.cons (.slot 16) (.cons (.slot 7) .nil))) (.cons (.tup (.cons (.slot 6) (.cons (.tup (.cons (.slot 11) (.cons (.call 32 (.cons (.slot 6) (.cons (.slot 3) .nil))) .nil))) .nil))) .nil)))) (.seq (.ret (.lit (.bool false))) .nop) .nop) k))))
def pC : St' := (.seq (.ifs (.or (.cmp .ne (.idx (.slot 17) (.lit (.int 0))) (.lit (.int 0))) (.not (.call 29 (.cons (.slot 17) (.cons (.bi .tuple (.cons e_34_2 .nil)) .nil))))) (.seq (.ret (.lit (.bool false))) .nop) .nop) (.seq (.asg (.slot 8) (.bi .tuple (.cons e_34_1 .nil))) (.seq (.ifs (.not (.call 29 (.cons (.tup (.cons (.call 24 (.cons (.slot 1) (.cons (.slot 2) (.cons (.slot 3) .nil)))) (.cons (.cmp .isin (.idx (.slot 2) (.lit (.int 0))) (.call 24 (.cons (.slot 1) (.cons (.slot 17) (.cons (.slot 2) .nil))))) .nil))) (.cons (.tup (.cons (.slot 8) (.cons (.lit (.bool true)) .nil))) .nil)))) (.seq (.ret (.lit (.bool false))) .nop) .nop) (.seq (.asg (.slot 9) (.callM 27 0 (.cons (.slot 13) .nil))) (.seq (.asg (.slot 10) (.bi .tuple (.cons e_34_0 .nil))) (.seq (.ret (.and (.cmp .isin (.slot 9) (.call 24 (.cons (.slot 1) (.cons (.slot 2) (.cons (.slot 10) .nil))))) (.cmp .eq (.call 25 (.cons (.slot 1) (.cons (.slot 10) .nil))) (.slot 17)))) .nop))))))
theorem f34_eq : f_34 = ⟨4, 21, true, pA (.seq (.loop (.slot 5) itL bL) (pB pC))⟩ := rfl
theorem Sc_str (l : List Nat) : Sc (S l) := .inr (.inr (.inr ⟨l, rfl⟩))
theorem Sc_int (i : Int) : Sc (.int i) := .inr (.inr (.inl ⟨i, rfl⟩))
theorem Sc_bool (i : Bool) : Sc (.bool i) := .inr (.inl ⟨i, rfl⟩)
theorem Sm_strs {ls : List (List Nat)} (h : ls.length ≤ line) : Sm 1 (tS ls) := .inr ⟨_, rfl, by simpa using h, fun x hx => by
  obtain ⟨z, _, rfl⟩ := List.mem_map.mp hx
  exact Sc_str z⟩
theorem Sm_nats {ts : List Nat} (h : ts.length ≤ line) : Sm 1 (tN ts) := .inr ⟨_, rfl, by simpa using h, fun x hx => by
  obtain ⟨z, _, rfl⟩ := List.mem_map.mp hx
  exact Sc_int z⟩
theorem Sm_up : ∀ (k : Nat) {d : D}, Sm k d → Sm (k + 1) d
  | 0, d, h => .inl h
  | k + 1, d, h => by
    rcases h with h | ⟨ds, rfl, hl, h⟩
    · exact .inl h
    · exact .inr ⟨ds, rfl, hl, fun x hx => Sm_up k (h x hx)⟩
theorem Sm_tup {k : Nat} {ds : List D} (hl : ds.length ≤ line) (h : ∀ x ∈ ds, Sm k x) : Sm (k + 1) (.tuple ds) := .inr ⟨ds, rfl, hl, h⟩
section
variable {p : Nat} {ls : List (List Nat)} {ts us : List Nat}
theorem stA (n : Nat) (h : St p ls) (hs : Se ls.length p ts) (hu : Se ls.length p us) {o : Ow} (ho : cupOk o) (k : St') :
    ∃ ws w o2, cupOk o2 ∧ Wl ws ∧ Wd w ∧ denS (P (n + 5)) (pA k) (E34 o (tS ls) (tN ts) (tN us) .no .no .no .no .no .no .no .no .no .no .no .no .no .no) = denS (P (n + 5)) k (E34 o2 (tS ls) (tN ts) (tN us) (.val (.tuple [tS (rowsOf ls ts p), tS (rowsOf ls ts p)])) .no .no .no .no .no .no (.val (tS (rowsOf ls ts p))) (.val (tS (rowsOf ls us p))) (.val (.int p)) (.val (tS ws)) (.val (S w)) .no .no) := by
  have L : line = 16777216 := rfl
  have p1 := h.p1
  have p2 := h.p2
  have l2 := h.l2
  have k32a := c32 (n + 4) h hs
  have k32b := c32 (n + 4) h hu
  obtain ⟨r0, ix, hr, _⟩ := ix0 h
  have ln : biD .len [S r0] = some (.val (.int p)) := by rw [bi_len_str, if_pos (by omega), hr]
  have rl := rows_len ls ts p
  have rw6 : ∀ w ∈ rowsOf ls ts p, Wd w ∧ w.length ≤ 6 := fun w hw => by
    obtain ⟨j, _, rfl⟩ := List.mem_map.mp hw
    exact ⟨line_wd h hs.len, by rw [line_len hs.len]; exact l2⟩
  obtain ⟨ws, o1, e33, ho1, hws⟩ := c33 (n + 2) ho (tS ls) (rows := rowsOf ls ts p) (by omega) (by omega) rw6
  obtain ⟨x, hx, o2, e28, ho2⟩ := some_tup (n + 3) ho1 (l := (rowsOf ls ts p).map S) (by rw [List.length_map]; omega) (by rw [List.length_map]; omega)
  obtain ⟨w, hw, rfl⟩ := List.mem_map.mp hx
  have k19 := c19 n h hs
  have k22 := c22 n h hs hws
  have o6 := fun s4 s14 s15 => opd_nm (x := e_34_6) rfl (e34_6 n h hs o2 (tN us) s4 .no .no .no .no .no .no (.val (tS (rowsOf ls ts p))) (.val (tS (rowsOf ls us p))) s14 s15 .no .no)
  have o5 := fun s4 s15 => opd_nm (x := e_34_5) rfl (e34_5 (P (n + 5)) (rowsOf ls ts p) ws hws.ll o2 (tS ls) (tN ts) (tN us) s4 .no .no .no .no .no .no (.val (tS (rowsOf ls us p))) (.val (.int p)) s15 .no .no rfl)
  have wl := hws.len
  have s1 : (P (n + 5)).call 29 [.tuple [tS (rowsOf ls ts p), tS (rowsOf ls ts p), tS (ws.filter (inR (rowsOf ls ts p)))], .tuple [tS (rowsOf ls ts p), tS (rowsOf ls ts p), tS (ws.filter (inR (rowsOf ls ts p)))]] = .ret (.val (.bool true)) := same29 (n + 2) 2 (Sm_tup (by simp) fun x hx => by
    simp only [List.mem_cons, List.not_mem_nil, or_false] at hx
    rcases hx with rfl | rfl | rfl
    · exact Sm_strs (by omega)
    · exact Sm_strs (by omega)
    · exact Sm_strs (Nat.le_trans (List.length_filter_le _ _) hws.ll))
  refine ⟨ws, w, o2, ho2, hws, (rw6 w hw).1, ?_⟩
  have e33 : (P (n + 5)).callM 33 o [tS ls, tS (rowsOf ls ts p)] = .ret (.val (tS ws)) o1 := e33
  have e28 : (P (n + 5)).callM 28 o1 [tS (rowsOf ls ts p)] = .ret (.val (S w)) o2 := e28
  obtain ⟨R1, hR1⟩ : ∃ R, (rowsOf ls ts p).map S = R := ⟨_, rfl⟩
  have q1 : tS (rowsOf ls ts p) = .tuple R1 := by rw [← hR1]
  obtain ⟨R2, hR2⟩ : ∃ R, tS (rowsOf ls us p) = R := ⟨_, rfl⟩
  obtain ⟨F1, hF1⟩ : ∃ R, (ws.filter (inR (rowsOf ls ts p))).map S = R := ⟨_, rfl⟩
  have q2 : tS (ws.filter (inR (rowsOf ls ts p))) = .tuple F1 := by rw [← hF1]
  rw [hR1] at o6
  rw [hF1] at o5
  rw [q2] at k22 s1
  simp only [q1] at k32a e33 e28 k19 o6 o5 s1 ⊢
  rw [hR2] at k32b
  simp only [hR2] at o6 o5 ⊢
  obtain ⟨W, hW⟩ : ∃ W, tS ls = W := ⟨_, rfl⟩
  obtain ⟨T, hT⟩ : ∃ T, tN ts = T := ⟨_, rfl⟩
  obtain ⟨U', hU⟩ : ∃ T, tN us = T := ⟨_, rfl⟩
  obtain ⟨Y, hY⟩ : ∃ T, tS ws = T := ⟨_, rfl⟩
  simp only [hW] at k32a k32b ix e33 k19 k22 o6 o5 ⊢
  simp only [hT] at k32a k19 k22 o6 o5 ⊢
  simp only [hU] at k32b o6 o5 ⊢
  simp only [hY] at e33 k22 o5 ⊢
  unfold pA
  simp -implicitDefEqProofs [dE_callM, k32a, k32b, ix, ln, e33, e28, k19, o6, k22, o5, s1, tst, -bi_len_str]
end
end K45
end

section
namespace K45
open PySem U
section
variable {p : Nat} {ls : List (List Nat)} {ts us : List Nat}
def I34 (o : Ow) (st ts us : D) (s4 s11 s12 s13 s14 s15 : Slot) (e : Ev) : Prop := ∃ s5, e = E34 o st ts us s4 s5 .no .no .no .no .no s11 s12 s13 s14 s15 .no .no ∧ isIo (some s5) = false
theorem turnL (n : Nat) (h : St p ls) (hs : Se ls.length p ts) {w : List Nat} (hw : Wd w) (o : Ow) (us' : D) (s4 s12 s14 s15 : Slot) (e : Ev) (he : I34 o (tS ls) (tN ts) us' s4 (.val (tS (rowsOf ls ts p))) s12 (.val (.int p)) s14 s15 e) :
    ∃ e1 e2, bindT (.slot 5) (S w) e = some e1 ∧ denS (P (n + 5)) bL e1 = .ok (.next, e2) ∧ I34 o (tS ls) (tN ts) us' s4 (.val (tS (rowsOf ls ts p))) s12 (.val (.int p)) s14 s15 e2 := by
  obtain ⟨s5, rfl, i5⟩ := he
  have L : line = 16777216 := rfl
  have p2 := h.p2
  have k21 := c21 n h hs hw
  have o4 := opd_nm (x := e_34_4) rfl (e34_4 (ts := ts) (P (n + 5)) h w o (tS ls) (tN ts) us' s4 .no .no .no .no .no s12 s14 s15 .no .no)
  have sl : (spk (lineOf ls ts p) p w).length ≤ line := Nat.le_trans (List.length_filter_le _ _) (by simp; omega)
  have s1 : (P (n + 5)).call 29 [tN (spk (lineOf ls ts p) p w), tN (spk (lineOf ls ts p) p w)] = .ret (.val (.bool true)) := same29 (n + 3) 1 (Sm_nats sl)
  refine ⟨E34 o (tS ls) (tN ts) us' s4 (.val (S w)) .no .no .no .no .no (.val (tS (rowsOf ls ts p))) s12 (.val (.int p)) s14 s15 .no .no, E34 o (tS ls) (tN ts) us' s4 (.val (S w)) .no .no .no .no .no (.val (tS (rowsOf ls ts p))) s12 (.val (.int p)) s14 s15 .no .no, by simp [i5], ?_, .val (S w), rfl, rfl⟩
  obtain ⟨X, hX⟩ : ∃ X, ((spk (lineOf ls ts p) p w).map fun j : Nat => PyData.int j) = X := ⟨_, rfl⟩
  have q1 : tN (spk (lineOf ls ts p) p w) = .tuple X := by rw [← hX]
  rw [hX] at o4
  rw [q1] at k21 s1
  obtain ⟨R, hR⟩ : ∃ R, tS (rowsOf ls ts p) = R := ⟨_, rfl⟩
  obtain ⟨W, hW⟩ : ∃ W, tS ls = W := ⟨_, rfl⟩
  obtain ⟨T, hT⟩ : ∃ T, tN ts = T := ⟨_, rfl⟩
  simp only [hR] at o4 ⊢
  simp only [hW] at k21 o4 ⊢
  simp only [hT] at k21 o4 ⊢
  unfold bL
  simp -implicitDefEqProofs [k21, o4, s1, tst]
theorem stL (n : Nat) (h : St p ls) (hs : Se ls.length p ts) {ws : List (List Nat)} (hws : Wl ws) {w : List Nat} (hw : Wd w) (o : Ow) (us' : D) (s4 s12 : Slot) (k : St') :
    ∃ s5, isIo (some s5) = false ∧ denS (P (n + 5)) (.seq (.loop (.slot 5) itL bL) k) (E34 o (tS ls) (tN ts) us' s4 .no .no .no .no .no .no (.val (tS (rowsOf ls ts p))) s12 (.val (.int p)) (.val (tS ws)) (.val (S w)) .no .no) = denS (P (n + 5)) k (E34 o (tS ls) (tN ts) us' s4 s5 .no .no .no .no .no (.val (tS (rowsOf ls ts p))) s12 (.val (.int p)) (.val (tS ws)) (.val (S w)) .no .no) := by
  have L : line = 16777216 := rfl
  have wl := hws.len
  obtain ⟨e', l1, s5, rfl, i5⟩ := loopS_inv (bind := bindT (.slot 5)) (body := denS (P (n + 5)) bL) (I34 o (tS ls) (tN ts) us' s4 (.val (tS (rowsOf ls ts p))) s12 (.val (.int p)) (.val (tS ws)) (.val (S w))) ((ws ++ [w]).map S) (E34 o (tS ls) (tN ts) us' s4 .no .no .no .no .no .no (.val (tS (rowsOf ls ts p))) s12 (.val (.int p)) (.val (tS ws)) (.val (S w)) .no .no) ⟨_, rfl, rfl⟩ (fun d hd e he => by
    obtain ⟨v, hv, rfl⟩ := List.mem_map.mp hd
    have vw : Wd v := by
      rcases List.mem_append.mp hv with hv | hv
      · exact hws.wd v hv
      · rw [List.mem_singleton.mp hv]; exact hw
    exact turnL n h hs vw o us' s4 s12 _ _ e he)
  refine ⟨s5, i5, ?_⟩
  have di : denI (P (n + 5)) itL (E34 o (tS ls) (tN ts) us' s4 .no .no .no .no .no .no (.val (tS (rowsOf ls ts p))) s12 (.val (.int p)) (.val (tS ws)) (.val (S w)) .no .no) = .ok ((ws ++ [w]).map S, E34 o (tS ls) (tN ts) us' s4 .no .no .no .no .no .no (.val (tS (rowsOf ls ts p))) s12 (.val (.int p)) (.val (tS ws)) (.val (S w)) .no .no) := by
    have a1 : ws.length + 1 ≤ line := by omega
    unfold itL
    simp -implicitDefEqProofs [a1]
  rw [denS, denS, di, bind_ok', l1, bind_ok']
theorem zmul {m : Nat} (m1 : 1 ≤ m) (m2 : m ≤ 6) : ∃ rs, binD .mul (.tuple [.int 0]) (.int (m : Int)) = some rs ∧ rs.toR = .val (tN (List.replicate m 0)) := by
  have : m = 1 ∨ m = 2 ∨ m = 3 ∨ m = 4 ∨ m = 5 ∨ m = 6 := by omega
  rcases this with rfl | rfl | rfl | rfl | rfl | rfl <;> exact ⟨_, rfl, rfl⟩
theorem stB' (n : Nat) (h : St p ls) (hs : Se ls.length p ts) (hu : Se ls.length p us) (o : Ow) (s4 s5 s12 s14 s15 : Slot) (k : St') :
    denS (P (n + 5)) (pB k) (E34 o (tS ls) (tN ts) (tN us) s4 s5 .no .no .no .no .no (.val (tS (rowsOf ls ts p))) s12 (.val (.int p)) s14 s15 .no .no) =
      denS (P (n + 5)) k (E34 o (tS ls) (tN ts) (tN us) s4 s5 (.val (tS (rots ls ts))) (.val (.tuple [tS (rowsOf ls ts p), tS (rowsOf (rots ls ts) us p)])) .no .no .no (.val (tS (rowsOf ls ts p))) s12 (.val (.int p)) s14 s15 (.val (tS (rots ls ts))) (.val (tN (plainS p ts)))) := by
  have L : line = 16777216 := rfl
  have p1 := h.p1
  have p2 := h.p2
  have l1 := h.l1
  have l2 := h.l2
  have k23 := c23 n h hs
  have k25 := c25 n h hs
  have hR := rots_mem h hs
  have rl := rots_len hs.len
  have hu' : Se (rots ls ts).length p us := by rw [rl]; exact hu
  have hz : Se (rots ls ts).length p (List.replicate ls.length 0) := by rw [rl]; exact Se.zero (by omega)
  have k19a := c19 n hR hz
  rw [zero_rows h hs] at k19a
  have k23b := c23 n hR hu'
  have hR2 := rots_mem hR hu'
  have hz2 : Se (rots (rots ls ts) us).length p (List.replicate (rots ls ts).length 0) := by rw [rots_len hu'.len]; exact Se.zero (by omega)
  have k19b := c19 n hR2 hz2
  rw [zero_rows hR hu', rl] at k19b
  have k32 := c32 (n + 4) hR hu'
  have o3 := fun s6 => opd_nm (x := e_34_3) rfl (e34_3 (P (n + 5)) h hs o (tN us) s4 s5 s6 .no .no .no (.val (tS (rowsOf ls ts p))) s12 (.val (.int p)) s14 s15 (.val (tS (rots ls ts))) (.val (tN (plainS p ts))))
  obtain ⟨rs, z1, z2⟩ := zmul l1 l2
  have s1 : (P (n + 5)).call 29 [.tuple [tS (rots ls ts), .tuple [tS (rowsOf ls ts p), tS (rowsOf (rots ls ts) us p)]], .tuple [tS (rots ls ts), .tuple [tS (rowsOf ls ts p), tS (rowsOf (rots ls ts) us p)]]] = .ret (.val (.bool true)) := same29 (n + 1) 3 (Sm_tup (by simp) fun x hx => by
    simp only [List.mem_cons, List.not_mem_nil, or_false] at hx
    rcases hx with rfl | rfl
    · exact Sm_up 1 (Sm_strs (by omega))
    · refine Sm_tup (by simp) fun x hx => ?_
      simp only [List.mem_cons, List.not_mem_nil, or_false] at hx
      rcases hx with rfl | rfl
      · exact Sm_strs (by rw [rows_len]; omega)
      · exact Sm_strs (by rw [rows_len]; omega))
  have ln : biD .len [tS ls] = some (.val (.int ls.length)) := by simp
  obtain ⟨X, hX⟩ : ∃ X, (rots ls ts).map S = X := ⟨_, rfl⟩
  have q1 : tS (rots ls ts) = .tuple X := by rw [← hX]
  obtain ⟨R1, hR1⟩ : ∃ R, tS (rowsOf ls ts p) = R := ⟨_, rfl⟩
  obtain ⟨R3, hR3⟩ : ∃ R, tS (rowsOf (rots ls ts) us p) = R := ⟨_, rfl⟩
  obtain ⟨Q, hQ⟩ : ∃ R, tS (rots (rots ls ts) us) = R := ⟨_, rfl⟩
  obtain ⟨pl, hpl⟩ : ∃ R, tN (plainS p ts) = R := ⟨_, rfl⟩
  obtain ⟨Z, hZ⟩ : ∃ R, tN (List.replicate ls.length 0) = R := ⟨_, rfl⟩
  rw [hX] at o3
  simp only [q1] at k23 k19a k23b k32 o3 s1 ⊢
  simp only [hR1] at k19a o3 s1 ⊢
  simp only [hR3] at k19b k32 s1 ⊢
  simp only [hQ] at k23b k19b
  simp only [hpl] at k25 o3 ⊢
  simp only [hZ] at k19a k19b z2
  obtain ⟨W, hW⟩ : ∃ W, tS ls = W := ⟨_, rfl⟩
  obtain ⟨T, hT⟩ : ∃ T, tN ts = T := ⟨_, rfl⟩
  obtain ⟨U', hU⟩ : ∃ T, tN us = T := ⟨_, rfl⟩
  simp only [hW] at k23 k25 o3 ln ⊢
  simp only [hT] at k23 k25 o3 ⊢
  simp only [hU] at k23b k32 o3 ⊢
  obtain ⟨m, hm⟩ : ∃ m : Int, (ls.length : Int) = m := ⟨_, rfl⟩
  rw [hm] at ln z1
  unfold pB
  simp -implicitDefEqProofs [k23, k25, o3, ln, z1, z2, k19a, k23b, k19b, k32, s1, tst, -bi_len_tuple, -bn_mult]
theorem eqDs_nats : ∀ a : List Nat, eqDs (a.map fun t : Nat => PyData.int t) (a.map fun t : Nat => PyData.int t) = true
  | [] => by simp [eqDs]
  | x :: a => by rw [List.map_cons, eqDs, eqDs_nats a, eqD_ii]; simp
theorem cm_eq_nats (a : List Nat) : cmpD .eq (tN a) (tN a) = some true := by
  have h1 : okD (tN a) = true := (okD_flat fun x hx => by obtain ⟨_, _, rfl⟩ := List.mem_map.mp hx; rfl).1
  have e : eqD (tN a) (tN a) = true := by rw [eqD]; exact eqDs_nats a
  have : cmpD .eq (tN a) (tN a) = if okD (tN a) && okD (tN a) then some (eqD (tN a) (tN a)) else none := by simp [cmpD, isScal]
  rw [this, h1, e]; rfl
theorem stC (n : Nat) (h : St p ls) (hs : Se ls.length p ts) (hu : Se ls.length p us) {o : Ow} (ho : cupOk o) (s4 s5 s6 s7 s14 s15 s16 : Slot) (i5 : isIo (some s5) = false) :
    ∃ o' e', cupOk o' ∧ ioOf e' = some o' ∧ denS (P (n + 5)) pC (E34 o (tS ls) (tN ts) (tN us) s4 s5 s6 s7 .no .no .no (.val (tS (rowsOf ls ts p))) (.val (tS (rowsOf ls us p))) (.val (.int p)) s14 s15 s16 (.val (tN (plainS p ts)))) = .ok (.ret (.val (.bool true)), e') := by
  have L : line = 16777216 := rfl
  have p1 := h.p1
  have p2 := h.p2
  have l1 := h.l1
  have l2 := h.l2
  have sl := hs.len
  have pn : 0 < p := by omega
  obtain ⟨t0, r, ht, t0p⟩ := Se.cons h hs
  have hd : ts.headD 0 = t0 := by rw [ht]; rfl
  have hp := hs.plain pn
  have i1 : idxD (tN ts) (.int 0) = some (.int t0) := by rw [ht]; simp
  have z0 : (t0 + p - t0) % p = 0 := by rw [Nat.add_sub_cancel_left, Nat.mod_self]
  have i2 : idxD (tN (plainS p ts)) (.int 0) = some (.int 0) := by
    unfold plainS
    rw [hd, ht]
    simp [z0]
  obtain ⟨v, o1, e27, ho1, v0, v1⟩ := c27 (n + 4) ho (many := (p : Int)) (by omega) (by omega)
  obtain ⟨u, rfl⟩ := Int.eq_ofNat_of_zero_le v0
  have up : u < p := by omega
  have ha := hs.along pn u
  have k24a := c24 n h hs hu
  have k24b := c24 n h hp hs
  have k24c := c24 n h hs ha
  have k25 := c25 n h ha
  rw [along_plain pn (by rw [hd]; exact t0p) hs.lt (by rw [ht]; simp)] at k25
  have in1 : cmpD .isin (.int t0) (tN (sameS (rowsOf ls (plainS p ts) p) (rowsOf ls ts p) p)) = some true := by
    rw [cm_in_ints (fun j : Nat => (j : Int))]
    congr 1
    rw [List.any_eq_true]
    refine ⟨t0, List.mem_filter.mpr ⟨List.mem_range.mpr t0p, decide_eq_true ?_⟩, by simp⟩
    have := plain_rows (ls := ls) (ts := ts) pn (by rw [hd]; exact t0p)
    rwa [hd] at this
  have in2 : cmpD .isin (.int u) (tN (sameS (rowsOf ls ts p) (rowsOf ls (alongS p u ts) p) p)) = some true := by
    rw [cm_in_ints (fun j : Nat => (j : Int))]
    congr 1
    rw [List.any_eq_true]
    exact ⟨u, List.mem_filter.mpr ⟨List.mem_range.mpr up, decide_eq_true (along_rows up)⟩, by simp⟩
  have ce := cm_eq_nats (plainS p ts)
  have o2 := opd_nm (x := e_34_2) rfl (e34_2 (P (n + 5)) h hs o (tS ls) (tN us) s4 s5 s6 s7 .no .no (.val (tS (rowsOf ls ts p))) (.val (tS (rowsOf ls us p))) s14 s15 s16 (.val (tN (plainS p ts))))
  have o1' := opd_nm (x := e_34_1) rfl (e34_1 (P (n + 5)) h (a := rowsOf ls ts p) (b := rowsOf ls us p) (rows_len _ _ _) o (tS ls) (tN ts) (tN us) s4 s5 s6 s7 .no .no s14 s15 s16 (.val (tN (plainS p ts))))
  have o0 := fun s8 => opd_nm (x := e_34_0) rfl (e34_0 (P (n + 5)) h hs u o1 (tS ls) (tN us) s4 s5 s6 s7 s8 .no (.val (tS (rowsOf ls ts p))) (.val (tS (rowsOf ls us p))) s14 s15 s16 (.val (tN (plainS p ts))) i5)
  have pll : (plainS p ts).length = ts.length := by unfold plainS; simp
  have sp1 : (P (n + 5)).call 29 [tN (plainS p ts), tN (plainS p ts)] = .ret (.val (.bool true)) := same29 (n + 3) 1 (Sm_nats (by omega))
  have ss : (sameS (rowsOf ls ts p) (rowsOf ls us p) p).length ≤ line := Nat.le_trans (List.length_filter_le _ _) (by simp; omega)
  have sp2 : (P (n + 5)).call 29 [.tuple [tN (sameS (rowsOf ls ts p) (rowsOf ls us p) p), .bool true], .tuple [tN (sameS (rowsOf ls ts p) (rowsOf ls us p) p), .bool true]] = .ret (.val (.bool true)) := same29 (n + 2) 2 (Sm_tup (by simp) fun x hx => by
    simp only [List.mem_cons, List.not_mem_nil, or_false] at hx
    rcases hx with rfl | rfl
    · exact Sm_nats ss
    · exact .inl (Sc_bool _))
  obtain ⟨X, hX⟩ : ∃ X, ((plainS p ts).map fun t : Nat => PyData.int t) = X := ⟨_, rfl⟩
  have q1 : tN (plainS p ts) = .tuple X := by rw [← hX]
  obtain ⟨Y, hY⟩ : ∃ X, ((sameS (rowsOf ls ts p) (rowsOf ls us p) p).map fun t : Nat => PyData.int t) = X := ⟨_, rfl⟩
  have q2 : tN (sameS (rowsOf ls ts p) (rowsOf ls us p) p) = .tuple Y := by rw [← hY]
  obtain ⟨A, hA⟩ : ∃ X, ((alongS p u ts).map fun t : Nat => PyData.int t) = X := ⟨_, rfl⟩
  have q3 : tN (alongS p u ts) = .tuple A := by rw [← hA]
  obtain ⟨B, hB⟩ : ∃ B, tN (sameS (rowsOf ls (plainS p ts) p) (rowsOf ls ts p) p) = B := ⟨_, rfl⟩
  obtain ⟨C, hC⟩ : ∃ B, tN (sameS (rowsOf ls ts p) (rowsOf ls (alongS p u ts) p) p) = B := ⟨_, rfl⟩
  rw [hX] at o2
  rw [hY] at o1'
  rw [hA] at o0
  simp only [q1] at k24b k25 ce o2 o1' o0 sp1 i2 ⊢
  simp only [q2] at k24a sp2
  simp only [q3] at k24c k25
  simp only [hB] at k24b in1
  simp only [hC] at k24c in2
  obtain ⟨R1, hR1⟩ : ∃ R, tS (rowsOf ls ts p) = R := ⟨_, rfl⟩
  obtain ⟨R2, hR2⟩ : ∃ R, tS (rowsOf ls us p) = R := ⟨_, rfl⟩
  obtain ⟨W, hW⟩ : ∃ W, tS ls = W := ⟨_, rfl⟩
  obtain ⟨T, hT⟩ : ∃ T, tN ts = T := ⟨_, rfl⟩
  obtain ⟨U', hU⟩ : ∃ T, tN us = T := ⟨_, rfl⟩
  simp only [hR1] at o2 o1' o0 ⊢
  simp only [hR2] at o2 o1' o0 ⊢
  simp only [hW] at k24a k24b k24c k25 o2 o1' o0 ⊢
  simp only [hT] at k24a k24b k24c i1 o2 o1' o0 ⊢
  simp only [hU] at k24a o2 o1' o0 ⊢
  have e27 : (P (n + 5)).callM 27 o [.int p] = .ret (.val (.int u)) o1 := e27
  refine ⟨o1, E34 o1 W T U' s4 s5 s6 s7 (.val (.tuple Y)) (.val (.int u)) (.val (.tuple A)) (.val R1) (.val R2) (.val (.int p)) s14 s15 s16 (.val (.tuple X)), ho1, rfl, ?_⟩
  unfold pC
  simp -implicitDefEqProofs [dE_callM, i2, o2, sp1, o1', k24a, i1, k24b, in1, sp2, e27, o0, k24c, in2, k25, ce, tst]
theorem c34 (n : Nat) (h : St p ls) (hs : Se ls.length p ts) (hu : Se ls.length p us) {o : Ow} (ho : cupOk o) : ∃ o', (P (n + 6)).callM 34 o [tS ls, tN ts, tN us] = .ret (.val (.bool true)) o' ∧ cupOk o' := by
  obtain ⟨ws, w, o2, ho2, hws, hw, ea⟩ := stA n h hs hu ho (.seq (.loop (.slot 5) itL bL) (pB pC))
  obtain ⟨s5, i5, el⟩ := stL n h hs hws hw o2 (tN us) (.val (.tuple [tS (rowsOf ls ts p), tS (rowsOf ls ts p)])) (.val (tS (rowsOf ls us p))) (pB pC)
  have eb := stB' n h hs hu o2 (.val (.tuple [tS (rowsOf ls ts p), tS (rowsOf ls ts p)])) s5 (.val (tS (rowsOf ls us p))) (.val (tS ws)) (.val (S w)) pC
  obtain ⟨o', e', ho', hio, ec⟩ := stC n h hs hu ho2 (.val (.tuple [tS (rowsOf ls ts p), tS (rowsOf ls ts p)])) s5 (.val (tS (rots ls ts))) (.val (.tuple [tS (rowsOf ls ts p), tS (rowsOf (rots ls ts) us p)])) (.val (tS ws)) (.val (S w)) (.val (tS (rots ls ts))) i5
  refine ⟨o', ?_, ho'⟩
  rw [callM_eq (n + 5) (f := f_34) rfl, f34_eq]
  exact runM_ret rfl rfl (ea.trans (el.trans (eb.trans ec))) hio
end
end K45
end

section
namespace K45
open PySem U
theorem cm_isnb (i j : Bool) : cmpD .isnot (.bool i) (.bool j) = some (!decide (i = j)) := rfl
theorem cm_nil_ne : cmpD .ne (.list []) (.list []) = some false := rfl
theorem cm_nil_eq : cmpD .eq (.list []) (.list []) = some true := rfl
/-! ### what is no stack -/
def bad (d : D) : Prop := ∀ n, (P (n + 3)).call 17 [d] = .ret (.val (.bool false))
theorem bad_of {d : D} (h : ∀ n, (P (n + 2)).call 8 [d] = .ret (.val (.bool false))) : bad d := fun n => by rw [c17, h n]
theorem badA {d : D} (h : nd d = true) (hb : tupB 1 6 d = false) : bad d := bad_of fun n => c8A n h hb
theorem badB {xs : List D} (hn : ∀ x ∈ xs, nd x = true) (h1 : 1 ≤ xs.length) (h2 : xs.length ≤ 6) {y : D} (hy : y ∈ xs) (hs : isS y = false) : bad (.tuple xs) := bad_of fun n => c8B n hn h1 h2 hy hs
theorem badC {ls : List (List Nat)} (h1 : 1 ≤ ls.length) (h2 : ls.length ≤ 6) (hr : ∀ r ∈ ls, r.length ≤ line) (hb : stB (ls.headD []).length ls = false) : bad (tS ls) := by
  cases ls with
  | nil => simp at h1
  | cons r0 rs =>
    have hb : stB r0.length (r0 :: rs) = false := hb
    exact bad_of fun n => by rw [c8C n h2 hr, hb]
theorem stB_len {p : Nat} {ls : List (List Nat)} {y : List Nat} (hy : y ∈ ls) (h : okR p y = false) : stB p ls = false := by
  unfold stB; rw [ones_any hy h]; rfl
theorem stB_abc {p : Nat} {ls : List (List Nat)} {y : List Nat} (hy : y ∈ ls) {c : Nat} (hc : c ∈ y) (h : abc.contains c = false) : stB p ls = false := by
  unfold stB
  rw [ones_any (p := fun r => r.all fun c => abc.contains c) hy (ones_any hc h), Bool.and_false]
theorem c18 (n : Nat) {p : Nat} {ls : List (List Nat)} (h : St p ls) {d : D} (hd : nd d = true) (hi : ∀ xs, d = .tuple xs → ∀ x ∈ xs, nd x = true) : (P (n + 4)).call 18 [tS ls, d] = .ret (.val (.bool (setB ls.length p d))) := by
  rw [call_eq (n + 3) (f := f_18) rfl]
  have k9 := c9 n h
  have k10 := c10 n h hd hi
  obtain ⟨W, hW⟩ : ∃ W, tS ls = W := ⟨_, rfl⟩
  rw [hW] at k9 k10 ⊢
  simp -implicitDefEqProofs [runF, f_18, k9, k10]
abbrev E35 (o : Ow) (st ts : D) (s3 s4 s5 s6 s7 : Slot) : Ev := [.own true o, .val st, .val ts, s3, s4, s5, s6, s7, .no]
section
variable {p : Nat} {ls : List (List Nat)} {ts : List Nat}
/-- one item bent -/
theorem bend_den {W : List D} {j : Nat} (hl : W.length ≤ 6) (y : D) : ∃ T R : List D, T = W.take j ∧ R = W.drop (j + 1) ∧ cut W none (some (j : Int)) = T ∧ cut W (some ((j : Int) + 1)) none = R ∧ T.length + 1 ≤ line ∧ T.length + 1 + R.length ≤ line := by
  have L : line = 16777216 := rfl
  refine ⟨_, _, rfl, rfl, cut_to W j, cut_from1 W j, ?_, ?_⟩
  · rw [List.length_take]; omega
  · rw [List.length_take, List.length_drop]; omega
theorem e35_2 (F : Fns) (h : St p ls) {j : Nat} (hj : j < ls.length) (o : Ow) (ts' : D) (s3 s6 s7 : Slot) :
    denE F e_35_2 (E35 o (tS ls) ts' s3 .no (.val (.int j)) s6 s7) = .ok (.fr (.lst ([S ((ls[j]).dropLast ++ [65]), .none, .list ((ls[j]).map fun c => S [c]), S []].map fun y => PyData.tuple ((ls.map S).take j ++ y :: (ls.map S).drop (j + 1)))), E35 o (tS ls) ts' s3 .no (.val (.int j)) s6 s7) := by
  have L : line = 16777216 := rfl
  have p2 := h.p2
  have l2 := h.l2
  have hl := h.len _ (List.getElem_mem hj)
  have ix : idxD (tS ls) (.int j) = some (S ls[j]) := by
    rw [ix_tuple, List.length_map, ixAt_nat hj, Option.bind_some, List.getElem?_map, List.getElem?_eq_getElem hj]; rfl
  obtain ⟨r, hr⟩ : ∃ r, ls[j] = r := ⟨_, rfl⟩
  rw [hr] at ix hl ⊢
  have cm := cut_m1 r
  have rl : r.length ≤ line := by omega
  have dl : r.dropLast.length + 1 ≤ line := by rw [List.length_dropLast]; omega
  obtain ⟨dr, hdr⟩ : ∃ dr, r.dropLast = dr := ⟨_, rfl⟩
  rw [hdr] at cm dl ⊢
  obtain ⟨T, R, hT, hR, ct, cf, a1, a2⟩ := bend_den (W := ls.map S) (j := j) (by rw [List.length_map]; omega) .none
  rw [← hT, ← hR]
  obtain ⟨W, hW⟩ : ∃ W, ls.map S = W := ⟨_, rfl⟩
  have eW : tS ls = .tuple W := by rw [← hW]
  rw [hW] at ct cf
  rw [eW] at ix ⊢
  have L4 : (4 ≤ line) = True := by simp [line]
  refine U.comp_map id _ [S (dr ++ [65]), .none, .list (r.map fun c => S [c]), S []] ?_ (by simp) (fun y hy => turn_of (e2 := [.own true o, .val (.tuple W), .val ts', s3, .val y, .val (.int j), s6, s7, .no]) (by simp) ⟨by simp, ?_⟩) (by simp)
  · simp -implicitDefEqProofs [ix, cm, rl, dl, L4]
  · simp -implicitDefEqProofs [ct, cf, a1, a2]
theorem e35_1 (n : Nat) (o : Ow) (st ts' : D) (s4 s5 s6 s7 : Slot) (bs : List D) (hl : bs.length ≤ line) (hb : ∀ b ∈ bs, bad b) :
    denE (P (n + 3)) e_35_1 (E35 o st ts' (.own false (.lst bs)) s4 s5 s6 s7) = .ok (.fr (.lst []), E35 o st ts' (.val (.list bs)) s4 s5 s6 s7) := by
  have key : denE (P (n + 3)) e_35_1 (E35 o st ts' (.val (.list bs)) s4 s5 s6 s7) = .ok (.fr (.lst ((bs.filter fun _ => false).map id)), E35 o st ts' (.val (.list bs)) s4 s5 s6 s7) :=
    U.comp_filter id (fun _ => false) id bs (by simp) (by simp) (fun b hb' => turn_of (e2 := [.own true o, .val st, .val ts', .val (.list bs), s4, s5, s6, s7, .val b]) (by simp) (by simp -implicitDefEqProofs [tst, hb b hb' n, cm_isnb])) hl
  have e : (bs.filter fun _ => false) = [] := List.filter_eq_nil_iff.mpr fun _ _ => by decide
  rw [e] at key
  exact (comp_start (by simp)).trans key
theorem e35_0 (n : Nat) (h : St p ls) (o : Ow) (ts' : D) (s4 s5 s6 s7 : Slot) (bs : List D) (hl : bs.length ≤ line) (hb : ∀ b ∈ bs, nd b = true ∧ (∀ xs, b = .tuple xs → ∀ x ∈ xs, nd x = true) ∧ setB ls.length p b = false) :
    denE (P (n + 4)) e_35_0 (E35 o (tS ls) ts' (.own false (.lst bs)) s4 s5 s6 s7) = .ok (.fr (.lst []), E35 o (tS ls) ts' (.val (.list bs)) s4 s5 s6 s7) := by
  have key : denE (P (n + 4)) e_35_0 (E35 o (tS ls) ts' (.val (.list bs)) s4 s5 s6 s7) = .ok (.fr (.lst ((bs.filter fun _ => false).map id)), E35 o (tS ls) ts' (.val (.list bs)) s4 s5 s6 s7) :=
    U.comp_filter id (fun _ => false) id bs (by simp) (by simp) (fun b hb' => turn_of (e2 := [.own true o, .val (tS ls), .val ts', .val (.list bs), s4, s5, s6, s7, .val b]) (by simp) (by
      obtain ⟨b1, b2, b3⟩ := hb b hb'
      have k := c18 n h b1 b2
      rw [b3] at k
      obtain ⟨W, hW⟩ : ∃ W, tS ls = W := ⟨_, rfl⟩
      rw [hW] at k ⊢
      simp -implicitDefEqProofs [tst, k, cm_isnb])) hl
  have e : (bs.filter fun _ => false) = [] := List.filter_eq_nil_iff.mpr fun _ _ => by decide
  rw [e] at key
  exact (comp_start (by simp)).trans key
def vb : St' := (.seq (.asg (.slot 7) (.bin .add (.bin .add (.sl (.slot 2) .nil (.cons (.slot 5) .nil)) (.tup (.cons (.slot 4) .nil))) (.sl (.slot 2) (.cons (.bin .add (.slot 5) (.lit (.int 1))) .nil) .nil))) (.seq (.ifs (.not (.call 29 (.cons (.call 18 (.cons (.slot 1) (.cons (.slot 7) .nil))) (.cons (.and (.bi (.isinst ["int"]) (.cons (.slot 4) .nil)) (.and (.not (.bi (.isinst ["bool"]) (.cons (.slot 4) .nil))) (.chain .le .lt (.lit (.int 0)) (.slot 4) (.slot 6)))) .nil)))) (.seq (.ret (.lit (.bool false))) .nop) .nop) .nop))
theorem turnV (n : Nat) (h : St p ls) (hs : Se ls.length p ts) {j : Nat} (hj : j < ls.length) {y : D} (hy : nd y = true) (o : Ow) (s3 : Slot) (e : Ev) (he : ∃ s4 s7, e = E35 o (tS ls) (tN ts) s3 s4 (.val (.int j)) (.val (.int p)) s7 ∧ isIo (some s4) = false ∧ isIo (some s7) = false) :
    ∃ e1 e2, bindT (.slot 4) y e = some e1 ∧ denS (P (n + 4)) vb e1 = .ok (.next, e2) ∧ ∃ s4 s7, e2 = E35 o (tS ls) (tN ts) s3 s4 (.val (.int j)) (.val (.int p)) s7 ∧ isIo (some s4) = false ∧ isIo (some s7) = false := by
  obtain ⟨s4, s7, rfl, i4, i7⟩ := he
  have L : line = 16777216 := rfl
  have p2 := h.p2
  have l2 := h.l2
  have sl := hs.len
  obtain ⟨T, R, hT, hR, ct, cf, a1, a2⟩ := bend_den (W := ts.map fun t : Nat => PyData.int t) (j := j) (by rw [List.length_map]; omega) y
  have good : ∀ x ∈ ts.map (fun t : Nat => PyData.int t), nd x = true ∧ wholeB 0 ((p : Int) - 1) x = true := by
    intro x hx
    obtain ⟨t, ht, rfl⟩ := List.mem_map.mp hx
    have := hs.lt t ht
    exact ⟨rfl, by simp only [wholeB, Bool.and_eq_true, decide_eq_true_eq]; omega⟩
  have tl : T.length = j := by rw [hT, List.length_take, List.length_map]; omega
  have rl : R.length = ls.length - (j + 1) := by rw [hR, List.length_drop, List.length_map, sl]
  have mT : ∀ x ∈ T, nd x = true ∧ wholeB 0 ((p : Int) - 1) x = true := fun x hx => good x (List.mem_of_mem_take (hT ▸ hx))
  have mR : ∀ x ∈ R, nd x = true ∧ wholeB 0 ((p : Int) - 1) x = true := fun x hx => good x (List.mem_of_mem_drop (hR ▸ hx))
  have k18 := c18 n h (d := .tuple (T ++ y :: R)) rfl fun xs e => by
    cases e
    intro x hx
    rcases List.mem_append.mp hx with hx | hx
    · exact (mT x hx).1
    · rcases List.mem_cons.mp hx with rfl | hx
      · exact hy
      · exact (mR x hx).1
  have sb : setB ls.length p (.tuple (T ++ y :: R)) = wholeB 0 ((p : Int) - 1) y := by
    have e1 : (T ++ y :: R).length = ls.length := by rw [List.length_append, List.length_cons]; omega
    have e2 : T.all (wholeB 0 ((p : Int) - 1)) = true := List.all_eq_true.mpr fun x hx => (mT x hx).2
    have e3 : R.all (wholeB 0 ((p : Int) - 1)) = true := List.all_eq_true.mpr fun x hx => (mR x hx).2
    simp only [setB, e1, decide_true, Bool.true_and, List.all_append, List.all_cons, e2, e3, Bool.and_true]
  rw [sb] at k18
  obtain ⟨b, hb⟩ : ∃ b, wholeB 0 ((p : Int) - 1) y = b := ⟨_, rfl⟩
  have s1 : (P (n + 4)).call 29 [.bool b, .bool b] = .ret (.val (.bool true)) := same29 (n + 3) 0 (Sc_bool b)
  obtain ⟨W, hW⟩ : ∃ W, tS ls = W := ⟨_, rfl⟩
  obtain ⟨V, hV⟩ : ∃ W, (ts.map fun t : Nat => PyData.int t) = W := ⟨_, rfl⟩
  have eV : tN ts = .tuple V := by rw [← hV]
  rw [hV] at ct cf
  simp only [hW] at k18 ⊢
  simp only [eV]
  refine ⟨E35 o W (.tuple V) s3 (.val y) (.val (.int j)) (.val (.int p)) s7, E35 o W (.tuple V) s3 (.val y) (.val (.int j)) (.val (.int p)) (.val (.tuple (T ++ y :: R))), by simp [i4], ?_, .val y, _, rfl, rfl, rfl⟩
  unfold vb
  cases y with
  | dict _ => cases hy
  | int i =>
    have di : decide (i < (p : Int)) = decide (i ≤ (p : Int) - 1) := by rw [Bool.eq_iff_iff]; simp only [decide_eq_true_eq]; omega
    have hb' : (decide (0 ≤ i) && decide (i ≤ (p : Int) - 1)) = b := hb
    rw [hb] at k18
    by_cases h0 : 0 ≤ i
    · rw [decide_eq_true h0, Bool.true_and] at hb'
      have lt : cmpD .lt (.int i) (.int p) = some b := by rw [cm_lt, di, hb']
      simp -implicitDefEqProofs [ct, cf, a1, a2, i7, k18, tst, h0, lt, s1, -cm_lt]
    · rw [decide_eq_false h0, Bool.false_and] at hb'
      subst hb'
      simp -implicitDefEqProofs [ct, cf, a1, a2, i7, k18, tst, h0, s1]
  | none => obtain rfl : b = false := hb.symm
            rw [hb] at k18
            simp -implicitDefEqProofs [ct, cf, a1, a2, i7, k18, tst, s1]
  | bool _ => obtain rfl : b = false := hb.symm
              rw [hb] at k18
              simp -implicitDefEqProofs [ct, cf, a1, a2, i7, k18, tst, s1]
  | str _ => obtain rfl : b = false := hb.symm
             rw [hb] at k18
             simp -implicitDefEqProofs [ct, cf, a1, a2, i7, k18, tst, s1]
  | list _ => obtain rfl : b = false := hb.symm
              rw [hb] at k18
              simp -implicitDefEqProofs [ct, cf, a1, a2, i7, k18, tst, s1]
  | tuple _ => obtain rfl : b = false := hb.symm
               rw [hb] at k18
               simp -implicitDefEqProofs [ct, cf, a1, a2, i7, k18, tst, s1]
end
end K45
end

section
namespace K45
open PySem U
def odds (ls : List (List Nat)) (j : Nat) (r : List Nat) : List D := [S (r.dropLast ++ [65]), .none, .list (r.map fun c => S [c]), S []].map fun y => PyData.tuple ((ls.map S).take j ++ y :: (ls.map S).drop (j+1))
def flat (ls : List (List Nat)) : List Nat := joinL [] ls
def odds2 (ls : List (List Nat)) (r0 : List Nat) : List D := [.list (ls.map S), .tuple (List.replicate 7 (S r0)), .tuple (List.replicate ls.length (S (List.replicate 13 97))), S (flat ls), .none, .tuple [], .int 5, .tuple (ls.map S ++ [S (r0 ++ [97])])]
theorem flat_den {ls : List (List Nat)} (h : (ls.map (·.length)).sum ≤ line) : joinD [] (ls.map S) = some (.val (S (flat ls))) := by
  have so : strsOf (ls.map fun w => S w) = some (ls.map fun w => w) := strsOf_map (fun w => w) ls
  unfold joinD
  have so' : strsOf (ls.map S) = some ls := by rw [List.map_id'] at so; exact so
  rw [so']
  simp only [Option.bind_some, List.length_nil, Nat.mul_zero, Nat.add_zero, if_pos h, flat]
theorem St.sum {p : Nat} {ls : List (List Nat)} (h : St p ls) : (ls.map (·.length)).sum ≤ 72 := by
  have l2 := h.l2
  have p2 := h.p2
  have key : ∀ l : List (List Nat), (∀ r ∈ l, r.length ≤ 12) → (l.map (·.length)).sum ≤ 12 * l.length := by
    intro l
    induction l with
    | nil => intro _; simp
    | cons a l ih => intro q; have := ih fun r hr => q r (List.mem_cons_of_mem _ hr); have := q a List.mem_cons_self; simp only [List.map_cons, List.sum_cons, List.length_cons]; omega
  have := key ls fun r hr => by rw [h.len r hr]; exact p2
  omega
theorem zm (d : D) {m : Nat} (m1 : 1 ≤ m) (m2 : m ≤ 6) : ∃ rs, binD .mul (.tuple [d]) (.int (m : Int)) = some rs ∧ rs.toR = .val (.tuple (List.replicate m d)) := by
  have : m = 1 ∨ m = 2 ∨ m = 3 ∨ m = 4 ∨ m = 5 ∨ m = 6 := by omega
  rcases this with rfl | rfl | rfl | rfl | rfl | rfl <;> exact ⟨_, rfl, rfl⟩
def vA (k : St') : St' := (.seq (.asg (.tup (.cons (.slot 5) (.cons (.slot 6) .nil))) (.tup (.cons (.callM 27 0 (.cons (.bi .len (.cons (.slot 1) .nil)) .nil)) (.cons (.bi .len (.cons (.idx (.slot 1) (.lit (.int 0))) .nil)) .nil)))) (.seq (.asg (.slot 3) e_35_2) k))
def vB (k : St') : St' := (.seq (.asg (.slot 3) (.bin .add (.slot 3) (.lst (.cons (.bi .list (.cons (.slot 1) .nil)) (.cons (.bin .mul (.tup (.cons (.idx (.slot 1) (.lit (.int 0))) .nil)) (.lit (.int 7))) (.cons (.bin .mul (.tup (.cons (.bin .mul (.lit (S [97])) (.lit (.int 13))) .nil)) (.bi .len (.cons (.slot 1) .nil))) (.cons (.me .join (.lit (S [])) (.cons (.slot 1) .nil)) (.cons (.lit .none) (.cons (.tup .nil) (.cons (.lit (.int 5)) (.cons (.bin .add (.slot 1) (.tup (.cons (.bin .add (.idx (.slot 1) (.lit (.int 0))) (.lit (S [97]))) .nil))) .nil))))))))))) k)
section
variable {p : Nat} {ls : List (List Nat)} {ts : List Nat}
theorem stVA (n : Nat) (h : St p ls) {o : Ow} (ho : cupOk o) (ts' : D) (k : St') :
    ∃ j o1, ∃ hj : j < ls.length, cupOk o1 ∧ denS (P (n + 4)) (vA k) (E35 o (tS ls) ts' .no .no .no .no .no) = denS (P (n + 4)) k (E35 o1 (tS ls) ts' (.own false (.lst (odds ls j ls[j]))) .no (.val (.int (j : Int))) (.val (.int (p : Int))) .no) := by
  have L : line = 16777216 := rfl
  have l1 := h.l1
  have l2 := h.l2
  have p2 := h.p2
  obtain ⟨v, o1, e1, ho1, v0, v1⟩ := c27 (n + 3) ho (many := (ls.length : Int)) (by omega) (by omega)
  obtain ⟨j, rfl⟩ := Int.eq_ofNat_of_zero_le v0
  have hj : j < ls.length := by omega
  refine ⟨j, o1, hj, ho1, ?_⟩
  obtain ⟨r0, ix, hr, _⟩ := ix0 h
  have ln : biD .len [S r0] = some (.val (.int p)) := by rw [bi_len_str, if_pos (by omega), hr]
  have lm : biD .len [tS ls] = some (.val (.int ls.length)) := by simp
  have o2 := e35_2 (P (n + 4)) h hj o1 ts' .no (.val (.int p)) .no
  have e1 : (P (n + 4)).callM 27 o [.int ls.length] = .ret (.val (.int j)) o1 := e1
  unfold odds
  obtain ⟨X, hX⟩ : ∃ X, ([S (ls[j].dropLast ++ [65]), .none, .list (ls[j].map fun c => S [c]), S []].map fun y => PyData.tuple ((ls.map S).take j ++ y :: (ls.map S).drop (j+1))) = X := ⟨_, rfl⟩
  rw [hX] at o2 ⊢
  obtain ⟨W, hW⟩ : ∃ W, tS ls = W := ⟨_, rfl⟩
  rw [hW] at ix lm o2 ⊢
  obtain ⟨x, hx⟩ : ∃ x, e_35_2 = x := ⟨_, rfl⟩
  unfold vA
  rw [hx] at o2 ⊢
  simp -implicitDefEqProofs [dE_callM, ix, ln, lm, e1, o2, -bi_len_tuple]
theorem stVB (F : Fns) (h : St p ls) (o : Ow) (ts' : D) (bs : List D) (hb : bs.length ≤ 100) (s4 s5 s6 s7 : Slot) (k : St') :
    ∃ r0, ls[0]? = some r0 ∧ denS F (vB k) (E35 o (tS ls) ts' (.own false (.lst bs)) s4 s5 s6 s7) = denS F k (E35 o (tS ls) ts' (.own false (.lst (bs ++ odds2 ls r0))) s4 s5 s6 s7) := by
  have L : line = 16777216 := rfl
  have l1 := h.l1
  have l2 := h.l2
  have p2 := h.p2
  obtain ⟨r0, ix, hr, _⟩ := ix0 h
  have ge : ls[0]? = some r0 := by
    obtain ⟨a, rs, rfl, ha⟩ := h.cons
    simp at ix
    rw [ix]; rfl
  refine ⟨r0, ge, ?_⟩
  have fd := flat_den (ls := ls) (by have := h.sum; omega)
  have lm : biD .len [tS ls] = some (.val (.int ls.length)) := by simp
  obtain ⟨rs, z1, z2⟩ := zm (S (List.replicate 13 97)) l1 l2
  have m7 : binD .mul (.tuple [S r0]) (.int 7) = some (.nt (List.replicate 7 (S r0))) := rfl
  have a13 : binD .mul (S [97]) (.int 13) = some (.val (S (List.replicate 13 97))) := rfl
  have ra : r0.length + 1 ≤ line := by omega
  have wl : (ls.map S).length + 1 ≤ line := by rw [List.length_map]; omega
  unfold odds2
  obtain ⟨f, hf⟩ : ∃ f, flat ls = f := ⟨_, rfl⟩
  obtain ⟨s7', h7⟩ : ∃ f, List.replicate 7 (S r0) = f := ⟨_, rfl⟩
  obtain ⟨s13, h13⟩ : ∃ f, List.replicate 13 97 = f := ⟨_, rfl⟩
  rw [hf] at fd ⊢
  rw [h7] at m7 ⊢
  rw [h13] at z1 z2 a13 ⊢
  obtain ⟨sm, hsm⟩ : ∃ f, List.replicate ls.length (S s13) = f := ⟨_, rfl⟩
  rw [hsm] at z2 ⊢
  obtain ⟨W, hW⟩ : ∃ W, ls.map S = W := ⟨_, rfl⟩
  have eW : tS ls = .tuple W := by rw [← hW]
  rw [hW] at fd wl ⊢
  rw [eW] at ix lm ⊢
  obtain ⟨m, hm⟩ : ∃ m : Int, (ls.length : Int) = m := ⟨_, rfl⟩
  rw [hm] at lm z1
  have bl : bs.length + 8 ≤ line := by omega
  have L8 : (8 ≤ line) = True := by simp [line]
  unfold vB
  simp -implicitDefEqProofs [fd, ix, lm, z1, z2, m7, a13, ra, wl, bl, L8, -bi_len_tuple, -bn_mult, -bn_muls]
end
end K45
end

section
namespace K45
open PySem U
section
variable {p : Nat} {ls : List (List Nat)} {ts : List Nat}
theorem bad_odds (h : St p ls) {j : Nat} (hj : j < ls.length) : ∀ b ∈ odds ls j ls[j], bad b := by
  have L : line = 16777216 := rfl
  have p2 := h.p2
  have l1 := h.l1
  have l2 := h.l2
  have ll : ∀ r ∈ ls, r.length ≤ line := fun r hr => by rw [h.len r hr]; omega
  have hl := h.len _ (List.getElem_mem hj)
  have tl : (ls.take j).length = j := by rw [List.length_take]; omega
  have dl : (ls.drop (j + 1)).length = ls.length - (j + 1) := List.length_drop
  have toC : ∀ y : List Nat, y.length ≤ line → (∀ q, stB q (ls.take j ++ y :: ls.drop (j + 1)) = false) → bad (.tuple ((ls.map S).take j ++ S y :: (ls.map S).drop (j + 1))) := fun y hy hq => by
    have e : (ls.map S).take j ++ S y :: (ls.map S).drop (j + 1) = (ls.take j ++ y :: ls.drop (j + 1)).map S := by rw [List.map_append, List.map_take, List.map_cons, List.map_drop]
    rw [e]
    refine badC ?_ ?_ ?_ (hq _)
    · rw [List.length_append, List.length_cons]; omega
    · rw [List.length_append, List.length_cons]; omega
    · intro r hr
      rcases List.mem_append.mp hr with hr | hr
      · exact ll r (List.mem_of_mem_take hr)
      · rcases List.mem_cons.mp hr with rfl | hr
        · exact hy
        · exact ll r (List.mem_of_mem_drop hr)
  have toB : ∀ y : D, nd y = true → isS y = false → bad (.tuple ((ls.map S).take j ++ y :: (ls.map S).drop (j + 1))) := fun y hy hs => by
    refine badB (y := y) ?_ ?_ ?_ (List.mem_append_right _ List.mem_cons_self) hs
    · intro x hx
      rcases List.mem_append.mp hx with hr | hr
      · obtain ⟨_, _, rfl⟩ := List.mem_map.mp (List.mem_of_mem_take hr); rfl
      · rcases List.mem_cons.mp hr with rfl | hr
        · exact hy
        · obtain ⟨_, _, rfl⟩ := List.mem_map.mp (List.mem_of_mem_drop hr); rfl
    · rw [List.length_append, List.length_cons]; omega
    · rw [List.length_append, List.length_cons, List.length_take, List.length_drop, List.length_map]; omega
  intro b hb
  unfold odds at hb
  simp only [List.map_cons, List.map_nil, List.mem_cons, List.not_mem_nil, or_false] at hb
  rcases hb with rfl | rfl | rfl | rfl
  · refine toC _ (by rw [List.length_append, List.length_dropLast, List.length_singleton]; omega) fun q => stB_abc (List.mem_append_right _ List.mem_cons_self) (c := 65) (by simp) (by decide)
  · exact toB _ rfl rfl
  · exact toB _ rfl rfl
  · refine toC _ (by simp) fun q => stB_len (List.mem_append_right _ List.mem_cons_self) (by simp [okR])
theorem bad_odds2 (h : St p ls) {r0 : List Nat} (hr0 : ls[0]? = some r0) : ∀ b ∈ odds2 ls r0, bad b := by
  have L : line = 16777216 := rfl
  have p2 := h.p2
  have l1 := h.l1
  have l2 := h.l2
  have ll : ∀ r ∈ ls, r.length ≤ line := fun r hr => by rw [h.len r hr]; omega
  intro b hb
  unfold odds2 at hb
  simp only [List.mem_cons, List.not_mem_nil, or_false] at hb
  rcases hb with rfl | rfl | rfl | rfl | rfl | rfl | rfl | rfl
  · exact badA rfl rfl
  · exact badA rfl rfl
  · have e : List.replicate ls.length (S (List.replicate 13 97)) = (List.replicate ls.length (List.replicate 13 97)).map S := by rw [List.map_replicate]
    rw [e]
    refine badC ?_ ?_ ?_ ?_
    · rw [List.length_replicate]; omega
    · rw [List.length_replicate]; omega
    · intro r hr; rw [(List.mem_replicate.mp hr).2, List.length_replicate]; omega
    · exact stB_len (y := List.replicate 13 97) (List.mem_replicate.mpr ⟨by omega, rfl⟩) (by simp [okR])
  · exact badA rfl rfl
  · exact badA rfl rfl
  · exact badA rfl rfl
  · exact badA rfl rfl
  · obtain ⟨a, rs, rfl, ha⟩ := h.cons
    obtain rfl : a = r0 := by simpa using hr0
    by_cases h6 : (a :: rs).length ≤ 5
    · have e : (a :: rs).map S ++ [S (a ++ [97])] = ((a :: rs) ++ [a ++ [97]]).map S := by rw [List.map_append]; rfl
      rw [e]
      refine badC ?_ ?_ ?_ ?_
      · simp
      · rw [List.length_append, List.length_singleton]; omega
      · intro r hr
        rcases List.mem_append.mp hr with hr | hr
        · exact ll r hr
        · rw [List.mem_singleton.mp hr, List.length_append, List.length_singleton]; omega
      · exact stB_len (y := a ++ [97]) (List.mem_append_right _ (List.mem_singleton.mpr rfl)) (by simp [okR])
    · refine badA rfl ?_
      have : ((a :: rs).map S ++ [S (a ++ [97])]).length = 7 := by rw [List.length_append, List.length_map, List.length_singleton]; omega
      simp only [tupB, this]
      rfl
def vC (k : St') : St' := (.seq (.ifs (.or (.cmp .ne e_35_1 (.lst .nil)) (.cmp .isnot (.call 17 (.cons (.slot 1) .nil)) (.lit (.bool true)))) (.seq (.ret (.lit (.bool false))) .nop) .nop) k)
theorem stVC (n : Nat) (h : St p ls) (o : Ow) (ts' : D) (bs : List D) (hl : bs.length ≤ 100) (hb : ∀ b ∈ bs, bad b) (s4 s5 s6 s7 : Slot) (k : St') :
    denS (P (n + 4)) (vC k) (E35 o (tS ls) ts' (.own false (.lst bs)) s4 s5 s6 s7) = denS (P (n + 4)) k (E35 o (tS ls) ts' (.val (.list bs)) s4 s5 s6 s7) := by
  have L : line = 16777216 := rfl
  have o1 := opd_nm (x := e_35_1) rfl (e35_1 (n + 1) o (tS ls) ts' s4 s5 s6 s7 bs (by omega) hb)
  have k17 : (P (n + 4)).call 17 [tS ls] = .ret (.val (.bool true)) := by rw [c17 (n + 1), c8 (n + 1) h]
  obtain ⟨W, hW⟩ : ∃ W, tS ls = W := ⟨_, rfl⟩
  rw [hW] at o1 k17 ⊢
  unfold vC
  simp -implicitDefEqProofs [o1, k17, tst, cm_isnb, cm_nil_ne]
theorem setW (h : St p ls) : True := trivial
def vD (k : St') : St' := (.seq (.loop (.slot 4) (.cons (.tup (.cons (.lit (.int 0)) (.cons (.bin .sub (.slot 6) (.lit (.int 1))) (.cons (.slot 6) (.cons (.neg (.lit (.int 1))) (.cons (.lit (.bool true)) (.cons (.lit .none) (.cons (.lit (S [48])) (.cons (.tup (.cons (.lit (.int 0)) .nil)) (.cons (.lit (.int 12)) .nil)))))))))) .nil) vb) k)
theorem stVD (n : Nat) (h : St p ls) (hs : Se ls.length p ts) {j : Nat} (hj : j < ls.length) (o : Ow) (s3 : Slot) (k : St') :
    ∃ s4 s7, isIo (some s4) = false ∧ isIo (some s7) = false ∧ denS (P (n + 4)) (vD k) (E35 o (tS ls) (tN ts) s3 .no (.val (.int (j : Int))) (.val (.int (p : Int))) .no) = denS (P (n + 4)) k (E35 o (tS ls) (tN ts) s3 s4 (.val (.int (j : Int))) (.val (.int (p : Int))) s7) := by
  obtain ⟨e', l1, s4, s7, rfl, i4, i7⟩ := loopS_inv (bind := bindT (.slot 4)) (body := denS (P (n + 4)) vb) (fun e => ∃ s4 s7, e = E35 o (tS ls) (tN ts) s3 s4 (.val (.int (j : Int))) (.val (.int (p : Int))) s7 ∧ isIo (some s4) = false ∧ isIo (some s7) = false)
    [.int 0, .int ((p : Int) - 1), .int p, .int (-1), .bool true, .none, S [48], .tuple [.int 0], .int 12] _ ⟨.no, .no, rfl, rfl, rfl⟩
    (fun x hx e he => turnV n h hs hj (by
      simp only [List.mem_cons, List.not_mem_nil, or_false] at hx
      rcases hx with rfl | rfl | rfl | rfl | rfl | rfl | rfl | rfl | rfl <;> rfl) o s3 e he)
  refine ⟨s4, s7, i4, i7, ?_⟩
  obtain ⟨W, hW⟩ : ∃ W, tS ls = W := ⟨_, rfl⟩
  obtain ⟨T, hT⟩ : ∃ W, tN ts = W := ⟨_, rfl⟩
  rw [hW, hT] at l1 ⊢
  obtain ⟨b, hb⟩ : ∃ b, vb = b := ⟨_, rfl⟩
  unfold vD
  rw [hb] at l1 ⊢
  obtain ⟨q, hq⟩ : ∃ q : Int, (p : Int) = q := ⟨_, rfl⟩
  rw [hq] at l1 ⊢
  have L1 : (1 ≤ line) = True := by simp
  have L9 : (9 ≤ line) = True := by simp [line]
  simp -implicitDefEqProofs [l1, L9, -q_denI_1, -q_bindT_1]
end
end K45
end

section
namespace K45
open PySem U
def vE : St' := (.seq (.asg (.slot 3) (.lst (.cons (.bi .list (.cons (.slot 2) .nil)) (.cons (.sl (.slot 2) (.cons (.lit (.int 1)) .nil) .nil) (.cons (.bin .add (.slot 2) (.tup (.cons (.lit (.int 0)) .nil))) (.cons (.lit .none) (.cons (.tup .nil) (.cons (.lit (.int 0)) .nil)))))))) (.seq (.ret (.and (.cmp .eq e_35_0 (.lst .nil)) (.cmp .is (.call 18 (.cons (.slot 1) (.cons (.slot 2) .nil))) (.lit (.bool true))))) .nop))
theorem f35_eq : f_35 = ⟨3, 9, true, vA (vB (vC (vD vE)))⟩ := rfl
section
variable {p : Nat} {ls : List (List Nat)} {ts : List Nat}
theorem nd_ns (ts : List Nat) : ∀ x ∈ ts.map (fun t : Nat => PyData.int t), nd x = true := fun x hx => by obtain ⟨_, _, rfl⟩ := List.mem_map.mp hx; rfl
theorem setB_good (hs : Se ls.length p ts) : setB ls.length p (tN ts) = true := by
  simp only [setB, List.length_map, hs.len, decide_true, Bool.true_and]
  refine List.all_eq_true.mpr fun x hx => ?_
  obtain ⟨t, ht, rfl⟩ := List.mem_map.mp hx
  have := hs.lt t ht
  simp only [wholeB, Bool.and_eq_true, decide_eq_true_eq]; omega
theorem stVE (n : Nat) (h : St p ls) (hs : Se ls.length p ts) (o : Ow) (s3 s4 s5 s6 s7 : Slot) (i3 : isIo (some s3) = false) :
    ∃ e', denS (P (n + 4)) vE (E35 o (tS ls) (tN ts) s3 s4 s5 s6 s7) = .ok (.ret (.val (.bool true)), e') ∧ ioOf e' = some o := by
  have L : line = 16777216 := rfl
  have l1 := h.l1
  have l2 := h.l2
  have sl := hs.len
  have hb : ∀ b ∈ [PyData.list (ts.map fun t : Nat => PyData.int t), .tuple ((ts.map fun t : Nat => PyData.int t).drop 1), .tuple ((ts.map fun t : Nat => PyData.int t) ++ [.int 0]), .none, .tuple [], .int 0], nd b = true ∧ (∀ xs, b = .tuple xs → ∀ x ∈ xs, nd x = true) ∧ setB ls.length p b = false := by
    intro b hb
    simp only [List.mem_cons, List.not_mem_nil, or_false] at hb
    rcases hb with rfl | rfl | rfl | rfl | rfl | rfl
    · exact ⟨rfl, fun _ e => (by cases e), rfl⟩
    · refine ⟨rfl, fun xs e x hx => ?_, ?_⟩
      · cases e; exact nd_ns ts x (List.mem_of_mem_drop hx)
      · have : decide (((ts.map fun t : Nat => PyData.int t).drop 1).length = ls.length) = false := by rw [List.length_drop, List.length_map]; exact decide_eq_false (by omega)
        simp only [setB, this, Bool.false_and]
    · refine ⟨rfl, fun xs e x hx => ?_, ?_⟩
      · cases e
        rcases List.mem_append.mp hx with hx | hx
        · exact nd_ns ts x hx
        · rw [List.mem_singleton.mp hx]; rfl
      · have : decide (((ts.map fun t : Nat => PyData.int t) ++ [PyData.int 0]).length = ls.length) = false := by rw [List.length_append, List.length_map, List.length_singleton]; exact decide_eq_false (by omega)
        simp only [setB, this, Bool.false_and]
    · exact ⟨rfl, fun _ e => (by cases e), rfl⟩
    · refine ⟨rfl, fun xs e x hx => ?_, ?_⟩
      · cases e; cases hx
      · have : decide (([] : List D).length = ls.length) = false := decide_eq_false (by simp; omega)
        simp only [setB, this, Bool.false_and]
    · exact ⟨rfl, fun _ e => (by cases e), rfl⟩
  have o0 := opd_nm (x := e_35_0) rfl (e35_0 n h o (tN ts) s4 s5 s6 s7 _ (by simp [line]) hb)
  have k18 := c18 n h (d := tN ts) rfl fun xs e => by cases e; exact nd_ns ts
  rw [setB_good hs] at k18
  have cd := cut_from (ts.map fun t : Nat => PyData.int t) 1
  have al : (ts.map fun t : Nat => PyData.int t).length + 1 ≤ line := by rw [List.length_map]; omega
  obtain ⟨V, hV⟩ : ∃ V, (ts.map fun t : Nat => PyData.int t) = V := ⟨_, rfl⟩
  have eV : tN ts = .tuple V := by rw [← hV]
  rw [hV] at o0 cd al
  rw [eV] at o0 k18 ⊢
  obtain ⟨W, hW⟩ : ∃ W, tS ls = W := ⟨_, rfl⟩
  rw [hW] at o0 k18 ⊢
  have cd : cut V (some 1) none = V.drop 1 := cd
  obtain ⟨V1, hV1⟩ : ∃ x, V.drop 1 = x := ⟨_, rfl⟩
  rw [hV1] at o0 cd
  have L6 : (6 ≤ line) = True := by simp [line]
  obtain ⟨x, hx⟩ : ∃ x, e_35_0 = x := ⟨_, rfl⟩
  unfold vE
  rw [hx] at o0 ⊢
  refine ⟨_, by simp -implicitDefEqProofs [i3, cd, al, L6, o0, k18, tst, cm_nil_eq]; rfl, rfl⟩
theorem c35 (n : Nat) (h : St p ls) (hs : Se ls.length p ts) {o : Ow} (ho : cupOk o) : ∃ o', (P (n + 5)).callM 35 o [tS ls, tN ts] = .ret (.val (.bool true)) o' ∧ cupOk o' := by
  obtain ⟨j, o1, hj, ho1, ea⟩ := stVA n h ho (tN ts) (vB (vC (vD vE)))
  obtain ⟨r0, hr0, eb⟩ := stVB (P (n + 4)) h o1 (tN ts) (odds ls j ls[j]) (by simp [odds]) .no (.val (.int (j : Int))) (.val (.int (p : Int))) .no (vC (vD vE))
  have ec := stVC n h o1 (tN ts) (odds ls j ls[j] ++ odds2 ls r0) (by simp [odds, odds2]) (fun b hb => by
    rcases List.mem_append.mp hb with hb | hb
    · exact bad_odds h hj b hb
    · exact bad_odds2 h hr0 b hb) .no (.val (.int (j : Int))) (.val (.int (p : Int))) .no (vD vE)
  obtain ⟨s4, s7, i4, i7, ed⟩ := stVD n h hs hj o1 (.val (.list (odds ls j ls[j] ++ odds2 ls r0))) vE
  obtain ⟨e', ee, hio⟩ := stVE n h hs o1 (.val (.list (odds ls j ls[j] ++ odds2 ls r0))) s4 (.val (.int (j : Int))) (.val (.int (p : Int))) s7 rfl
  refine ⟨o1, ?_, ho1⟩
  rw [callM_eq (n + 4) (f := f_35) rfl, f35_eq]
  exact runM_ret rfl rfl (ea.trans (eb.trans (ec.trans (ed.trans ee)))) hio
end
end K45
end

section
namespace K45
open PySem U
def lets : List Nat := [98, 99, 100, 101, 102, 103, 104, 105, 106, 107, 108, 109]
def full : List (List Nat) := List.replicate 6 lets
def steps : List Nat := [0, 1, 2, 3, 4, 5]
def somes : List (List Nat) := [[98, 99, 100, 101, 102, 103], [104, 105, 106, 107, 108, 109], [109, 98, 99, 100, 101, 102]]
def zs : List (List Nat) := List.replicate 2 (List.replicate 12 122)
theorem full_st : St 12 full := ⟨by decide, by decide, by decide, by decide, by decide, by decide⟩
theorem zs_st : St 12 zs := ⟨by decide, by decide, by decide, by decide, by decide, by decide⟩
theorem steps_se : Se full.length 12 steps := ⟨rfl, by decide⟩
theorem steps2_se : Se full.length 12 [11, 0, 1, 2, 3, 4] := ⟨rfl, by decide⟩
theorem somes_wl : Wl somes := ⟨by decide, fun w hw => by
  unfold somes at hw
  simp only [List.mem_cons, List.not_mem_nil, or_false] at hw
  rcases hw with rfl | rfl | rfl <;> exact ⟨by decide, by decide, by decide⟩, by unfold somes; simp; decide⟩
def wT : Tx := (.tup (.cons (.idx (.call 19 (.cons (.slot 6) (.cons (.slot 7) .nil))) (.lit (.int 0))) (.cons (.sl (.call 19 (.cons (.slot 6) (.cons (.slot 7) .nil))) (.cons (.lit (.int 11)) .nil) .nil) (.cons (.call 22 (.cons (.slot 6) (.cons (.slot 7) (.cons (.slot 3) .nil)))) (.cons (.call 24 (.cons (.slot 6) (.cons (.slot 7) (.cons (.tup (.cons (.lit (.int 11)) (.cons (.lit (.int 0)) (.cons (.lit (.int 1)) (.cons (.lit (.int 2)) (.cons (.lit (.int 3)) (.cons (.lit (.int 4)) .nil))))))) .nil)))) .nil)))))
def wT2 : Tx := (.not (.call 29 (.cons (.slot 4) (.cons (.tup (.cons (.lit (S [98, 99, 100, 101, 102, 103])) (.cons (.tup (.cons (.lit (S [109, 98, 99, 100, 101, 102])) .nil)) (.cons (.slot 3) (.cons (.tup (.cons (.lit (.int 11)) .nil)) .nil))))) .nil))))
def wZ : Tx := (.tup (.cons (.call 24 (.cons (.slot 5) (.cons (.tup (.cons (.lit (.int 3)) (.cons (.lit (.int 4)) .nil))) (.cons (.tup (.cons (.lit (.int 11)) (.cons (.lit (.int 0)) .nil))) .nil)))) (.cons (.call 21 (.cons (.slot 5) (.cons (.tup (.cons (.lit (.int 0)) (.cons (.lit (.int 11)) .nil))) (.cons (.lit (S [122, 122])) .nil)))) (.cons (.call 21 (.cons (.slot 5) (.cons (.tup (.cons (.lit (.int 0)) (.cons (.lit (.int 0)) .nil))) (.cons (.lit (S [122])) .nil)))) .nil))))
def wZ2 : Tx := (.not (.call 29 (.cons (.slot 4) (.cons (.tup (.cons (.bi .trng (.cons (.lit (.int 12)) .nil)) (.cons (.bi .trng (.cons (.lit (.int 12)) .nil)) (.cons (.tup .nil) .nil)))) .nil))))
def told : D := .tuple [S [98, 99, 100, 101, 102, 103], .tuple [S [109, 98, 99, 100, 101, 102]], tS somes, .tuple [.int 11]]
def alike : D := .tuple [tN (List.range 12), tN (List.range 12), .tuple []]
theorem wT_den (n : Nat) (s0 s1 s2 s4 s5 : Slot) (r : Ev) : denE (P (n + 5)) wT (s0 :: s1 :: s2 :: .val (tS somes) :: s4 :: s5 :: .val (tS full) :: .val (tN steps) :: r) = .ok (.val told, s0 :: s1 :: s2 :: .val (tS somes) :: s4 :: s5 :: .val (tS full) :: .val (tN steps) :: r) := by
  have k19 := c19 n full_st steps_se
  have k22 := c22 n full_st steps_se somes_wl
  have k24 := c24 n full_st steps_se steps2_se
  have e22 : somes.filter (inR (rowsOf full steps 12)) = somes := by decide
  have e24 : sameS (rowsOf full steps 12) (rowsOf full [11, 0, 1, 2, 3, 4] 12) 12 = [11] := by decide
  rw [e22] at k22
  rw [e24] at k24
  have k24 : (P (n + 5)).call 24 [tS full, tN steps, .tuple [.int 11, .int 0, .int 1, .int 2, .int 3, .int 4]] = .ret (.val (.tuple [.int 11])) := k24
  have ix : idxD (tS (rowsOf full steps 12)) (.int 0) = some (S [98, 99, 100, 101, 102, 103]) := by rfl
  have sc : cut ((rowsOf full steps 12).map S) (some 11) none = [S [109, 98, 99, 100, 101, 102]] := by rfl
  unfold told
  obtain ⟨R, hR⟩ : ∃ R, (rowsOf full steps 12).map S = R := ⟨_, rfl⟩
  have eR : tS (rowsOf full steps 12) = .tuple R := by rw [← hR]
  rw [eR] at k19 ix
  rw [hR] at sc
  obtain ⟨A, hA⟩ : ∃ R, tS full = R := ⟨_, rfl⟩
  obtain ⟨B, hB⟩ : ∃ R, tN steps = R := ⟨_, rfl⟩
  obtain ⟨C, hC⟩ : ∃ R, tS somes = R := ⟨_, rfl⟩
  rw [hA, hB] at k19 k24
  rw [hA, hB, hC] at k22
  rw [hA, hB, hC]
  unfold wT
  simp -implicitDefEqProofs [k19, ix, sc, k22, k24]
theorem wT2_den (n : Nat) (s0 s1 s2 s5 : Slot) (r : Ev) : tst (opd wT2 (denE (P (n + 5)) wT2)) (s0 :: s1 :: s2 :: .val (tS somes) :: .val told :: s5 :: r) = .ok (false, s0 :: s1 :: s2 :: .val (tS somes) :: .val told :: s5 :: r) := by
  have s : (P (n + 5)).call 29 [told, told] = .ret (.val (.bool true)) := same29 (n + 2) 2 (Sm_tup (by simp) fun x hx => by
    simp only [List.mem_cons, List.not_mem_nil, or_false] at hx
    rcases hx with rfl | rfl | rfl | rfl
    · exact .inl (Sc_str _)
    · exact Sm_strs (ls := [[109, 98, 99, 100, 101, 102]]) (by simp)
    · exact Sm_strs (by decide)
    · exact Sm_nats (ts := [11]) (by simp))
  have L4 : (4 ≤ line) = True := by simp [line]
  unfold told at s ⊢
  obtain ⟨C, hC⟩ : ∃ R, tS somes = R := ⟨_, rfl⟩
  rw [hC] at s ⊢
  unfold wT2
  simp -implicitDefEqProofs [s, tst, L4]
theorem wZ_den (n : Nat) (s0 s1 s2 s3 s4 : Slot) (r : Ev) : denE (P (n + 5)) wZ (s0 :: s1 :: s2 :: s3 :: s4 :: .val (tS zs) :: r) = .ok (.val alike, s0 :: s1 :: s2 :: s3 :: s4 :: .val (tS zs) :: r) := by
  have k24 := c24 n zs_st (ts := [3, 4]) (us := [11, 0]) ⟨rfl, by decide⟩ ⟨rfl, by decide⟩
  have k21 := c21 n zs_st (ts := [0, 11]) ⟨rfl, by decide⟩ (w := [122, 122]) ⟨by decide, by decide, by decide⟩
  have k21' := c21 n zs_st (ts := [0, 0]) ⟨rfl, by decide⟩ (w := [122]) ⟨by decide, by decide, by decide⟩
  have e24 : sameS (rowsOf zs [3, 4] 12) (rowsOf zs [11, 0] 12) 12 = List.range 12 := by decide
  have e21 : spk (lineOf zs [0, 11] 12) 12 [122, 122] = List.range 12 := by decide
  have e21' : spk (lineOf zs [0, 0] 12) 12 [122] = [] := by decide
  rw [e24] at k24
  rw [e21] at k21
  rw [e21'] at k21'
  have k24 : (P (n + 5)).call 24 [tS zs, .tuple [.int 3, .int 4], .tuple [.int 11, .int 0]] = .ret (.val (tN (List.range 12))) := k24
  have k21 : (P (n + 5)).call 21 [tS zs, .tuple [.int 0, .int 11], S [122, 122]] = .ret (.val (tN (List.range 12))) := k21
  have k21' : (P (n + 5)).call 21 [tS zs, .tuple [.int 0, .int 0], S [122]] = .ret (.val (.tuple [])) := k21'
  unfold alike
  obtain ⟨A, hA⟩ : ∃ R, tS zs = R := ⟨_, rfl⟩
  obtain ⟨B, hB⟩ : ∃ R, tN (List.range 12) = R := ⟨_, rfl⟩
  rw [hA, hB] at k24 k21
  rw [hA] at k21'
  rw [hA, hB]
  unfold wZ
  simp -implicitDefEqProofs [k24, k21, k21']
theorem wZ2_den (n : Nat) (s0 s1 s2 s3 : Slot) (r : Ev) : tst (opd wZ2 (denE (P (n + 5)) wZ2)) (s0 :: s1 :: s2 :: s3 :: .val alike :: r) = .ok (false, s0 :: s1 :: s2 :: s3 :: .val alike :: r) := by
  have s : (P (n + 5)).call 29 [alike, alike] = .ret (.val (.bool true)) := same29 (n + 2) 2 (Sm_tup (by simp) fun x hx => by
    simp only [List.mem_cons, List.not_mem_nil, or_false] at hx
    rcases hx with rfl | rfl | rfl
    · exact Sm_nats (by decide)
    · exact Sm_nats (by decide)
    · exact Sm_nats (ts := []) (by simp))
  have q : biD .trng [.int 12] = some (.nt ((List.range 12).map fun t : Nat => PyData.int t)) := rfl
  have q' : (Rs.nt ((List.range 12).map fun t : Nat => PyData.int t)).toR = .val (tN (List.range 12)) := rfl
  unfold alike at s ⊢
  obtain ⟨B, hB⟩ : ∃ R, tN (List.range 12) = R := ⟨_, rfl⟩
  obtain ⟨C, hC⟩ : ∃ R, Rs.nt ((List.range 12).map fun t : Nat => PyData.int t) = R := ⟨_, rfl⟩
  rw [hB] at s q' ⊢
  rw [hC] at q q'
  unfold wZ2
  simp -implicitDefEqProofs [s, q, q', tst]
end K45
end

section
namespace K45
open PySem U
def inn36 : St' := (.seq (.ifs (.or (.not (.callM 34 1 (.cons (.slot 10) (.cons (.slot 13) (.cons (.slot 14) .nil))))) (.not (.callM 34 1 (.cons (.slot 10) (.cons (.slot 14) (.cons (.slot 13) .nil)))))) (.seq (.ret (.lit (.bool false))) .nop) .nop) .nop)
def out36 : St' := (.seq (.par 11 12 (.callM 30 1 (.cons (.slot 8) (.cons (.slot 9) .nil))) (.callM 30 1 (.cons (.slot 8) (.cons (.slot 9) .nil)))) (.seq (.par 13 14 (.callM 31 1 (.cons (.slot 11) .nil)) (.callM 31 1 (.cons (.slot 11) .nil))) (.seq (.loop (.slot 10) (.cons (.tup (.cons (.slot 11) (.cons (.slot 12) (.cons (.slot 11) .nil)))) .nil) inn36) (.seq (.ifs (.not (.callM 35 1 (.cons (.slot 11) (.cons (.slot 13) .nil)))) (.seq (.ret (.lit (.bool false))) .nop) .nop) .nop))))
def itO : Tx := (.cons (.tup (.cons (.tup (.cons (.lit (.int 6)) (.cons (.lit (.int 12)) .nil))) (.cons (.tup (.cons (.lit (.int 1)) (.cons (.lit (.int 12)) .nil))) (.cons (.tup (.cons (.lit (.int 6)) (.cons (.lit (.int 1)) .nil))) (.cons (.tup (.cons (.bin .add (.lit (.int 1)) (.callM 27 1 (.cons (.lit (.int 6)) .nil))) (.cons (.bin .add (.lit (.int 1)) (.callM 27 1 (.cons (.lit (.int 12)) .nil))) .nil))) (.cons (.tup (.cons (.lit (.int 2)) (.cons (.bin .add (.lit (.int 2)) (.callM 27 1 (.cons (.lit (.int 11)) .nil))) .nil))) .nil)))))) .nil)
theorem f36_eq : f_36 = ⟨1, 15, false, (.seq (.asg (.slot 1) (.call 26 (.cons (.slot 0) .nil))) (.seq (.asg (.slot 2) (.lit (S [98, 99, 100, 101, 102, 103, 104, 105, 106, 107, 108, 109]))) (.seq (.par 6 7 (.bin .mul (.tup (.cons (.slot 2) .nil)) (.lit (.int 6))) (.tup (.cons (.lit (.int 0)) (.cons (.lit (.int 1)) (.cons (.lit (.int 2)) (.cons (.lit (.int 3)) (.cons (.lit (.int 4)) (.cons (.lit (.int 5)) .nil)))))))) (.seq (.asg (.slot 3) (.tup (.cons (.lit (S [98, 99, 100, 101, 102, 103])) (.cons (.lit (S [104, 105, 106, 107, 108, 109])) (.cons (.lit (S [109, 98, 99, 100, 101, 102])) .nil))))) (.seq (.asg (.slot 4) wT) (.seq (.ifs wT2 (.seq (.ret (.lit (.bool false))) .nop) .nop) (.seq (.asg (.slot 5) (.tup (.cons (.bin .mul (.lit (S [122])) (.lit (.int 12))) (.cons (.bin .mul (.lit (S [122])) (.lit (.int 12))) .nil)))) (.seq (.asg (.slot 4) wZ) (.seq (.ifs wZ2 (.seq (.ret (.lit (.bool false))) .nop) .nop) (.seq (.loop (.tup (.cons (.slot 8) (.cons (.slot 9) .nil))) itO out36) (.seq (.ret (.lit (.bool true))) .nop)))))))))))⟩ := rfl
abbrev E36 (d : D) (o : Ow) (s2 s3 s4 s5 s6 s7 s8 s9 s10 s11 s12 s13 s14 : Slot) : Ev := [.val d, .own false o, s2, s3, s4, s5, s6, s7, s8, s9, s10, s11, s12, s13, s14]
section
variable {d : D} {s2 s3 s4 s5 s6 s7 : Slot}
theorem turn_in (n : Nat) {p : Nat} {a b : List (List Nat)} {ts us : List Nat} (ha : St p a) (hb : St p b) (hl : b.length = a.length) (hs : Se a.length p ts) (hu : Se a.length p us) (s8 s9 : Slot) (t : D) (ht : t ∈ [tS a, tS b, tS a]) (e : Ev) (he : ∃ o s10, e = E36 d o s2 s3 s4 s5 s6 s7 s8 s9 s10 (.val (tS a)) (.val (tS b)) (.val (tN ts)) (.val (tN us)) ∧ cupOk o ∧ isIo (some s10) = false) :
    ∃ e1 e2, bindT (.slot 10) t e = some e1 ∧ denS (P (n + 6)) inn36 e1 = .ok (.next, e2) ∧ ∃ o s10, e2 = E36 d o s2 s3 s4 s5 s6 s7 s8 s9 s10 (.val (tS a)) (.val (tS b)) (.val (tN ts)) (.val (tN us)) ∧ cupOk o ∧ isIo (some s10) = false := by
  obtain ⟨o, s10, rfl, ho, i10⟩ := he
  obtain ⟨c, rfl, hc, hsc, huc⟩ : ∃ c, t = tS c ∧ St p c ∧ Se c.length p ts ∧ Se c.length p us := by
    simp only [List.mem_cons, List.not_mem_nil, or_false] at ht
    rcases ht with rfl | rfl | rfl
    · exact ⟨a, rfl, ha, hs, hu⟩
    · exact ⟨b, rfl, hb, hl ▸ hs, hl ▸ hu⟩
    · exact ⟨a, rfl, ha, hs, hu⟩
  obtain ⟨o1, e1, ho1⟩ := c34 n hc hsc huc ho
  obtain ⟨o2, e2, ho2⟩ := c34 n hc huc hsc ho1
  obtain ⟨A, hA⟩ : ∃ A, tS a = A := ⟨_, rfl⟩
  obtain ⟨B, hB⟩ : ∃ A, tS b = A := ⟨_, rfl⟩
  obtain ⟨C, hC⟩ : ∃ A, tS c = A := ⟨_, rfl⟩
  obtain ⟨T, hT⟩ : ∃ A, tN ts = A := ⟨_, rfl⟩
  obtain ⟨U', hU⟩ : ∃ A, tN us = A := ⟨_, rfl⟩
  rw [hC, hT, hU] at e1 e2
  rw [hA, hB, hC, hT, hU]
  refine ⟨E36 d o s2 s3 s4 s5 s6 s7 s8 s9 (.val C) (.val A) (.val B) (.val T) (.val U'), E36 d o2 s2 s3 s4 s5 s6 s7 s8 s9 (.val C) (.val A) (.val B) (.val T) (.val U'), by simp [i10], ?_, _, _, rfl, ho2, rfl⟩
  unfold inn36
  simp -implicitDefEqProofs [dE_callM, e1, e2, tst]
theorem turn_out (n : Nat) (t : D) (ht : ∃ m p : Nat, t = .tuple [.int m, .int p] ∧ 1 ≤ m ∧ m ≤ 6 ∧ 1 ≤ p ∧ p ≤ 12) (e : Ev) (he : ∃ o s8 s9 s10 s11 s12 s13 s14, e = E36 d o s2 s3 s4 s5 s6 s7 s8 s9 s10 s11 s12 s13 s14 ∧ cupOk o ∧ (isIo (some s8) = false ∧ isIo (some s9) = false ∧ isIo (some s10) = false ∧ isIo (some s11) = false ∧ isIo (some s12) = false ∧ isIo (some s13) = false ∧ isIo (some s14) = false)) :
    ∃ e1 e2, bindT (.tup (.cons (.slot 8) (.cons (.slot 9) .nil))) t e = some e1 ∧ denS (P (n + 6)) out36 e1 = .ok (.next, e2) ∧ ∃ o s8 s9 s10 s11 s12 s13 s14, e2 = E36 d o s2 s3 s4 s5 s6 s7 s8 s9 s10 s11 s12 s13 s14 ∧ cupOk o ∧ (isIo (some s8) = false ∧ isIo (some s9) = false ∧ isIo (some s10) = false ∧ isIo (some s11) = false ∧ isIo (some s12) = false ∧ isIo (some s13) = false ∧ isIo (some s14) = false) := by
  obtain ⟨o, s8, s9, s10, s11, s12, s13, s14, rfl, ho, i8, i9, i10, i11, i12, i13, i14⟩ := he
  obtain ⟨m, p, rfl, m1, m2, p1, p2⟩ := ht
  obtain ⟨a, o1, e1, ho1, ha, la⟩ := c30 (n + 3) ho m1 m2 p1 p2
  obtain ⟨b, o2, e2, ho2, hb, lb⟩ := c30 (n + 3) ho1 m1 m2 p1 p2
  obtain ⟨ts, o3, e3, ho3, hs⟩ := c31 (n + 4) ho2 ha
  obtain ⟨us, o4, e4, ho4, hu⟩ := c31 (n + 4) ho3 ha
  obtain ⟨ee, l1, o5, t10, rfl, ho5, j10⟩ := loopS_inv (bind := bindT (.slot 10)) (body := denS (P (n + 6)) inn36) (fun e => ∃ o s10, e = E36 d o s2 s3 s4 s5 s6 s7 (.val (.int (m : Int))) (.val (.int (p : Int))) s10 (.val (tS a)) (.val (tS b)) (.val (tN ts)) (.val (tN us)) ∧ cupOk o ∧ isIo (some s10) = false) [tS a, tS b, tS a] (E36 d o4 s2 s3 s4 s5 s6 s7 (.val (.int (m : Int))) (.val (.int (p : Int))) s10 (.val (tS a)) (.val (tS b)) (.val (tN ts)) (.val (tN us))) ⟨_, _, rfl, ho4, i10⟩ (fun x hx e he => turn_in n ha hb (by omega) hs hu _ _ x hx e he)
  obtain ⟨o6, e6, ho6⟩ := c35 (n + 1) ha hs ho5
  have e1 : (P (n + 6)).callM 30 o [.int m, .int p] = .ret (.val (tS a)) o1 := e1
  have e2 : (P (n + 6)).callM 30 o1 [.int m, .int p] = .ret (.val (tS b)) o2 := e2
  have e3 : (P (n + 6)).callM 31 o2 [tS a] = .ret (.val (tN ts)) o3 := e3
  have e4 : (P (n + 6)).callM 31 o3 [tS a] = .ret (.val (tN us)) o4 := e4
  have e6 : (P (n + 6)).callM 35 o5 [tS a, tN ts] = .ret (.val (.bool true)) o6 := e6
  obtain ⟨A, hA⟩ : ∃ A, tS a = A := ⟨_, rfl⟩
  obtain ⟨B, hB⟩ : ∃ A, tS b = A := ⟨_, rfl⟩
  obtain ⟨T, hT⟩ : ∃ A, tN ts = A := ⟨_, rfl⟩
  obtain ⟨U', hU⟩ : ∃ A, tN us = A := ⟨_, rfl⟩
  rw [hA] at e1 e3 e4
  rw [hA, hT] at e6
  rw [hB] at e2
  rw [hT] at e3
  rw [hU] at e4
  rw [hA, hB, hT, hU] at l1
  obtain ⟨M, hM⟩ : ∃ x : Int, (m : Int) = x := ⟨_, rfl⟩
  obtain ⟨Q, hQ⟩ : ∃ x : Int, (p : Int) = x := ⟨_, rfl⟩
  rw [hM, hQ] at e1 e2 l1 ⊢
  refine ⟨E36 d o s2 s3 s4 s5 s6 s7 (.val (.int M)) (.val (.int Q)) s10 s11 s12 s13 s14, E36 d o6 s2 s3 s4 s5 s6 s7 (.val (.int M)) (.val (.int Q)) t10 (.val A) (.val B) (.val T) (.val U'), by simp [i8, i9], ?_, _, _, _, _, _, _, _, _, rfl, ho6, rfl, rfl, j10, rfl, rfl, rfl, rfl⟩
  have L3 : (3 ≤ line) = True := by simp [line]
  unfold out36
  obtain ⟨x, hx⟩ : ∃ x, inn36 = x := ⟨_, rfl⟩
  rw [hx] at l1 ⊢
  simp -implicitDefEqProofs [dE_callM, e1, e2, e3, e4, l1, e6, L3, i11, i12, i13, i14, tst, -q_denI_1, -q_bindT_1]
theorem itO_den (n : Nat) {o : Ow} (ho : cupOk o) (r : Ev) : ∃ o' ps, denI (P (n + 6)) itO (.val d :: .own false o :: r) = .ok (ps, .val d :: .own false o' :: r) ∧ cupOk o' ∧ ∀ t ∈ ps, ∃ m p : Nat, t = .tuple [.int m, .int p] ∧ 1 ≤ m ∧ m ≤ 6 ∧ 1 ≤ p ∧ p ≤ 12 := by
  obtain ⟨v1, o1, e1, ho1, a1, b1⟩ := c27 (n + 5) ho (many := 6) (by decide) (by decide)
  obtain ⟨v2, o2, e2, ho2, a2, b2⟩ := c27 (n + 5) ho1 (many := 12) (by decide) (by decide)
  obtain ⟨v3, o3, e3, ho3, a3, b3⟩ := c27 (n + 5) ho2 (many := 11) (by decide) (by decide)
  have e1 : (P (n + 6)).callM 27 o [.int 6] = .ret (.val (.int v1)) o1 := e1
  have e2 : (P (n + 6)).callM 27 o1 [.int 12] = .ret (.val (.int v2)) o2 := e2
  have e3 : (P (n + 6)).callM 27 o2 [.int 11] = .ret (.val (.int v3)) o3 := e3
  have L5 : (5 ≤ line) = True := by simp [line]
  refine ⟨o3, [.tuple [.int 6, .int 12], .tuple [.int 1, .int 12], .tuple [.int 6, .int 1], .tuple [.int (1 + v1), .int (1 + v2)], .tuple [.int 2, .int (2 + v3)]], ?_, ho3, ?_⟩
  · unfold itO
    simp -implicitDefEqProofs [dE_callM, e1, e2, e3, L5]
  · obtain ⟨v1, rfl⟩ := Int.eq_ofNat_of_zero_le a1
    obtain ⟨v2, rfl⟩ := Int.eq_ofNat_of_zero_le a2
    obtain ⟨v3, rfl⟩ := Int.eq_ofNat_of_zero_le a3
    intro t ht
    simp only [List.mem_cons, List.not_mem_nil, or_false] at ht
    rcases ht with rfl | rfl | rfl | rfl | rfl
    · exact ⟨6, 12, rfl, by decide⟩
    · exact ⟨1, 12, rfl, by decide⟩
    · exact ⟨6, 1, rfl, by decide⟩
    · exact ⟨1 + v1, 1 + v2, by simp, by omega, by omega, by omega, by omega⟩
    · exact ⟨2, 2 + v3, by simp, by decide, by decide, by omega, by omega⟩
end
end K45
end

section
namespace K45
open PySem U
theorem law (ns : List Int) (hn : ns.length ≤ 63) : (P 14).call 36 [scr ns] = .ret (.val (.bool true)) := by
  rw [call_eq 13 (f := f_36) rfl, f36_eq]
  obtain ⟨o, ec, ho⟩ := cup_ok (P 12) (a := 511) (b := 671) (c := 4651) (m := 2077503437) (e := 451) (by decide) (by decide) (by decide) (by decide) ns hn
  have ec : (P 13).call 26 [scr ns] = .ret (.fr o) := by rw [call_eq 12 (f := f_26) rfl]; exact ec
  obtain ⟨o', ps, ei, ho', hps⟩ := itO_den (d := scr ns) 7 ho [.val (S lets), .val (tS somes), .val alike, .val (tS zs), .val (tS full), .val (tN steps), .no, .no, .no, .no, .no, .no, .no]
  obtain ⟨e', l1, _⟩ := loopS_inv (bind := bindT (.tup (.cons (.slot 8) (.cons (.slot 9) .nil)))) (body := denS (P 13) out36) (fun e => ∃ o s8 s9 s10 s11 s12 s13 s14, e = E36 (scr ns) o (.val (S lets)) (.val (tS somes)) (.val alike) (.val (tS zs)) (.val (tS full)) (.val (tN steps)) s8 s9 s10 s11 s12 s13 s14 ∧ cupOk o ∧ (isIo (some s8) = false ∧ isIo (some s9) = false ∧ isIo (some s10) = false ∧ isIo (some s11) = false ∧ isIo (some s12) = false ∧ isIo (some s13) = false ∧ isIo (some s14) = false)) ps (E36 (scr ns) o' (.val (S lets)) (.val (tS somes)) (.val alike) (.val (tS zs)) (.val (tS full)) (.val (tN steps)) .no .no .no .no .no .no .no) ⟨_, _, _, _, _, _, _, _, rfl, ho', rfl, rfl, rfl, rfl, rfl, rfl, rfl⟩ (fun x hx e he => turn_out 7 x (hps x hx) e he)
  have ta := fun s4 s5 => wT_den 8 (.val (scr ns)) (.own false o) (.val (S lets)) s4 s5 [.no, .no, .no, .no, .no, .no, .no]
  have tb := fun s5 => wT2_den 8 (.val (scr ns)) (.own false o) (.val (S lets)) s5 [.val (tS full), .val (tN steps), .no, .no, .no, .no, .no, .no, .no]
  have tc := fun s4 => wZ_den 8 (.val (scr ns)) (.own false o) (.val (S lets)) (.val (tS somes)) s4 [.val (tS full), .val (tN steps), .no, .no, .no, .no, .no, .no, .no]
  have td := wZ2_den 8 (.val (scr ns)) (.own false o) (.val (S lets)) (.val (tS somes)) [.val (tS zs), .val (tS full), .val (tN steps), .no, .no, .no, .no, .no, .no, .no]
  have q1 : binD .mul (.tuple [S [98, 99, 100, 101, 102, 103, 104, 105, 106, 107, 108, 109]]) (.int 6) = some (.nt (full.map S)) := rfl
  have q1' : (Rs.nt (full.map S)).toR = .val (tS full) := rfl
  have q2 : PyData.tuple [.int 0, .int 1, .int 2, .int 3, .int 4, .int 5] = tN steps := rfl
  have q3 : PyData.tuple [S [98, 99, 100, 101, 102, 103], S [104, 105, 106, 107, 108, 109], S [109, 98, 99, 100, 101, 102]] = tS somes := rfl
  have q4 : binD .mul (S [122]) (.int 12) = some (.val (S (List.replicate 12 122))) := rfl
  have q5 : PyData.tuple [S (List.replicate 12 122), S (List.replicate 12 122)] = tS zs := rfl
  have q6 : S [98, 99, 100, 101, 102, 103, 104, 105, 106, 107, 108, 109] = S lets := rfl
  refine runF_ret (e := e') rfl rfl ?_
  obtain ⟨b, hb⟩ : ∃ b, out36 = b := ⟨_, rfl⟩
  obtain ⟨i, hi⟩ : ∃ b, itO = b := ⟨_, rfl⟩
  obtain ⟨a, ha⟩ : ∃ a, wT = a := ⟨_, rfl⟩
  obtain ⟨c, hc⟩ : ∃ c, wT2 = c := ⟨_, rfl⟩
  obtain ⟨z, hz⟩ : ∃ c, wZ = c := ⟨_, rfl⟩
  obtain ⟨z2, hz2⟩ : ∃ c, wZ2 = c := ⟨_, rfl⟩
  rw [hb] at l1 ⊢
  rw [hi] at ei ⊢
  rw [ha] at ta ⊢
  rw [hc] at tb ⊢
  rw [hz] at tc ⊢
  rw [hz2] at td ⊢
  obtain ⟨f, hf⟩ : ∃ f, tS full = f := ⟨_, rfl⟩
  obtain ⟨fm, hfm⟩ : ∃ f, Rs.nt (full.map S) = f := ⟨_, rfl⟩
  obtain ⟨st, hst⟩ : ∃ f, tN steps = f := ⟨_, rfl⟩
  obtain ⟨so, hso⟩ : ∃ f, tS somes = f := ⟨_, rfl⟩
  obtain ⟨al, hal⟩ : ∃ f, alike = f := ⟨_, rfl⟩
  obtain ⟨to, hto⟩ : ∃ f, told = f := ⟨_, rfl⟩
  obtain ⟨zz, hzz⟩ : ∃ f, tS zs = f := ⟨_, rfl⟩
  obtain ⟨z12, h12⟩ : ∃ f, List.replicate 12 122 = f := ⟨_, rfl⟩
  obtain ⟨le, hle⟩ : ∃ f, S lets = f := ⟨_, rfl⟩
  rw [hle] at q6
  simp only [hf, hst, hso, hal, hto, hzz, hle] at l1 ei ta tb tc td q1' q2 q3 q5
  rw [hfm] at q1 q1'
  rw [h12] at q4 q5
  rw [q6] at q1
  simp -implicitDefEqProofs [ec, q1, q1', q2, q3, q4, q5, q6, ta, tb, tc, td, ei, l1, -q_denI_1, -q_bindT_1, -bn_mult, -bn_muls]
end K45
end
open PySem PySem.W PySem.Calls PyProof.Rows U
set_option maxHeartbeats 0 in
theorem PySem.Challenge.cw_lettergrounds_k45_whole_lines_of_full_st_holds : PySem.Challenge.rw_lettergrounds_k45_whole_lines_of_full_st.Holds := by
  w_on; o_law
  refine HandSHeadRun.head_any (r := OpenLaw.row PySem.Challenge.rw_lettergrounds_k45_whole_lines_of_full_st) (q := view (OpenLaw.row PySem.Challenge.rw_lettergrounds_k45_whole_lines_of_full_st).prog [51]) (H := K45.hk) (ob := K45.ob) (M := 4000) (loose := K45.nmA) (d := HandSHeadRun.topDef (OpenLaw.row PySem.Challenge.rw_lettergrounds_k45_whole_lines_of_full_st).prog 51) (kwd := []) K45.ob_eq
    (by kernel_rfl) (fun s => by kernel_rfl) K45.run (by kernel_rfl) (by kernel_rfl) (by kernel_rfl) (by rfl) (by first | assumption | decide +kernel) (by decide +kernel) ⟨rfl, rfl, rfl, rfl, rfl, by decide +kernel⟩ ?hw ?hc
  case hw => w_witness2
  case hc =>
    exact walk_U (l := PySem.Challenge.rw_lettergrounds_k45_whole_lines_of_full_st) (t := K45.tp) (ds := K45.ds) (m := 63) (k := 14) (iL := 36) (dL := K45.d_36) (x := "script") K45.all_ok K45.at_all rfl rfl rfl rfl (by decide) (by kernel_rfl) ⟨rfl, by decide, by decide⟩ (by kernel_rfl) K45.law
