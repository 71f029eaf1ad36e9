import PyProof.Rows.All
import Wide.All
import OpenK.AllK
import Wide.FinOn
import HandS.ForMost
import HandS.ForExc
import HandS.Wide
import HandS.TupAny
import HandS.TupMul
import HandS.Style
import HandS.IsInst
import HandS.Conv
import HandS.Flow
import HandS.EndBits
import PySem.Str
import KE.GoesMore
import KE.GoesEnum
import PyProof.Rows.StrMul
import HandS.Head0
import HandS.Head1
import HandS.Head2
import HandS.HeadEnd
import HandS.HeadHook1
import HandS.HeadHook2
import HandS.Defaults
import PySem.Challenge.RW_whatnext_k02_places_and_terms
set_option Elab.async false
set_option linter.all false
set_option maxRecDepth 100000
set_option maxHeartbeats 0
section
/-! Pv: plain values, a store, a small language of programs, and what they come to. No model in sight. -/
namespace Wn
open PySem

inductive PV where
  | non
  | bl (b : Bool)
  | int (i : Int)
  | str (x : Str)
  | tup (xs : List PV)
  | loc (n : Nat)
  /-- a list of numbers that nobody writes -/
  | fl (xs : List Int)
  deriving Inhabited

mutual
def PV.dec : (a b : PV) → Decidable (a = b)
  | .non, .non => Decidable.isTrue rfl
  | .bl a, .bl b => if h : a = b then Decidable.isTrue (by rw [h]) else Decidable.isFalse (by intro e; injection e; contradiction)
  | .int a, .int b => if h : a = b then Decidable.isTrue (by rw [h]) else Decidable.isFalse (by intro e; injection e; contradiction)
  | .str a, .str b => if h : a = b then Decidable.isTrue (by rw [h]) else Decidable.isFalse (by intro e; injection e; contradiction)
  | .loc a, .loc b => if h : a = b then Decidable.isTrue (by rw [h]) else Decidable.isFalse (by intro e; injection e; contradiction)
  | .fl a, .fl b => if h : a = b then Decidable.isTrue (by rw [h]) else Decidable.isFalse (by intro e; injection e; contradiction)
  | .tup a, .tup b => match PV.decL a b with
    | Decidable.isTrue h => Decidable.isTrue (by rw [h])
    | Decidable.isFalse h => Decidable.isFalse (by intro e; injection e; contradiction)
  | .non, .bl _ | .non, .int _ | .non, .str _ | .non, .tup _ | .non, .loc _ | .non, .fl _ => Decidable.isFalse (by intro e; nomatch e)
  | .bl _, .non | .bl _, .int _ | .bl _, .str _ | .bl _, .tup _ | .bl _, .loc _ | .bl _, .fl _ => Decidable.isFalse (by intro e; nomatch e)
  | .int _, .non | .int _, .bl _ | .int _, .str _ | .int _, .tup _ | .int _, .loc _ | .int _, .fl _ => Decidable.isFalse (by intro e; nomatch e)
  | .str _, .non | .str _, .bl _ | .str _, .int _ | .str _, .tup _ | .str _, .loc _ | .str _, .fl _ => Decidable.isFalse (by intro e; nomatch e)
  | .tup _, .non | .tup _, .bl _ | .tup _, .int _ | .tup _, .str _ | .tup _, .loc _ | .tup _, .fl _ => Decidable.isFalse (by intro e; nomatch e)
  | .loc _, .non | .loc _, .bl _ | .loc _, .int _ | .loc _, .str _ | .loc _, .tup _ | .loc _, .fl _ => Decidable.isFalse (by intro e; nomatch e)
  | .fl _, .non | .fl _, .bl _ | .fl _, .int _ | .fl _, .str _ | .fl _, .tup _ | .fl _, .loc _ => Decidable.isFalse (by intro e; nomatch e)
def PV.decL : (a b : List PV) → Decidable (a = b)
  | [], [] => Decidable.isTrue rfl
  | a :: as, b :: bs => match PV.dec a b, PV.decL as bs with
    | Decidable.isTrue h, Decidable.isTrue g => Decidable.isTrue (by rw [h, g])
    | Decidable.isFalse h, _ => Decidable.isFalse (by intro e; injection e; contradiction)
    | _, Decidable.isFalse g => Decidable.isFalse (by intro e; injection e; contradiction)
  | [], _ :: _ => Decidable.isFalse (by intro e; nomatch e)
  | _ :: _, [] => Decidable.isFalse (by intro e; nomatch e)
end
instance : DecidableEq PV := PV.dec

/-- what may change: a list, a dict, an instance -/
inductive MO where
  | lst (xs : List PV)
  | dic (kvs : List (PV × PV))
  | ins (C : Str) (fs : List (Str × PV))
  deriving DecidableEq, Inhabited

abbrev Store := List MO
abbrev Env := List (Option PV)

structure Exn where
  cls : Str
  fs : List (Str × PV)

inductive Res (α : Type) where
  | ok (a : α) (M : Store)
  | err (x : Exn) (M : Store)
  | bad

def Res.bind {α β : Type} : Res α → (α → Store → Res β) → Res β
  | .ok a M, f => f a M
  | .err x M, _ => .err x M
  | .bad, _ => .bad
@[simp] theorem Res.bind_ok {α β : Type} (a : α) (M : Store) (f : α → Store → Res β) : (Res.ok a M).bind f = f a M := rfl
@[simp] theorem Res.bind_err {α β : Type} (x : Exn) (M : Store) (f : α → Store → Res β) : (Res.err x M : Res α).bind f = .err x M := rfl
@[simp] theorem Res.bind_bad {α β : Type} (f : α → Store → Res β) : (Res.bad : Res α).bind f = .bad := rfl

/-! ### the language -/
inductive BOp | add | sub | mul | fdiv | mod | pow
  deriving DecidableEq
inductive COp | eq | ne | lt | le | gt | ge | isin | notin | is_ | isnot
  deriving DecidableEq
/-- built-in functions -/
inductive Bi | len | list | tuple | dict | set | int | max | min | sum | all | any | sorted | str | repr
  deriving DecidableEq
/-- methods of built-in types -/
inductive Bm | append | extend | pop | popAt | clear | count | index | insert | reverse | get | dpop | join | split | partition
  deriving DecidableEq
inductive Ty | str | int | bool | tuple | list | dict | cls (C : Str)
  deriving DecidableEq
/-- a target of a loop -/
inductive Tg | nm (i : Nat) | tup (is : List Nat)
  deriving DecidableEq

mutual
inductive Ex
  | var (i : Nat)
  | int (i : Int)
  | str (x : Str)
  | bl (b : Bool)
  | non
  | glo (x : Str)
  | bin (op : BOp) (a b : Ex)
  | neg (a : Ex)
  | cmp (op : COp) (a b : Ex)
  | chain (o p : COp) (a b c : Ex)
  | and_ (a b : Ex)
  | or_ (a b : Ex)
  | not_ (a : Ex)
  | ite (c a b : Ex)
  | tup (es : Exs)
  | lst (es : Exs)
  | dic (kvs : Exs)
  | idx (a b : Ex)
  | slice (a : Ex) (lo hi : Ox)
  | rev (a : Ex)
  | fld (a : Ex) (f : Str)
  | call (f : Str) (args : Exs)
  | mk (C : Str) (args : Exs)
  | meth (o : Ex) (m : Str) (args : Exs)
  | bi (f : Bi) (args : Exs)
  | bm (m : Bm) (o : Ex) (args : Exs)
  | isi (a : Ex) (t : Ty)
  | lc (elt : Ex) (g : Tg) (it : Ix) (cond : Ox)
inductive Exs
  | nil
  | cons (e : Ex) (es : Exs)
inductive Ox
  | none
  | some (e : Ex)
/-- what is walked -/
inductive Ix
  | of (e : Ex)
  | rng1 (a : Ex)
  | rng2 (a b : Ex)
  | enum (e : Ex)
  | zip (a b : Ex)
end

mutual
inductive S
  | asg (i : Nat) (e : Ex)
  | unp (is : List Nat) (e : Ex)
  | seti (o i e : Ex)
  | setf (o : Ex) (f : Str) (e : Ex)
  /-- what is never come to -/
  | nev
  | ex (e : Ex)
  | ret (e : Ex)
  | retN
  | pass
  | brk
  | cont
  | ifs (c : Ex) (a b : Ss)
  | whl (c : Ex) (b : Ss)
  | for_ (g : Tg) (it : Ix) (b : Ss)
inductive Ss
  | nil
  | cons (s : S) (ss : Ss)
end

/-! ### operations on values -/
def big : Nat := 16777216
/-- a place by an index of any sign -/
def ixOf (n : Nat) (i : Int) : Option Nat := if 0 ≤ i then (if i < n then some i.toNat else none) else if -(n : Int) ≤ i then some (i + n).toNat else none
/-- a slice's bound -/
def cutIx (n d : Nat) : Option Int → Nat
  | none => d
  | some v => if v < 0 then (v + (n : Int)).toNat else min v.toNat n
def cut {α : Type} (xs : List α) (lo hi : Option Int) : List α := (xs.drop (cutIx xs.length 0 lo)).take (cutIx xs.length xs.length hi - cutIx xs.length 0 lo)

def mulOk (i j : Int) : Bool := decide (i.natAbs < 2 ^ 64) || decide (j.natAbs < 2 ^ 64)

def doBin (M : Store) : BOp → PV → PV → Res PV
  | .add, .int a, .int b => .ok (.int (a + b)) M
  | .add, .str a, .str b => if a.length + b.length ≤ big then .ok (.str (a ++ b)) M else .bad
  | .add, .tup a, .tup b => if a.length + b.length ≤ big then .ok (.tup (a ++ b)) M else .bad
  | .add, .loc a, .loc b => match M[a]?, M[b]? with
    | some (.lst xs), some (.lst ys) => if xs.length + ys.length ≤ big then .ok (.loc M.length) (M ++ [.lst (xs ++ ys)]) else .bad
    | _, _ => .bad
  | .sub, .int a, .int b => .ok (.int (a - b)) M
  | .mul, .int a, .int b => if mulOk a b then .ok (.int (a * b)) M else .bad
  | .mul, .loc a, .int k => match M[a]? with
    | some (.lst xs) => if k < 1000 ∧ -1000 < k ∧ xs.length ≤ 1000 then .ok (.loc M.length) (M ++ [.lst (List.replicate k.toNat xs).flatten]) else .bad
    | _ => .bad
  | .mul, .str x, .int k => if k < 1000 ∧ -1000 < k ∧ x.length ≤ 1000 then .ok (.str ⟨(List.replicate k.toNat x.cps.toList).flatten.toArray⟩) M else .bad
  | .fdiv, .int a, .int b => if 0 < b ∧ b ≤ 1000000000000000000000000000000000000000000000000000000000000 then .ok (.int (a / b)) M else .bad
  | .mod, .int a, .int b => if 0 < b then .ok (.int (a % b)) M else .bad
  | .pow, .int a, .int b => if 0 ≤ b ∧ b ≤ 1000000 ∧ a.natAbs < 2 ^ 64 then .ok (.int (a ^ b.toNat)) M else .bad
  | _, _, _ => .bad

/-- what a value tells, with what lies within: truths are numbers -/
inductive DV where
  | non
  | int (i : Int)
  | str (x : Str)
  | tup (xs : List DV)
  | lst (xs : List DV)
  deriving Inhabited
mutual
def DV.dec : (a b : DV) → Decidable (a = b)
  | .non, .non => Decidable.isTrue rfl
  | .int a, .int b => if h : a = b then Decidable.isTrue (by rw [h]) else Decidable.isFalse (by intro e; injection e; contradiction)
  | .str a, .str b => if h : a = b then Decidable.isTrue (by rw [h]) else Decidable.isFalse (by intro e; injection e; contradiction)
  | .tup a, .tup b => match DV.decL a b with
    | Decidable.isTrue h => Decidable.isTrue (by rw [h])
    | Decidable.isFalse h => Decidable.isFalse (by intro e; injection e; contradiction)
  | .lst a, .lst b => match DV.decL a b with
    | Decidable.isTrue h => Decidable.isTrue (by rw [h])
    | Decidable.isFalse h => Decidable.isFalse (by intro e; injection e; contradiction)
  | .non, .int _ | .non, .str _ | .non, .tup _ | .non, .lst _ => Decidable.isFalse (by intro e; nomatch e)
  | .int _, .non | .int _, .str _ | .int _, .tup _ | .int _, .lst _ => Decidable.isFalse (by intro e; nomatch e)
  | .str _, .non | .str _, .int _ | .str _, .tup _ | .str _, .lst _ => Decidable.isFalse (by intro e; nomatch e)
  | .tup _, .non | .tup _, .int _ | .tup _, .str _ | .tup _, .lst _ => Decidable.isFalse (by intro e; nomatch e)
  | .lst _, .non | .lst _, .int _ | .lst _, .str _ | .lst _, .tup _ => Decidable.isFalse (by intro e; nomatch e)
def DV.decL : (a b : List DV) → Decidable (a = b)
  | [], [] => Decidable.isTrue rfl
  | a :: as, b :: bs => match DV.dec a b, DV.decL as bs with
    | Decidable.isTrue h, Decidable.isTrue g => Decidable.isTrue (by rw [h, g])
    | Decidable.isFalse h, _ => Decidable.isFalse (by intro e; injection e; contradiction)
    | _, Decidable.isFalse g => Decidable.isFalse (by intro e; injection e; contradiction)
  | [], _ :: _ => Decidable.isFalse (by intro e; nomatch e)
  | _ :: _, [] => Decidable.isFalse (by intro e; nomatch e)
end
instance : DecidableEq DV := DV.dec
mutual
def DV.deep : DV → Nat
  | .tup xs => DV.deepL xs + 1
  | .lst xs => DV.deepL xs + 1
  | _ => 0
def DV.deepL : List DV → Nat
  | [] => 0
  | x :: xs => max x.deep (DV.deepL xs)
end
/-- read, f telling of places of the store -/
def rdW (f : Nat → Option DV) : PV → Option DV
  | .non => some .non
  | .bl b => some (.int (if b then 1 else 0))
  | .int i => some (.int i)
  | .str x => some (.str x)
  | .tup xs => (rdL f xs).map .tup
  | .loc n => f n
  | .fl _ => none
where rdL (f : Nat → Option DV) : List PV → Option (List DV)
  | [] => some []
  | x :: xs => (rdW f x).bind fun d => (rdL f xs).map fun ds => d :: ds
def rdM (M : Store) : Nat → PV → Option DV
  | 0 => rdW fun _ => none
  | k + 1 => rdW fun n => match M[n]? with
    | some (.lst xs) => (xs.mapM (rdM M k)).map .lst
    | _ => none
/-- == -/
def doEq (M : Store) (a b : PV) : Option Bool :=
  match rdM M 3 a, rdM M 3 b with
  | some d, some e => if min d.deep e.deep ≤ 190 then some (decide (d = e)) else none
  | _, _ => none
def items (M : Store) : PV → Option (List PV)
  | .tup xs => some xs
  | .loc n => match M[n]? with
    | some (.lst xs) => some xs
    | _ => none
  | _ => none
/-- a text's signs -/
def signs (x : Str) : List PV := x.cps.toList.map fun c => .str ⟨#[c]⟩
def anyEq (M : Store) (x : PV) : List PV → Option Bool
  | [] => some false
  | y :: ys => match doEq M y x, anyEq M x ys with
    | some b, some c => some (b || c)
    | _, _ => none
def putD (k v : PV) (kvs : List (PV × PV)) : List (PV × PV) :=
  if (kvs.any fun p => decide (p.1 = k)) = true then kvs.map (fun p => if p.1 = k then (p.1, v) else p) else kvs ++ [(k, v)]
/-- what may be a key here: a number, a text -/
def isKey : PV → Bool
  | .int _ => true
  | .str _ => true
  | _ => false
/-- the texts that hold one another -/
def hasSign (x y : Str) : Option Bool := if x.cps.size = 1 then some (decide (x.cps.toList.getD 0 0 ∈ y.cps.toList)) else none

def doIn (M : Store) (x : PV) : PV → Option Bool
  | .str y => match x with
    | .str z => hasSign z y
    | _ => none
  | .tup ys => anyEq M x ys
  | .loc n => match M[n]? with
    | some (.lst ys) => anyEq M x ys
    | some (.dic kvs) => if isKey x then some (kvs.any fun p => decide (p.1 = x)) else none
    | _ => none
  | _ => none
def doIs : PV → PV → Option Bool
  | a, .non => some (decide (a = .non))
  | .bl a, .bl b => some (decide (a = b))
  | _, _ => none
def doCmp (M : Store) : COp → PV → PV → Option Bool
  | .eq, a, b => doEq M a b
  | .ne, a, b => (doEq M a b).map (!·)
  | .lt, .int a, .int b => some (decide (a < b))
  | .le, .int a, .int b => some (decide (a ≤ b))
  | .gt, .int a, .int b => some (decide (b < a))
  | .ge, .int a, .int b => some (decide (b ≤ a))
  | .isin, a, b => doIn M a b
  | .notin, a, b => (doIn M a b).map (!·)
  | .is_, a, b => doIs a b
  | .isnot, a, b => (doIs a b).map (!·)
  | _, _, _ => none
/-- truth -/
def truth (M : Store) : PV → Option Bool
  | .non => some false
  | .bl b => some b
  | .int i => some (i != 0)
  | .str x => if x.length ≤ big then some (x.length != 0) else none
  | .tup xs => some (!xs.isEmpty)
  | .loc n => match M[n]? with
    | some (.lst xs) => some (!xs.isEmpty)
    | some (.dic kvs) => some (!kvs.isEmpty)
    | _ => none
  | .fl _ => none
def lift {α : Type} (M : Store) : Option α → Res α
  | some a => .ok a M
  | none => .bad
def liftB (M : Store) : Option Bool → Res PV
  | some b => .ok (.bl b) M
  | none => .bad
@[simp] theorem lift_some {α : Type} (M : Store) (a : α) : lift M (some a) = .ok a M := rfl
@[simp] theorem liftB_some (M : Store) (b : Bool) : liftB M (some b) = .ok (.bl b) M := rfl

def doIdx (M : Store) (a b : PV) : Option PV := match a, b with
  | .fl xs, .int i => (ixOf xs.length i).bind fun j => (xs[j]?).map .int
  | .tup xs, .int i => (ixOf xs.length i).bind fun j => xs[j]?
  | .str x, .int i => if x.length ≤ big then (ixOf x.cps.toList.length i).bind fun j => (x.cps.toList[j]?).map fun c => .str ⟨#[c]⟩ else none
  | .loc n, k => match M[n]? with
    | some (.lst xs) => (match k with
      | .int i => (ixOf xs.length i).bind fun j => xs[j]?
      | _ => none)
    | some (.dic kvs) => if isKey k then kvs.lookup k else none
    | _ => none
  | _, _ => none
def doSlice (M : Store) (a : PV) (lo hi : Option Int) : Res PV := match a with
  | .tup xs => .ok (.tup (cut xs lo hi)) M
  | .loc n => match M[n]? with
    | some (.lst xs) => .ok (.loc M.length) (M ++ [.lst (cut xs lo hi)])
    | _ => .bad
  | _ => .bad
def isTy (M : Store) : PV → Ty → Option Bool
  | .non, _ => some false
  | .bl _, .int => some true
  | .bl _, .bool => some true
  | .bl _, _ => some false
  | .int _, .int => some true
  | .int _, _ => some false
  | .str _, .str => some true
  | .str _, _ => some false
  | .tup _, .tuple => some true
  | .tup _, _ => some false
  | .loc n, t => match M[n]? with
    | some (.lst _) => some (decide (t = .list))
    | some (.dic _) => some (decide (t = .dict))
    | _ => none
  | .fl _, _ => none

def bools : List PV → Option (List Bool)
  | [] => some []
  | .bl b :: r => (bools r).map fun bs => b :: bs
  | _ => none
def intsOf : List PV → Option (List Int)
  | [] => some []
  | .int i :: r => (intsOf r).map fun is => i :: is
  | _ => none
/-- pairs, as a dict takes them -/
def pairs : List PV → Option (List (PV × PV))
  | [] => some []
  | .tup [k, v] :: r => if isKey k then (pairs r).map fun ps => (k, v) :: ps else none
  | _ => none
/-- key, value, key, value .. -/
def flatPairs : List PV → Option (List (PV × PV))
  | [] => some []
  | k :: v :: r => if isKey k then (flatPairs r).map fun ps => (k, v) :: ps else none
  | _ => none
def mergeD (acc : List (PV × PV)) : List (PV × PV) → List (PV × PV)
  | [] => acc
  | (k, v) :: r => mergeD (putD k v acc) r

def doBi (M : Store) (f : Bi) (args : List PV) : Res PV := match f, args with
  | .len, [.str x] => if x.length ≤ big then .ok (.int x.length) M else .bad
  | .len, [.tup xs] => .ok (.int xs.length) M
  | .len, [.fl xs] => .ok (.int xs.length) M
  | .len, [.loc n] => (match M[n]? with
    | some (.lst xs) => .ok (.int xs.length) M
    | some (.dic kvs) => .ok (.int kvs.length) M
    | _ => .bad)
  | .list, [x] => (match items M x with
    | some xs => .ok (.loc M.length) (M ++ [.lst xs])
    | none => .bad)
  | .tuple, [x] => (match items M x with
    | some xs => .ok (.tup xs) M
    | none => .bad)
  | .int, [.int i] => .ok (.int i) M
  | .int, [.bl b] => .ok (.int (if b then 1 else 0)) M
  | .max, [.int i, .int j] => .ok (.int (if j > i then j else i)) M
  | .min, [.int i, .int j] => .ok (.int (if j < i then j else i)) M
  | .all, [.loc n] => (match M[n]? with
    | some (.lst xs) => (match bools xs with
      | some bs => .ok (.bl (bs.all id)) M
      | none => .bad)
    | _ => .bad)
  | .any, [.loc n] => (match M[n]? with
    | some (.lst xs) => (match bools xs with
      | some bs => .ok (.bl (bs.any id)) M
      | none => .bad)
    | _ => .bad)
  | .sum, [.loc n] => (match M[n]? with
    | some (.lst xs) => (match intsOf xs with
      | some is => .ok (.int is.sum) M
      | none => .bad)
    | _ => .bad)
  | .dict, [.loc n] => (match M[n]? with
    | some (.lst xs) => (match pairs xs with
      | some ps => .ok (.loc M.length) (M ++ [.dic (mergeD [] ps)])
      | none => .bad)
    | some (.dic kvs) => .ok (.loc M.length) (M ++ [.dic kvs])
    | _ => .bad)
  | _, _ => .bad

def doBm (M : Store) (m : Bm) (o : PV) (args : List PV) : Res PV := match o with
  | .loc n => (match M[n]? with
    | some (.lst xs) => (match m, args with
      | .append, [v] => if xs.length < big then .ok .non (M.set n (.lst (xs ++ [v]))) else .bad
      | .extend, [.loc k] => (match M[k]? with
        | some (.lst ys) => if xs.length + ys.length ≤ big then .ok .non (M.set n (.lst (xs ++ ys))) else .bad
        | _ => .bad)
      | .pop, [] => (match xs[xs.length - 1]? with
        | some y => .ok y (M.set n (.lst xs.dropLast))
        | none => .bad)
      | .clear, [] => .ok .non (M.set n (.lst []))
      | _, _ => .bad)
    | some (.dic kvs) => (match m, args with
      | .get, [k, d] => if isKey k then .ok ((kvs.lookup k).getD d) M else .bad
      | _, _ => .bad)
    | _ => .bad)
  | _ => .bad

/-- the receiver is of the method's kind -/
def bmOk (M : Store) (m : Bm) (o : PV) : Bool := match o with
  | .loc n => (match M[n]? with
    | some (.lst _) => m != .get && m != .dpop
    | some (.dic _) => m == .get || m == .dpop
    | _ => false)
  | _ => false

/-! ### what an expression comes to -/
structure Ctx where
  call : Str → List PV → Store → Res PV
  make : Str → List PV → Store → Res PV
  meth : Str → Str → List PV → Store → Res PV
  glo : Str → Option PV
  wf : Nat

def setTg (g : Tg) (v : PV) (E : Env) : Option Env := match g with
  | .nm i => some (E.set i (some v))
  | .tup is => match v with
    | .tup xs => setAll is xs E
    | _ => none
where setAll : List Nat → List PV → Env → Option Env
  | [], [], E => some E
  | i :: is, x :: xs, E => setAll is xs (E.set i (some x))
  | _, _, _ => none

/-- the list at n stands as it stood -/
abbrev Watch := Option (Nat × List PV)
def Watch.ok (M : Store) : Watch → Bool
  | none => true
  | some (n, xs) => decide (M[n]? = some (.lst xs))

def rangeOf (lo hi : Int) : List PV := (List.range (hi - lo).toNat).map fun (k : Nat) => .int (lo + (k : Int))
/-- so that what is not known is not counted down: a number's size only -/
def inBound : Int → Bool
  | .ofNat n => decide (n < 4611686018427387904)
  | .negSucc n => decide (n < 4611686018427387904)
theorem inBound_iff (i : Int) : inBound i = true ↔ -(2 ^ 62) ≤ i ∧ i < 2 ^ 62 := by
  cases i with
  | ofNat n => simp only [inBound, decide_eq_true_eq]; constructor <;> (intro h; simp at *; omega)
  | negSucc n => simp only [inBound, decide_eq_true_eq]; constructor <;> (intro h; omega)
def enumFrom (k : Nat) : List PV → List PV
  | [] => []
  | x :: xs => .tup [.int (k : Int), x] :: enumFrom (k + 1) xs
def walked (M : Store) : PV → Option (List PV × Watch)
  | .tup xs => some (xs, none)
  | .str x => some (signs x, none)
  | .loc n => match M[n]? with
    | some (.lst xs) => some (xs, some (n, xs))
    | _ => none
  | _ => none
def walkedE (M : Store) : PV → Option (List PV × Watch)
  | .tup xs => some (enumFrom 0 xs, none)
  | .loc n => match M[n]? with
    | some (.lst xs) => some (enumFrom 0 xs, some (n, xs))
    | _ => none
  | _ => none

/-- the turns of a list comprehension -/
def lcGo (w : Watch) (step : PV → Store → Res (Option PV)) : List PV → List PV → Store → Res (List PV)
  | [], acc, M => if w.ok M then .ok acc M else .bad
  | x :: xs, acc, M => if w.ok M && decide (acc.length < big) then (match step x M with
      | .ok (some y) M1 => lcGo w step xs (acc ++ [y]) M1
      | .ok none M1 => lcGo w step xs acc M1
      | _ => .bad) else .bad

mutual
def evE (c : Ctx) : Ex → Env → Store → Res PV
  | .var i, E, M => match E[i]? with
    | some (some v) => .ok v M
    | _ => .bad
  | .int i, _, M => .ok (.int i) M
  | .str x, _, M => .ok (.str x) M
  | .bl b, _, M => .ok (.bl b) M
  | .non, _, M => .ok .non M
  | .glo x, _, M => match c.glo x with
    | some v => .ok v M
    | none => .bad
  | .bin op a b, E, M => (evE c a E M).bind fun x M1 => (evE c b E M1).bind fun y M2 => doBin M2 op x y
  | .neg a, E, M => (evE c a E M).bind fun x M1 => match x with
    | .int i => .ok (.int (-i)) M1
    | _ => .bad
  | .cmp op a b, E, M => (evE c a E M).bind fun x M1 => (evE c b E M1).bind fun y M2 => liftB M2 (doCmp M2 op x y)
  | .chain o p a b d, E, M => (evE c a E M).bind fun x M1 => (evE c b E M1).bind fun y M2 => (lift M2 (doCmp M2 o x y)).bind fun k M3 =>
      if k = true then (evE c d E M3).bind fun z M4 => liftB M4 (doCmp M4 p y z) else .ok (.bl false) M3
  | .and_ a b, E, M => (evE c a E M).bind fun x M1 => match x with
    | .bl true => evE c b E M1
    | .bl false => .ok (.bl false) M1
    | _ => .bad
  | .or_ a b, E, M => (evE c a E M).bind fun x M1 => match x with
    | .bl true => .ok (.bl true) M1
    | .bl false => evE c b E M1
    | _ => .bad
  | .not_ a, E, M => (evE c a E M).bind fun x M1 => match x with
    | .bl b => .ok (.bl (!b)) M1
    | _ => .bad
  | .ite t a b, E, M => (evT c t E M).bind fun k M1 => if k = true then evE c a E M1 else evE c b E M1
  | .tup es, E, M => (evEs c es E M).bind fun xs M1 => if xs.length ≤ big then .ok (.tup xs) M1 else .bad
  | .lst es, E, M => (evEs c es E M).bind fun xs M1 => if xs.length ≤ big then .ok (.loc M1.length) (M1 ++ [.lst xs]) else .bad
  | .dic es, E, M => match evEs c es E M with
    | .ok xs M1 => (match flatPairs xs with
      | some ps => if ps.length ≤ 15 then .ok (.loc M1.length) (M1 ++ [.dic (mergeD [] ps)]) else .bad
      | none => .bad)
    | _ => .bad
  | .idx a b, E, M => (evE c a E M).bind fun x M1 => (evE c b E M1).bind fun y M2 => lift M2 (doIdx M2 x y)
  | .slice a lo hi, E, M => (evE c a E M).bind fun x M1 => (evO c lo E M1).bind fun l M2 => (evO c hi E M2).bind fun h M3 => doSlice M3 x l h
  | .rev a, E, M => (evE c a E M).bind fun x M1 => match x with
    | .tup xs => .ok (.tup xs.reverse) M1
    | .loc n => (match M1[n]? with
      | some (.lst xs) => .ok (.loc M1.length) (M1 ++ [.lst xs.reverse])
      | _ => .bad)
    | _ => .bad
  | .fld a f, E, M => (evE c a E M).bind fun x M1 => match x with
    | .loc n => (match M1[n]? with
      | some (.ins _ fs) => lift M1 (fs.lookup f)
      | _ => .bad)
    | _ => .bad
  | .call f es, E, M => (evEs c es E M).bind fun xs M1 => c.call f xs M1
  | .mk C es, E, M => (evEs c es E M).bind fun xs M1 => c.make C xs M1
  | .meth o m es, E, M => (evE c o E M).bind fun x M1 => match x with
    | .loc n => (match M1[n]? with
      | some (.ins C fs) => (match fs.lookup m with
        | none => (evEs c es E M1).bind fun xs M2 => c.meth C m (.loc n :: xs) M2
        | some _ => .bad)
      | _ => .bad)
    | _ => .bad
  | .bi f es, E, M => (evEs c es E M).bind fun xs M1 => doBi M1 f xs
  | .bm m o es, E, M => (evE c o E M).bind fun x M1 => if bmOk M1 m x then (evEs c es E M1).bind fun xs M2 => doBm M2 m x xs else .bad
  | .isi a t, E, M => (evE c a E M).bind fun x M1 => liftB M1 (isTy M1 x t)
  | .lc elt g it cond, E, M => (evI c it E M).bind fun w M1 => (lcGo w.2 (fun x M => match setTg g x E with
      | some E1 => (evC c cond E1 M).bind fun k M2 => if k = true then (evE c elt E1 M2).bind fun y M3 => .ok (some y) M3 else .ok none M2
      | none => .bad) w.1 [] M1).bind fun ys M2 => .ok (.loc M2.length) (M2 ++ [.lst ys])
/-- as a test -/
def evT (c : Ctx) : Ex → Env → Store → Res Bool
  | .and_ a b, E, M => (evT c a E M).bind fun k M1 => if k = true then evT c b E M1 else .ok false M1
  | .or_ a b, E, M => (evT c a E M).bind fun k M1 => if k = true then .ok true M1 else evT c b E M1
  | .not_ a, E, M => (evT c a E M).bind fun k M1 => .ok (!k) M1
  | .ite t a b, E, M => .bad
  | .var i, E, M => match E[i]? with
    | some (some v) => lift M (truth M v)
    | _ => .bad
  | .cmp op a b, E, M => (evE c a E M).bind fun x M1 => (evE c b E M1).bind fun y M2 => lift M2 (doCmp M2 op x y)
  | .chain o p a b d, E, M => (evE c a E M).bind fun x M1 => (evE c b E M1).bind fun y M2 => (lift M2 (doCmp M2 o x y)).bind fun k M3 =>
      if k = true then (evE c d E M3).bind fun z M4 => lift M4 (doCmp M4 p y z) else .ok false M3
  | .call f es, E, M => (evEs c es E M).bind fun xs M1 => (c.call f xs M1).bind fun x M2 => lift M2 (truth M2 x)
  | .isi a t, E, M => (evE c a E M).bind fun x M1 => lift M1 (isTy M1 x t)
  | .bi f es, E, M => (evEs c es E M).bind fun xs M1 => (doBi M1 f xs).bind fun x M2 => lift M2 (truth M2 x)
  | _, _, _ => .bad
def evEs (c : Ctx) : Exs → Env → Store → Res (List PV)
  | .nil, _, M => .ok [] M
  | .cons e es, E, M => (evE c e E M).bind fun x M1 => (evEs c es E M1).bind fun xs M2 => .ok (x :: xs) M2
/-- a slice's bound -/
def evO (c : Ctx) : Ox → Env → Store → Res (Option Int)
  | .none, _, M => .ok none M
  | .some e, E, M => (evE c e E M).bind fun x M1 => match x with
    | .int i => .ok (some i) M1
    | _ => .bad
/-- a comprehension's test -/
def evC (c : Ctx) : Ox → Env → Store → Res Bool
  | .none, _, M => .ok true M
  | .some e, E, M => evT c e E M
def evI (c : Ctx) : Ix → Env → Store → Res (List PV × Watch)
  | .of e, E, M => (evE c e E M).bind fun x M1 => lift M1 (walked M1 x)
  | .rng1 a, E, M => (evE c a E M).bind fun x M1 => match x with
    | .int i => if inBound i then .ok (rangeOf 0 i, none) M1 else .bad
    | _ => .bad
  | .rng2 a b, E, M => (evE c a E M).bind fun x M1 => (evE c b E M1).bind fun y M2 => match x, y with
    | .int i, .int j => if inBound i && inBound j then .ok (rangeOf i j, none) M2 else .bad
    | _, _ => .bad
  | .enum e, E, M => (evE c e E M).bind fun x M1 => lift M1 (walkedE M1 x)
  | .zip a b, E, M => .bad
end

/-- how a statement ends -/
inductive Fl where
  | nx (E : Env)
  | rt (v : PV)
  | bk (E : Env)
  | ct (E : Env)

def forGo (w : Watch) (step : PV → Env → Store → Res Fl) : List PV → Env → Store → Res Fl
  | [], E, M => if w.ok M then .ok (.nx E) M else .bad
  | x :: xs, E, M => if w.ok M then (step x E M).bind fun fl M1 => (match fl with
      | .nx E1 => forGo w step xs E1 M1
      | .ct E1 => forGo w step xs E1 M1
      | .bk E1 => .ok (.nx E1) M1
      | .rt v => .ok (.rt v) M1) else .bad
def whileGo (test : Env → Store → Res Bool) (step : Env → Store → Res Fl) : Nat → Env → Store → Res Fl
  | 0, _, _ => .bad
  | n + 1, E, M => (test E M).bind fun k M1 => if k = true then (step E M1).bind fun fl M2 => (match fl with
      | .nx E1 => whileGo test step n E1 M2
      | .ct E1 => whileGo test step n E1 M2
      | .bk E1 => .ok (.nx E1) M2
      | .rt v => .ok (.rt v) M2) else .ok (.nx E) M1

mutual
def evS (c : Ctx) : S → Env → Store → Res Fl
  | .asg i e, E, M => (evE c e E M).bind fun x M1 => .ok (.nx (E.set i (some x))) M1
  | .unp is e, E, M => (evE c e E M).bind fun x M1 => match setTg (.tup is) x E with
    | some E1 => .ok (.nx E1) M1
    | none => .bad
  | .seti o i e, E, M => (evE c e E M).bind fun v M1 => (evE c o E M1).bind fun x M2 => (evE c i E M2).bind fun k M3 => match x with
    | .loc n => (match M3[n]? with
      | some (.lst xs) => (match k with
        | .int j => (match ixOf xs.length j with
          | some p => .ok (.nx E) (M3.set n (.lst (xs.set p v)))
          | none => .bad)
        | _ => .bad)
      | some (.dic kvs) => if isKey k && decide (kvs.length < big) then .ok (.nx E) (M3.set n (.dic (putD k v kvs))) else .bad
      | _ => .bad)
    | _ => .bad
  | .setf o f e, E, M => .bad
  | .nev, _, _ => .bad
  | .ex e, E, M => (evE c e E M).bind fun _ M1 => .ok (.nx E) M1
  | .ret e, E, M => (evE c e E M).bind fun x M1 => .ok (.rt x) M1
  | .retN, _, M => .ok (.rt .non) M
  | .pass, E, M => .ok (.nx E) M
  | .brk, E, M => .ok (.bk E) M
  | .cont, E, M => .ok (.ct E) M
  | .ifs t a b, E, M => (evT c t E M).bind fun k M1 => if k = true then evSs c a E M1 else evSs c b E M1
  | .whl t b, E, M => whileGo (fun E M => evT c t E M) (fun E M => evSs c b E M) c.wf E M
  | .for_ g it b, E, M => (evI c it E M).bind fun w M1 => forGo w.2 (fun x E M => match setTg g x E with
      | some E1 => evSs c b E1 M
      | none => .bad) w.1 E M1
def evSs (c : Ctx) : Ss → Env → Store → Res Fl
  | .nil, E, M => .ok (.nx E) M
  | .cons s ss, E, M => (evS c s E M).bind fun fl M1 => match fl with
    | .nx E1 => evSs c ss E1 M1
    | fl => .ok fl M1
end

/-! ### a program -/
structure Fn where
  names : List Str
  np : Nat
  body : Ss
structure Tbl where
  fn : List (Str × Fn)
  glo : List (Str × PV)
  meths : List (Str × List (Str × Fn))

def runFn (c : Ctx) (f : Fn) (args : List PV) (M : Store) : Res PV :=
  if args.length = f.np then (evSs c f.body (args.map some ++ List.replicate (f.names.length - args.length) none) M).bind fun fl M1 => (match fl with
    | .rt v => .ok v M1
    | .nx _ => .ok .non M1
    | _ => .bad) else .bad

def ctx (T : Tbl) (wf : Nat) : Nat → Ctx
  | 0 => ⟨fun _ _ _ => .bad, fun _ _ _ => .bad, fun _ _ _ _ => .bad, fun x => T.glo.lookup x, wf⟩
  | k + 1 => {
    call := fun f args M => match T.fn.lookup f with
      | some fn => runFn (ctx T wf k) fn args M
      | none => .bad
    make := fun C args M => match T.meths.lookup C with
      | some _ => ((ctx T wf k).meth C "__init__" (.loc M.length :: args) (M ++ [.ins C []])).bind fun v M1 => if v = .non then .ok (.loc M.length) M1 else .bad
      | none => .bad
    meth := fun C m args M => match (T.meths.lookup C).bind fun ms => ms.lookup m with
      | some fn => runFn (ctx T wf k) fn args M
      | none => .bad
    glo := fun x => T.glo.lookup x
    wf := wf }
def calls (T : Tbl) (wf k : Nat) (f : Str) (args : List PV) (M : Store) : Res PV := (ctx T wf k).call f args M

end Wn
end
section
/-! So1: plain values over the heap: what stands for what, and that it stays. -/
namespace Wn
open PySem PySem.Spec PyProof.Rows L2

/-- the list at a never changes -/
def Still (K : PySem.W.Frag) (H : Hp) (a : Addr) (xs : List V) : Prop := (∃ o, H a = some (.frz o (.lst xs))) ∨ ∀ H', SqL K H' a xs

mutual
inductive RP (K : PySem.W.Frag) (H : Hp) (ρ : List Addr) : PV → V → Prop
  | non : RP K H ρ .non .non
  | bl (b : Bool) : RP K H ρ (.bl b) (.bl b)
  | int (i : Int) : RP K H ρ (.int i) (.int i)
  | str (x : Str) : RP K H ρ (.str x) (.str x)
  | tup {a : Addr} {vs : List V} {xs : List PV} : SqT K H a vs → RPs K H ρ xs vs → RP K H ρ (.tup xs) (.ref a)
  | loc {n : Nat} {a : Addr} : ρ[n]? = some a → RP K H ρ (.loc n) (.ref a)
  | fl {a : Addr} {xs : List Int} : Still K H a (xs.map V.int) → RP K H ρ (.fl xs) (.ref a)
inductive RPs (K : PySem.W.Frag) (H : Hp) (ρ : List Addr) : List PV → List V → Prop
  | nil : RPs K H ρ [] []
  | cons {x : PV} {v : V} {xs : List PV} {vs : List V} : RP K H ρ x v → RPs K H ρ xs vs → RPs K H ρ (x :: xs) (v :: vs)
end

/-- a key's text or number -/
def keyOf : PV → Option Key
  | .int i => some (.inl i)
  | .str x => some (.inr x)
  | _ => none
inductive RKV (K : PySem.W.Frag) (H : Hp) (ρ : List Addr) : List (PV × PV) → List (Key × V) → Prop
  | nil : RKV K H ρ [] []
  | cons {k : PV} {q : Key} {x : PV} {v : V} {kvs : List (PV × PV)} {us : List (Key × V)} : keyOf k = some q → RP K H ρ x v → RKV K H ρ kvs us → RKV K H ρ ((k, x) :: kvs) ((q, v) :: us)
inductive RFs (K : PySem.W.Frag) (H : Hp) (ρ : List Addr) : List (Str × PV) → List (Str × V) → Prop
  | nil : RFs K H ρ [] []
  | cons {f : Str} {x : PV} {v : V} {fs : List (Str × PV)} {us : List (Str × V)} : RP K H ρ x v → RFs K H ρ fs us → RFs K H ρ ((f, x) :: fs) ((f, v) :: us)

/-- the class's address, by its name -/
def clsAt (mg : Str → Option Value) (C : Str) (a : Addr) : Prop := mg C = some (.ref a)

section
variable (K : PySem.W.Frag) (mg : Str → Option Value)
def OR (H : Hp) (ρ : List Addr) (a : Addr) : MO → Prop
  | .lst xs => ∃ vs, H a = some (.lst vs) ∧ RPs K H ρ xs vs
  | .dic kvs => ∃ us, H a = some (.dK us) ∧ RKV K H ρ kvs us
  | .ins C fs => ∃ Ca dx us, H a = some (.ins Ca dx us) ∧ clsAt mg C Ca ∧ RFs K H ρ fs us
structure SR (H : Hp) (ρ : List Addr) (M : Store) : Prop where
  len : ρ.length = M.length
  nd : ρ.Nodup
  obj : ∀ (n : Nat) (a : Addr) (o : MO), ρ[n]? = some a → M[n]? = some o → OR K mg H ρ a o
end
/-- all else stays, places are only added -/
structure Ext (ρ : List Addr) (H : Hp) (ρ' : List Addr) (H' : Hp) : Prop where
  pre : ∃ τ, ρ' = ρ ++ τ ∧ ∀ a ∈ τ, a ∉ ρ ∧ H a = none
  keep : ∀ (a : Addr) (o : HO), a ∉ ρ → H a = some o → H' a = some o

theorem Ext.refl (ρ : List Addr) (H : Hp) : Ext ρ H ρ H := ⟨⟨[], (List.append_nil _).symm, fun _ h => nomatch h⟩, fun _ _ _ h => h⟩
theorem Ext.back {ρ ρ1 : List Addr} {H H1 : Hp} (a : Ext ρ H ρ1 H1) {c : Addr} (hc : c ∉ ρ) (h : H1 c = none) : H c = none := by
  cases e : H c with
  | none => rfl
  | some o =>
    have := a.keep c o hc e
    rw [h] at this
    cases this
theorem Ext.trans {ρ ρ1 ρ2 : List Addr} {H H1 H2 : Hp} (a : Ext ρ H ρ1 H1) (b : Ext ρ1 H1 ρ2 H2) : Ext ρ H ρ2 H2 := by
  obtain ⟨τ, e1, f1⟩ := a.pre
  obtain ⟨υ, e2, f2⟩ := b.pre
  refine ⟨⟨τ ++ υ, by rw [e2, e1, List.append_assoc], fun c hc => ?_⟩, fun c o hn h => ?_⟩
  · rcases List.mem_append.mp hc with h | h
    · exact f1 c h
    · obtain ⟨g1, g2⟩ := f2 c h
      rw [e1] at g1
      have g3 : c ∉ ρ := fun z => g1 (List.mem_append_left _ z)
      exact ⟨g3, a.back g3 g2⟩
  · by_cases hin : c ∈ τ
    · rw [(f1 c hin).2] at h; cases h
    · exact b.keep c o (by rw [e1]; intro z; rcases List.mem_append.mp z with z | z; exact hn z; exact hin z) (a.keep c o hn h)
theorem Ext.get {ρ ρ' : List Addr} {H H' : Hp} (e : Ext ρ H ρ' H') {n : Nat} {a : Addr} (h : ρ[n]? = some a) : ρ'[n]? = some a := by
  obtain ⟨τ, e1, _⟩ := e.pre
  rw [e1, List.getElem?_append_left]
  · exact h
  · exact (List.getElem?_eq_some_iff.mp h).1

/-! ### what stands for what stays so -/
section
variable {K : PySem.W.Frag} {mg : Str → Option Value} {H H' : Hp} {ρ ρ' : List Addr} {M : Store}

/-- the places of ρ hold what may change -/
def Mv (H : Hp) (ρ : List Addr) : Prop := ∀ a ∈ ρ, ∀ o, H a = some o → (∀ xs, o ≠ .tup xs) ∧ ∀ ob u, o ≠ .frz ob u
theorem SR.mv (S : SR K mg H ρ M) : Mv H ρ := by
  intro a ha o e
  obtain ⟨n, hn⟩ := List.getElem?_of_mem ha
  have hl : n < M.length := by rw [← S.len]; exact (List.getElem?_eq_some_iff.mp hn).1
  have q := S.obj n a M[n] hn (List.getElem?_eq_getElem hl)
  cases hm : M[n] with
  | lst xs =>
    rw [hm] at q
    obtain ⟨vs, h1, _⟩ := q
    rw [e] at h1; cases h1
    exact ⟨fun _ z => (by cases z), fun _ _ z => (by cases z)⟩
  | dic kvs =>
    rw [hm] at q
    obtain ⟨us, h1, _⟩ := q
    rw [e] at h1; cases h1
    exact ⟨fun _ z => (by cases z), fun _ _ z => (by cases z)⟩
  | ins C fs =>
    rw [hm] at q
    obtain ⟨Ca, dx, us, h1, _⟩ := q
    rw [e] at h1; cases h1
    exact ⟨fun _ z => (by cases z), fun _ _ z => (by cases z)⟩

theorem sqT_ext (mv : Mv H ρ) (e : Ext ρ H ρ' H') {a : Addr} {xs : List V} (h : SqT K H a xs) : SqT K H' a xs := by
  rcases h with h | h
  · rcases h with h | ⟨o, h⟩
    · exact Or.inl (Or.inl (e.keep a _ (fun z => (mv a z _ h).1 xs rfl) h))
    · exact Or.inl (Or.inr ⟨o, e.keep a _ (fun z => (mv a z _ h).2 _ _ rfl) h⟩)
  · exact Or.inr h
theorem still_ext (mv : Mv H ρ) (e : Ext ρ H ρ' H') {a : Addr} {xs : List V} (h : Still K H a xs) : Still K H' a xs := by
  rcases h with ⟨o, h⟩ | h
  · exact Or.inl ⟨o, e.keep a _ (fun z => (mv a z _ h).2 _ _ rfl) h⟩
  · exact Or.inr h
theorem Still.sq {a : Addr} {xs : List V} (h : Still K H a xs) : SqL K H a xs := by
  rcases h with ⟨o, h⟩ | h
  · exact Or.inl (Or.inr ⟨o, h⟩)
  · exact h H
mutual
theorem RP.ext (mv : Mv H ρ) (e : Ext ρ H ρ' H') : ∀ {p : PV} {v : V}, RP K H ρ p v → RP K H' ρ' p v
  | _, _, .non => .non
  | _, _, .bl b => .bl b
  | _, _, .int i => .int i
  | _, _, .str x => .str x
  | _, _, .tup h r => .tup (sqT_ext mv e h) (RPs.ext mv e r)
  | _, _, .loc h => .loc (e.get h)
  | _, _, .fl h => .fl (still_ext mv e h)
theorem RPs.ext (mv : Mv H ρ) (e : Ext ρ H ρ' H') : ∀ {ps : List PV} {vs : List V}, RPs K H ρ ps vs → RPs K H' ρ' ps vs
  | _, _, .nil => .nil
  | _, _, .cons h r => .cons (RP.ext mv e h) (RPs.ext mv e r)
end
theorem RKV.ext (mv : Mv H ρ) (e : Ext ρ H ρ' H') : ∀ {ps : List (PV × PV)} {vs : List (Key × V)}, RKV K H ρ ps vs → RKV K H' ρ' ps vs
  | _, _, .nil => .nil
  | _, _, .cons k h r => .cons k (RP.ext mv e h) (RKV.ext mv e r)
theorem RFs.ext (mv : Mv H ρ) (e : Ext ρ H ρ' H') : ∀ {ps : List (Str × PV)} {vs : List (Str × V)}, RFs K H ρ ps vs → RFs K H' ρ' ps vs
  | _, _, .nil => .nil
  | _, _, .cons h r => .cons (RP.ext mv e h) (RFs.ext mv e r)
theorem RPs.length : ∀ {ps : List PV} {vs : List V}, RPs K H ρ ps vs → ps.length = vs.length
  | _, _, .nil => rfl
  | _, _, .cons _ r => by rw [List.length_cons, List.length_cons, RPs.length r]
theorem RPs.get : ∀ {ps : List PV} {vs : List V} (r : RPs K H ρ ps vs) {i : Nat} {p : PV}, ps[i]? = some p → ∃ v, vs[i]? = some v ∧ RP K H ρ p v
  | _, _, .nil, i, p, h => by simp at h
  | _, _, .cons (v := v) h r, 0, p, e => by
    simp at e; subst e
    exact ⟨v, rfl, h⟩
  | _, _, .cons h r, i + 1, p, e => by
    simp only [List.getElem?_cons_succ] at e ⊢
    exact RPs.get r e
theorem RPs.getV : ∀ {ps : List PV} {vs : List V} (r : RPs K H ρ ps vs) {i : Nat} {v : V}, vs[i]? = some v → ∃ p, ps[i]? = some p ∧ RP K H ρ p v
  | _, _, .nil, i, p, h => by simp at h
  | _, _, .cons (x := x) h r, 0, p, e => by
    simp at e; subst e
    exact ⟨x, rfl, h⟩
  | _, _, .cons h r, i + 1, p, e => by
    simp only [List.getElem?_cons_succ] at e ⊢
    exact RPs.getV r e
theorem RPs.append : ∀ {ps qs : List PV} {vs us : List V}, RPs K H ρ ps vs → RPs K H ρ qs us → RPs K H ρ (ps ++ qs) (vs ++ us)
  | _, _, _, _, .nil, r => r
  | _, _, _, _, .cons h r, q => .cons h (RPs.append r q)
theorem RPs.take : ∀ {ps : List PV} {vs : List V} (n : Nat), RPs K H ρ ps vs → RPs K H ρ (ps.take n) (vs.take n)
  | _, _, 0, _ => by rw [List.take_zero, List.take_zero]; exact .nil
  | _, _, n + 1, .nil => by rw [List.take_nil, List.take_nil]; exact .nil
  | _, _, n + 1, .cons h r => by rw [List.take_succ_cons, List.take_succ_cons]; exact .cons h (RPs.take n r)
theorem RPs.drop : ∀ {ps : List PV} {vs : List V} (n : Nat), RPs K H ρ ps vs → RPs K H ρ (ps.drop n) (vs.drop n)
  | _, _, 0, r => r
  | _, _, n + 1, .nil => by rw [List.drop_nil, List.drop_nil]; exact .nil
  | _, _, n + 1, .cons h r => RPs.drop n r
theorem RPs.set : ∀ {ps : List PV} {vs : List V} (n : Nat) {p : PV} {v : V}, RPs K H ρ ps vs → RP K H ρ p v → RPs K H ρ (ps.set n p) (vs.set n v)
  | _, _, _, _, _, .nil, _ => .nil
  | _, _, 0, _, _, .cons h r, q => .cons q r
  | _, _, n + 1, _, _, .cons h r, q => .cons h (RPs.set n r q)
theorem RPs.snoc {ps : List PV} {vs : List V} {p : PV} {v : V} (r : RPs K H ρ ps vs) (h : RP K H ρ p v) : RPs K H ρ (ps ++ [p]) (vs ++ [v]) := r.append (.cons h .nil)
theorem RPs.dropLast {ps : List PV} {vs : List V} (r : RPs K H ρ ps vs) : RPs K H ρ ps.dropLast vs.dropLast := by
  rw [List.dropLast_eq_take, List.dropLast_eq_take, r.length]
  exact r.take _
theorem RPs.reverse : ∀ {ps : List PV} {vs : List V}, RPs K H ρ ps vs → RPs K H ρ ps.reverse vs.reverse
  | _, _, .nil => .nil
  | _, _, .cons h r => by rw [List.reverse_cons, List.reverse_cons]; exact (RPs.reverse r).snoc h
theorem RPs.flat {ps : List PV} {vs : List V} (r : RPs K H ρ ps vs) : ∀ k : Nat, RPs K H ρ (List.replicate k ps).flatten (List.replicate k vs).flatten
  | 0 => .nil
  | k + 1 => by rw [List.replicate_succ, List.replicate_succ, List.flatten_cons, List.flatten_cons]; exact r.append (RPs.flat r k)
theorem RPs.ints : ∀ (ns : List Int), RPs K H ρ (ns.map PV.int) (ns.map V.int)
  | [] => .nil
  | n :: r => .cons (.int n) (RPs.ints r)

/-! ### the store, step by step -/
theorem SR.get (S : SR K mg H ρ M) {n : Nat} {o : MO} (h : M[n]? = some o) : ∃ a, ρ[n]? = some a ∧ OR K mg H ρ a o := by
  have hl : n < ρ.length := by rw [S.len]; exact (List.getElem?_eq_some_iff.mp h).1
  exact ⟨ρ[n], List.getElem?_eq_getElem hl, S.obj n _ o (List.getElem?_eq_getElem hl) h⟩
theorem OR.ext (mv : Mv H ρ) (e : Ext ρ H ρ' H') {a b : Addr} {o : MO} (h : OR K mg H ρ a o) (hb : H' b = H a) : OR K mg H' ρ' b o := by
  cases o with
  | lst xs =>
    obtain ⟨vs, h1, h2⟩ := h
    exact ⟨vs, hb.trans h1, h2.ext mv e⟩
  | dic kvs =>
    obtain ⟨us, h1, h2⟩ := h
    exact ⟨us, hb.trans h1, h2.ext mv e⟩
  | ins C fs =>
    obtain ⟨Ca, dx, us, h1, h2, h3⟩ := h
    exact ⟨Ca, dx, us, hb.trans h1, h2, h3.ext mv e⟩
/-- nothing of ours is touched -/
theorem SR.same (S : SR K mg H ρ M) (e : Ext ρ H ρ H') (h : ∀ a ∈ ρ, H' a = H a) : SR K mg H' ρ M :=
  ⟨S.len, S.nd, fun n a o h1 h2 => (S.obj n a o h1 h2).ext S.mv e (h a (List.mem_of_getElem? h1))⟩
theorem ext_new {p : Addr} {o : HO} (hp : H p = none) : Ext ρ H ρ (upd H p o) :=
  ⟨⟨[], (List.append_nil _).symm, fun _ h => nomatch h⟩, fun a u _ h => by rw [upd_ne (ne_of_none h hp)]; exact h⟩
theorem SR.notin (S : SR K mg H ρ M) {p : Addr} (hp : H p = none) : p ∉ ρ := by
  intro hin
  obtain ⟨n, hn⟩ := List.getElem?_of_mem hin
  have hl : n < M.length := by rw [← S.len]; exact (List.getElem?_eq_some_iff.mp hn).1
  have q := S.obj n p M[n] hn (List.getElem?_eq_getElem hl)
  cases hm : M[n] with
  | lst xs => rw [hm] at q; obtain ⟨vs, h1, _⟩ := q; rw [hp] at h1; cases h1
  | dic xs => rw [hm] at q; obtain ⟨vs, h1, _⟩ := q; rw [hp] at h1; cases h1
  | ins C fs => rw [hm] at q; obtain ⟨Ca, dx, us, h1, _⟩ := q; rw [hp] at h1; cases h1
/-- a new thing that is none of ours (a tuple) -/
theorem SR.new (S : SR K mg H ρ M) {p : Addr} {o : HO} (hp : H p = none) : SR K mg (upd H p o) ρ M :=
  S.same (ext_new hp) fun a ha => upd_ne (fun e => S.notin hp (e ▸ ha))
theorem ext_laid (S : SR K mg H ρ M) {p : Addr} {o : HO} (hp : H p = none) : Ext ρ H (ρ ++ [p]) (upd H p o) :=
  ⟨⟨[p], rfl, fun a h => by cases List.mem_singleton.mp h; exact ⟨S.notin hp, hp⟩⟩, fun a u _ h => by rw [upd_ne (ne_of_none h hp)]; exact h⟩
/-- a new thing of ours -/
theorem SR.laid (S : SR K mg H ρ M) {p : Addr} {o : HO} {m : MO} (hp : H p = none) (new : OR K mg (upd H p o) (ρ ++ [p]) p m) : SR K mg (upd H p o) (ρ ++ [p]) (M ++ [m]) := by
  have e := ext_laid S (o := o) hp
  refine ⟨by rw [List.length_append, List.length_append, S.len]; rfl, ?_, fun n a q h1 h2 => ?_⟩
  · exact List.nodup_append.mpr ⟨S.nd, (List.nodup_cons.mpr ⟨(fun z => nomatch z), List.nodup_nil⟩), fun x hx y hy => by cases List.mem_singleton.mp hy; exact fun z => S.notin hp (z ▸ hx)⟩
  · by_cases hn : n < ρ.length
    · rw [List.getElem?_append_left hn] at h1
      rw [List.getElem?_append_left (by rw [← S.len]; exact hn)] at h2
      exact (S.obj n a q h1 h2).ext S.mv e (upd_ne (fun z => S.notin hp (z ▸ List.mem_of_getElem? h1)))
    · rw [List.getElem?_append_right (by omega)] at h1
      rw [List.getElem?_append_right (by have := S.len; omega)] at h2
      have hk : n - ρ.length = 0 := by
        have := (List.getElem?_eq_some_iff.mp h1).1
        simp at this; omega
      rw [hk] at h1
      rw [← S.len, hk] at h2
      simp at h1 h2
      subst h1 h2
      exact new
theorem loc_new {p : Addr} (S : SR K mg H ρ M) : RP K H' (ρ ++ [p]) (.loc M.length) (.ref p) := by
  refine .loc ?_
  rw [← S.len, List.getElem?_append_right (Nat.le_refl _), Nat.sub_self]
  rfl
theorem ext_put {p : Addr} {o : HO} (hp : p ∈ ρ) : Ext ρ H ρ (upd H p o) :=
  ⟨⟨[], (List.append_nil _).symm, fun _ h => nomatch h⟩, fun a u ha h => by rw [upd_ne (a := p) (b := a) (fun z => ha (by rw [z]; exact hp))]; exact h⟩
theorem nd_get {l : List Addr} (hN : l.Nodup) {i j : Nat} {x : Addr} (a : l[i]? = some x) (b : l[j]? = some x) : i = j := L2.nd_ix hN a b
/-- one of ours is put in another's place -/
theorem SR.put (S : SR K mg H ρ M) {n : Nat} {p : Addr} {o : HO} {m : MO} (hn : ρ[n]? = some p) (new : OR K mg (upd H p o) ρ p m) : SR K mg (upd H p o) ρ (M.set n m) := by
  have hp : p ∈ ρ := List.mem_of_getElem? hn
  have e := ext_put (H := H) (o := o) hp
  refine ⟨by rw [List.length_set]; exact S.len, S.nd, fun k a q h1 h2 => ?_⟩
  by_cases hk : k = n
  · subst hk
    rw [hn] at h1; cases h1
    have hl : k < M.length := by rw [← S.len]; exact (List.getElem?_eq_some_iff.mp hn).1
    rw [List.getElem?_set_self hl] at h2
    cases h2
    exact new
  · rw [List.getElem?_set_ne (fun z => hk z.symm)] at h2
    exact (S.obj k a q h1 h2).ext S.mv e (upd_ne (fun z => hk (nd_get S.nd (z ▸ h1) hn)))
end
end Wn
end
section
/-! So2: readings by the evaluator, and how they are put together. -/
namespace Wn
open PySem PySem.Spec PyProof.Rows L2

/-- the slots -/
def ER (K : PySem.W.Frag) (H : Hp) (ρ : List Addr) (E : Env) (σ : L2.St) : Prop := E.length = σ.length ∧ ∀ (i : Nat) (p : PV), E[i]? = some (some p) → ∃ v, σ[i]? = some (some v) ∧ RP K H ρ p v

theorem ER.ext {K : PySem.W.Frag} {H H' : Hp} {ρ ρ' : List Addr} {E : Env} {σ : L2.St} (mv : Mv H ρ) (e : Ext ρ H ρ' H') (h : ER K H ρ E σ) : ER K H' ρ' E σ :=
  ⟨h.1, fun i p q => by obtain ⟨v, a, b⟩ := h.2 i p q; exact ⟨v, a, b.ext mv e⟩⟩
theorem ER.set {K : PySem.W.Frag} {H : Hp} {ρ : List Addr} {E : Env} {σ : L2.St} (h : ER K H ρ E σ) {p : PV} {v : V} (r : RP K H ρ p v) (i : Nat) : ER K H ρ (E.set i (some p)) (σ.set i (some v)) := by
  refine ⟨by rw [List.length_set, List.length_set]; exact h.1, fun j q e => ?_⟩
  by_cases hj : j = i
  · subst hj
    have hl : j < E.length := by have := (List.getElem?_eq_some_iff.mp e).1; rw [List.length_set] at this; exact this
    rw [List.getElem?_set_self hl] at e
    cases e
    exact ⟨v, List.getElem?_set_self (by rw [← h.1]; exact hl), r⟩
  · rw [List.getElem?_set_ne (fun z => hj z.symm)] at e ⊢
    exact h.2 j q e

/-- what is wanted where an error leaves -/
structure EW where
  p : L2.St → Hp → List Addr → Exn → Store → Prop
  mono : ∀ {σ : L2.St} {H H' : Hp} {ρ ρ' : List Addr} {x : Exn} {M : Store}, Ext ρ H ρ' H' → p σ H ρ x M → p σ H' ρ' x M
def EW.no : EW := ⟨fun _ _ _ _ _ => False, fun _ h => h⟩

section
variable (K : PySem.W.Frag) (mg : Str → Option Value) (W : EW)
def post {α : Type} (σ : L2.St) (H : Hp) (ρ : List Addr) (r : Res α) (G : List Addr → Hp → α → Store → Prop) : Prop := match r with
  | .ok a M' => ∀ ρ' H', Ext ρ H ρ' H' → SR K mg H' ρ' M' → G ρ' H' a M'
  | .err x M' => W.p σ H ρ x M'
  | .bad => False
end
section
variable {K : PySem.W.Frag} {mg : Str → Option Value} {W : EW} {α β : Type} {σ : L2.St} {H H1 : Hp} {ρ ρ1 : List Addr} {r : Res α} {f : α → Store → Res β} {G : List Addr → Hp → β → Store → Prop}
theorem post_ext {G : List Addr → Hp → α → Store → Prop} (e : Ext ρ H ρ1 H1) (h : post K mg W σ H ρ r G) : post K mg W σ H1 ρ1 r G := by
  cases r with
  | ok a M => exact fun ρ' H' e' s => h ρ' H' (e.trans e') s
  | err x M => exact W.mono e h
  | bad => exact h
theorem post_bind (h : post K mg W σ H ρ (r.bind f) G) : post K mg W σ H ρ r (fun ρ1 H1 a M1 => post K mg W σ H1 ρ1 (f a M1) G) := by
  cases r with
  | ok a M => exact fun ρ1 H1 e _ => post_ext e h
  | err x M => exact h
  | bad => exact h
theorem post_imp {G G' : List Addr → Hp → α → Store → Prop} (h : post K mg W σ H ρ r G) (hG : ∀ ρ' H' a M', Ext ρ H ρ' H' → SR K mg H' ρ' M' → G ρ' H' a M' → G' ρ' H' a M') : post K mg W σ H ρ r G' := by
  cases r with
  | ok a M => exact fun ρ' H' e s => hG ρ' H' a M e s (h ρ' H' e s)
  | err x M => exact h
  | bad => exact h
theorem post_ok {a : α} {M : Store} {G : List Addr → Hp → α → Store → Prop} (h : post K mg W σ H ρ (.ok a M) G) (s : SR K mg H ρ M) : G ρ H a M := h ρ H (Ext.refl _ _) s
theorem post_lift {M : Store} {o : Option α} {G : List Addr → Hp → α → Store → Prop} (h : post K mg W σ H ρ (lift M o) G) : ∃ a, o = some a ∧ post K mg W σ H ρ (.ok a M) G := by
  cases o with
  | none => exact h.elim
  | some a => exact ⟨a, rfl, h⟩
end

/-! ### readings -/
section
variable (K : PySem.W.Frag) (mg : Str → Option Value) (W : EW)
/-- of a value -/
def gE (Q : VK) (ρ : List Addr) (H : Hp) (p : PV) (_ : Store) : Prop := ∀ v, RP K H ρ p v → Q v H
def tE (r : Env → Store → Res PV) : TE := fun σ H Q => ∃ ρ E M, ER K H ρ E σ ∧ SR K mg H ρ M ∧ post K mg W σ H ρ (r E M) (gE K Q)
def tT (r : Env → Store → Res Bool) : TT := fun σ H Q => ∃ ρ E M, ER K H ρ E σ ∧ SR K mg H ρ M ∧ post K mg W σ H ρ (r E M) (fun _ H' b _ => Q b H')
def tA (r : Env → Store → Res (List PV)) : TA := fun σ H Q => ∃ ρ E M, ER K H ρ E σ ∧ SR K mg H ρ M ∧ post K mg W σ H ρ (r E M) (fun ρ' H' ps _ => ∀ vs, RPs K H' ρ' ps vs → Q vs H')
def tO (r : Env → Store → Res (Option Int)) : TO := fun σ H Q => ∃ ρ E M, ER K H ρ E σ ∧ SR K mg H ρ M ∧ post K mg W σ H ρ (r E M) (fun _ H' o _ => Q o H')
/-- how a statement ends -/
def gF (D : Ends) (σ : L2.St) (ρ : List Addr) (H : Hp) (fl : Fl) (_ : Store) : Prop := match fl with
  | .nx E' => ∀ σ', ER K H ρ E' σ' → D.nx σ' H
  | .bk E' => ∀ σ', ER K H ρ E' σ' → D.bk σ' H
  | .ct E' => ∀ σ', ER K H ρ E' σ' → D.ct σ' H
  | .rt p => ∀ v, RP K H ρ p v → D.rt v H
end

/-! ### rules weakened -/
section
variable {X : Cx}
theorem pe_imp {e : Expr} {t t' : TE} (h : PE X e t) (i : ∀ σ H Q, t' σ H Q → t σ H Q) : PE X e t' := ⟨fun pins s σ H Q I q => h.run pins s σ H Q I (i σ H Q q)⟩
theorem pt_imp {e : Expr} {t t' : TT} (h : PT X e t) (i : ∀ σ H Q, t' σ H Q → t σ H Q) : PT X e t' := ⟨fun pins s σ H Q I q => h.run pins s σ H Q I (i σ H Q q)⟩
theorem pw_imp {e : Expr} {t t' : TT} (h : PW X e t) (i : ∀ σ H Q, t' σ H Q → t σ H Q) : PW X e t' := ⟨fun w pins s σ H Q I q => h.run w pins s σ H Q I (i σ H Q q)⟩
theorem pa_imp {e : List Expr} {t t' : TA} (h : PA X e t) (i : ∀ σ H Q, t' σ H Q → t σ H Q) : PA X e t' := ⟨fun pos pins s σ H Q I q => h.run pos pins s σ H Q I (i σ H Q q)⟩
theorem po_imp {e : Option Expr} {t t' : TO} (h : PO X e t) (i : ∀ σ H Q, t' σ H Q → t σ H Q) : PO X e t' := ⟨fun pins s σ H Q I q => h.run pins s σ H Q I (i σ H Q q)⟩
theorem ps_imp {e : Stmt} {t t' : TS} (h : PS X e t) (i : ∀ D σ H, t' D σ H → t D σ H) : PS X e t' := ⟨fun pins s σ H D I q => h.run pins s σ H D I (i D σ H q)⟩
theorem pss_imp {e : List Stmt} {t t' : TS} (h : PSs X e t) (i : ∀ D σ H, t' D σ H → t D σ H) : PSs X e t' := ⟨fun pins s σ H D I q => h.run pins s σ H D I (i D σ H q)⟩
theorem pi_imp {tg e : Expr} {t t' : TI} (h : PI X tg e t) (i : ∀ σ H Q, t' σ H Q → t σ H Q) : PI X tg e t' := ⟨fun pins s σ H Q I q => h.run pins s σ H Q I (i σ H Q q)⟩
theorem pe_either {e : Expr} {t u : TE} (h : PE X e t) (g : PE X e u) : PE X e (fun σ H Q => t σ H Q ∨ u σ H Q) := ⟨fun pins s σ H Q I q => q.elim (h.run pins s σ H Q I) (g.run pins s σ H Q I)⟩
theorem pi_either {tg e : Expr} {t u : TI} (h : PI X tg e t) (g : PI X tg e u) : PI X tg e (fun σ H Q => t σ H Q ∨ u σ H Q) := ⟨fun pins s σ H Q I q => q.elim (h.run pins s σ H Q I) (g.run pins s σ H Q I)⟩
theorem opr_imp {f : Value → Value → Sem Value} {r r' : R2} (h : OpR X f r) (i : ∀ x y H Q, r' x y H Q → r x y H Q) : OpR X f r' := fun pins s σ H x y v u Q I a b q => h pins s σ H x y v u Q I a b (i x y H Q q)
theorem ixr_imp {r r' : R2} (h : IxR X r) (i : ∀ x y H Q, r' x y H Q → r x y H Q) : IxR X r' := fun a1 a2 pins s σ H x y v u Q I a b q => h a1 a2 pins s σ H x y v u Q I a b (i x y H Q q)
theorem slr_imp {r r' : V → Option Int → Option Int → Hp → VK → Prop} (h : SlR X r) (i : ∀ x l u H Q, r' x l u H Q → r x l u H Q) : SlR X r' :=
  fun pins s σ H x v vl vu lo hi sl Q I a b c d q => h pins s σ H x v vl vu lo hi sl Q I a b c d (i x lo hi H Q q)
theorem callr_imp {f : Value} {r r' : List V → Hp → VK → Prop} (h : CallR X f r) (i : ∀ xs H Q, r' xs H Q → r xs H Q) : CallR X f r' := fun pins s σ H xs us Q I a q => h pins s σ H xs us Q I a (i xs H Q q)
theorem mtr_imp {f : String} {r r' : V → List V → Hp → VK → Prop} (h : MtR X f r) (i : ∀ x xs H Q, r' x xs H Q → r x xs H Q) : MtR X f r' := fun pins s σ H x xs v us Q I a b q => h pins s σ H x xs v us Q I a b (i x xs H Q q)
theorem pset_imp {r r' : TSet} (h : PSet X r) (i : ∀ o k v H Q, r' o k v H Q → r o k v H Q) : PSet X r' := fun pins s σ H o k v ov kv u Q I a b c q => h pins s σ H o k v ov kv u Q I a b c (i o k v H Q q)
end

/-! ### operations by values: the store as it may be -/
section
variable (K : PySem.W.Frag) (mg : Str → Option Value)
def r2 (f : Store → PV → PV → Res PV) : R2 := fun x y H Q => ∃ ρ M p q, SR K mg H ρ M ∧ RP K H ρ p x ∧ RP K H ρ q y ∧ ∀ σ, post K mg EW.no σ H ρ (f M p q) (gE K Q)
def rL (f : Store → List PV → Res PV) : List V → Hp → VK → Prop := fun xs H Q => ∃ ρ M ps, SR K mg H ρ M ∧ RPs K H ρ ps xs ∧ ∀ σ, post K mg EW.no σ H ρ (f M ps) (gE K Q)
def rM (f : Store → PV → List PV → Res PV) : V → List V → Hp → VK → Prop := fun x xs H Q => ∃ ρ M p ps, SR K mg H ρ M ∧ RP K H ρ p x ∧ RPs K H ρ ps xs ∧ ∀ σ, post K mg EW.no σ H ρ (f M p ps) (gE K Q)
end
/-- an operation lets no error out -/
def NoErr {α : Type} (r : Res α) : Prop := ∀ x M, r ≠ .err x M
theorem post_no {α : Type} {K : PySem.W.Frag} {mg : Str → Option Value} {W W' : EW} {σ σ' : L2.St} {H : Hp} {ρ : List Addr} {r : Res α} {G : List Addr → Hp → α → Store → Prop} (n : NoErr r) (h : post K mg W σ H ρ r G) : post K mg W' σ' H ρ r G := by
  cases r with
  | ok a M => exact h
  | err x M => exact absurd rfl (n x M)
  | bad => exact h

section
variable {X : Cx} {W : EW} {a b c : Expr} {ra rb rc : Env → Store → Res PV} {pos : Pos}

/-- two in a row -/
theorem two {f : PV → PV → Store → Res PV} {σ : L2.St} {H : Hp} {Q : VK} {R : R2}
    (h : tE X.K X.mg W (fun E M => (ra E M).bind fun x M1 => (rb E M1).bind fun y M2 => f x y M2) σ H Q)
    (hR : ∀ ρ H E M p q x y, ER X.K H ρ E σ → SR X.K X.mg H ρ M → RP X.K H ρ p x → RP X.K H ρ q y → post X.K X.mg W σ H ρ (f p q M) (gE X.K Q) → R x y H Q) :
    tE X.K X.mg W ra σ H fun x H1 => tE X.K X.mg W rb σ H1 fun y H2 => R x y H2 Q := by
  obtain ⟨ρ, E, M, er, sr, h⟩ := h
  refine ⟨ρ, E, M, er, sr, post_imp (post_bind h) fun ρ1 H1 p M1 e1 s1 h1 x rx => ?_⟩
  refine ⟨ρ1, E, M1, er.ext sr.mv e1, s1, post_imp (post_bind h1) fun ρ2 H2 q M2 e2 s2 h2 y ry => ?_⟩
  exact hR ρ2 H2 E M2 p q x y ((er.ext sr.mv e1).ext s1.mv e2) s2 (rx.ext s1.mv e2) ry h2
theorem one {f : PV → Store → Res PV} {σ : L2.St} {H : Hp} {Q : VK} {R : V → Hp → VK → Prop}
    (h : tE X.K X.mg W (fun E M => (ra E M).bind fun x M1 => f x M1) σ H Q)
    (hR : ∀ ρ H E M p x, ER X.K H ρ E σ → SR X.K X.mg H ρ M → RP X.K H ρ p x → post X.K X.mg W σ H ρ (f p M) (gE X.K Q) → R x H Q) :
    tE X.K X.mg W ra σ H fun x H1 => R x H1 Q := by
  obtain ⟨ρ, E, M, er, sr, h⟩ := h
  refine ⟨ρ, E, M, er, sr, post_imp (post_bind h) fun ρ1 H1 p M1 e1 s1 h1 x rx => ?_⟩
  exact hR ρ1 H1 E M1 p x (er.ext sr.mv e1) s1 rx h1

/-! ### names, constants -/
theorem e_var {i : Nat} {x : Str} (hN : X.N[i]? = some x) (hv : Vis X.env.scope x) (hd : (x == ("__debug__" : Str)) = false) (hcd : (x == ("__classdict__" : Str)) = false) (c : Ctx) : PE X (.Name x pos) (tE X.K X.mg W (evE c (.var i))) :=
  pe_imp (pe_var hN hv hd hcd) fun σ H Q ⟨ρ, E, M, er, sr, h⟩ => by
    simp only [evE] at h
    split at h
    · rename_i v hv
      obtain ⟨u, hu, ru⟩ := er.2 i v hv
      exact ⟨u, hu, post_ok h sr u ru⟩
    · exact h.elim
theorem e_int {i : Int} {k : Nat} (c : Ctx) : PE X (.Constant (.int i) k pos) (tE X.K X.mg W (evE c (.int i))) :=
  pe_imp pe_int fun σ H Q ⟨ρ, E, M, er, sr, h⟩ => by
    simp only [evE] at h
    exact post_ok h sr _ (.int i)
theorem e_bl {i : Bool} {k : Nat} (c : Ctx) : PE X (.Constant (.bool i) k pos) (tE X.K X.mg W (evE c (.bl i))) :=
  pe_imp pe_bl fun σ H Q ⟨ρ, E, M, er, sr, h⟩ => by
    simp only [evE] at h
    exact post_ok h sr _ (.bl i)
theorem e_str {i : Str} {k : Nat} (c : Ctx) : PE X (.Constant (.str i) k pos) (tE X.K X.mg W (evE c (.str i))) :=
  pe_imp pe_str fun σ H Q ⟨ρ, E, M, er, sr, h⟩ => by
    simp only [evE] at h
    exact post_ok h sr _ (.str i)
theorem e_non {k : Nat} (c : Ctx) : PE X (.Constant .none k pos) (tE X.K X.mg W (evE c .non)) :=
  pe_imp pe_non fun σ H Q ⟨ρ, E, M, er, sr, h⟩ => by
    simp only [evE] at h
    exact post_ok h sr _ .non
/-- a module's constant -/
theorem e_glo {x : Str} {p : PV} {v : V} {u : Value} {c : Ctx} (hg : Gl X x) (hm : X.mg x = some u) (r : RelV v u) (hp : c.glo x = some p) (hr : ∀ H ρ, RP X.K H ρ p v) (hd : (x == ("__debug__" : Str)) = false) :
    PE X (.Name x pos) (tE X.K X.mg W (evE c (.glo x))) :=
  pe_imp (pe_glob hg hm r hd) fun σ H Q ⟨ρ, E, M, er, sr, h⟩ => by
    simp only [evE, hp] at h
    exact post_ok h sr _ (hr H ρ)
/-! ### operators -/
theorem e_bin {op : Operator} {bo : BOp} {ea eb : Ex} {c : Ctx} (ho : OpR X (binaryOp op) (r2 X.K X.mg fun M p q => doBin M bo p q)) (hn : ∀ M p q, NoErr (doBin M bo p q))
    (ha : PE X a (tE X.K X.mg W (evE c ea))) (hb : PE X b (tE X.K X.mg W (evE c eb))) : PE X (.BinOp a op b pos) (tE X.K X.mg W (evE c (.bin bo ea eb))) :=
  pe_imp (pe_op ho ha hb) fun σ H Q h => by
    exact two (ra := evE c ea) (rb := evE c eb) (f := fun x y M2 => doBin M2 bo x y) h fun ρ H E M p q x y er sr rx ry h => ⟨ρ, M, p, q, sr, rx, ry, fun σ' => post_no (hn M p q) h⟩
end
end Wn
end
section
/-! So3: operators on values. -/
namespace Wn
open PySem PySem.Spec PyProof.Rows L2

theorem big_eq : big = sizeLine := by decide
theorem le_big {n : Nat} (h : n ≤ big) : n ≤ sizeLine := big_eq ▸ h
theorem lt_big {n : Nat} (h : n < big) : n < sizeLine := big_eq ▸ h
section
variable {K : PySem.W.Frag} {mg : Str → Option Value} {H : Hp} {ρ : List Addr} {M : Store}
theorem RPs.nilV {ps : List PV} (r : RPs K H ρ ps []) : ps = [] := by cases r; rfl
theorem RPs.nilP {vs : List V} (r : RPs K H ρ [] vs) : vs = [] := by cases r; rfl
/-- a new tuple -/
theorem new_tup {p : Addr} {vs : List V} {ps : List PV} (S : SR K mg H ρ M) (hp : H p = none) (r : RPs K H ρ ps vs) : RP K (upd H p (.tup vs)) ρ (.tup ps) (.ref p) :=
  .tup (SqT.of upd_same) (r.ext S.mv (ext_new hp))
/-- the list of ours at n -/
theorem SR.lst {n : Nat} {a : Addr} {xs : List PV} (S : SR K mg H ρ M) (hn : ρ[n]? = some a) (hm : M[n]? = some (.lst xs)) : ∃ vs, H a = some (.lst vs) ∧ RPs K H ρ xs vs := S.obj n a _ hn hm
theorem SR.dic {n : Nat} {a : Addr} {kvs : List (PV × PV)} (S : SR K mg H ρ M) (hn : ρ[n]? = some a) (hm : M[n]? = some (.dic kvs)) : ∃ us, H a = some (.dK us) ∧ RKV K H ρ kvs us := S.obj n a _ hn hm
theorem or_lst {p : Addr} {vs : List V} {ps : List PV} (S : SR K mg H ρ M) (hp : H p = none) (r : RPs K H ρ ps vs) : OR K mg (upd H p (.lst vs)) (ρ ++ [p]) p (.lst ps) :=
  ⟨vs, upd_same, r.ext S.mv (ext_laid S hp)⟩
/-- a new list -/
theorem lay_lst {W : EW} {σ : L2.St} {Q : VK} {ps : List PV} {vs : List V} (S : SR K mg H ρ M) (r : RPs K H ρ ps vs) (h : post K mg W σ H ρ (.ok (.loc M.length) (M ++ [.lst ps])) (gE K Q)) {p : Addr} (hp : H p = none) : Q (.ref p) (upd H p (.lst vs)) :=
  h _ _ (ext_laid S hp) (S.laid hp (or_lst S hp r)) _ (loc_new S)
theorem lay_tup {W : EW} {σ : L2.St} {Q : VK} {ps : List PV} {vs : List V} (S : SR K mg H ρ M) (r : RPs K H ρ ps vs) (h : post K mg W σ H ρ (.ok (.tup ps) M) (gE K Q)) {p : Addr} (hp : H p = none) : Q (.ref p) (upd H p (.tup vs)) :=
  h _ _ (ext_new hp) (S.new hp) _ (new_tup S hp r)
/-- a list of ours rewritten -/
theorem put_lst {W : EW} {σ : L2.St} {Q : VK} {n : Nat} {a : Addr} {p : PV} {v : V} {ps : List PV} {vs : List V} (S : SR K mg H ρ M) (hn : ρ[n]? = some a) (r : RPs K H ρ ps vs) (rv : RP K H ρ p v)
    (h : post K mg W σ H ρ (.ok p (M.set n (.lst ps))) (gE K Q)) : Q v (upd H a (.lst vs)) :=
  h _ _ (ext_put (List.mem_of_getElem? hn)) (S.put hn ⟨vs, upd_same, r.ext S.mv (ext_put (List.mem_of_getElem? hn))⟩) _ (rv.ext S.mv (ext_put (List.mem_of_getElem? hn)))
end

section
variable {X : Cx}
theorem op_doAdd : OpR X (binaryOp .Add) (r2 X.K X.mg fun M p q => doBin M .add p q) := by
  refine opr_imp (((op_add.or op_add_str).or op_catA).or op_cat) ?_
  rintro x y H Q ⟨ρ, M, p, q, sr, rx, ry, h⟩
  have h := h []
  cases rx with
  | int i => cases ry with
    | int j => exact Or.inl (Or.inl (Or.inl ⟨i, j, rfl, rfl, post_ok h sr _ (.int _)⟩))
    | _ => exact h.elim
  | str i => cases ry with
    | str j =>
      simp only [doBin] at h
      split at h
      · exact Or.inl (Or.inl (Or.inr ⟨i, j, rfl, rfl, le_big ‹_›, post_ok h sr _ (.str _)⟩))
      · exact h.elim
    | _ => exact h.elim
  | @tup a vs ps ha ra => cases ry with
    | @tup b us qs hb rb =>
      simp only [doBin] at h
      split at h
      · rename_i hl
        refine Or.inl (Or.inr ⟨a, b, vs, us, rfl, rfl, ha, hb, ?_, fun e => ?_, fun e f => ?_, fun e f p hp => ?_⟩)
        · rw [← ra.length, ← rb.length]; exact le_big hl
        · subst e
          rw [ra.nilV] at h
          exact post_ok h sr _ (.tup hb rb)
        · subst f
          rw [rb.nilV, List.append_nil] at h
          exact post_ok h sr _ (.tup ha ra)
        · exact lay_tup sr (ra.append rb) h hp
      · exact h.elim
    | _ => exact h.elim
  | @loc n a ha => cases ry with
    | @loc m b hb =>
      simp only [doBin] at h
      split at h
      · rename_i xs ys h1 h2
        split at h
        · rename_i hl
          obtain ⟨vs, e1, r1⟩ := sr.lst ha h1
          obtain ⟨us, e2, r2⟩ := sr.lst hb h2
          exact Or.inr ⟨a, b, vs, us, rfl, rfl, e1, e2, by rw [← r1.length, ← r2.length]; exact le_big hl, fun p hp => lay_lst sr (r1.append r2) h hp⟩
        · exact h.elim
      · exact h.elim
    | _ => exact h.elim
  | _ => exact h.elim
theorem op_doSub : OpR X (binaryOp .Sub) (r2 X.K X.mg fun M p q => doBin M .sub p q) := by
  refine opr_imp op_sub ?_
  rintro x y H Q ⟨ρ, M, p, q, sr, rx, ry, h⟩
  have h := h []
  cases rx with
  | int i => cases ry with
    | int j => exact ⟨i, j, rfl, rfl, post_ok h sr _ (.int _)⟩
    | _ => exact h.elim
  | _ => exact h.elim
theorem mul_ok {i j : Int} (h : mulOk i j = true) : CMul i j := by
  simp only [mulOk, Bool.or_eq_true, decide_eq_true_eq] at h
  rcases h with h | h
  · exact Or.inl (by omega)
  · exact Or.inr (by omega)
theorem op_doFdiv : OpR X (binaryOp .FloorDiv) (r2 X.K X.mg fun M p q => doBin M .fdiv p q) := by
  refine opr_imp op_fdivW ?_
  rintro x y H Q ⟨ρ, M, p, q, sr, rx, ry, h⟩
  have h := h []
  cases rx with
  | int i => cases ry with
    | int j =>
      simp only [doBin] at h
      split at h
      · rename_i hc
        refine ⟨i, j, rfl, rfl, ?_, post_ok h sr _ (.int _)⟩
        have h1 : j.natAbs < 2 ^ 256 := by
          have := hc.2
          omega
        exact wide_div hc.1 h1 (by decide) (by decide)
      · exact h.elim
    | _ => exact h.elim
  | _ => exact h.elim
theorem op_doMod : OpR X (binaryOp .Mod) (r2 X.K X.mg fun M p q => doBin M .mod p q) := by
  refine opr_imp op_mod ?_
  rintro x y H Q ⟨ρ, M, p, q, sr, rx, ry, h⟩
  have h := h []
  cases rx with
  | int i => cases ry with
    | int j =>
      simp only [doBin] at h
      split at h
      · rename_i hc
        exact ⟨i, j, rfl, rfl, hc, post_ok h sr _ (.int _)⟩
      · exact h.elim
    | _ => exact h.elim
  | _ => exact h.elim
theorem op_doPow : OpR X (binaryOp .Pow) (r2 X.K X.mg fun M p q => doBin M .pow p q) := by
  refine opr_imp op_pow ?_
  rintro x y H Q ⟨ρ, M, p, q, sr, rx, ry, h⟩
  have h := h []
  cases rx with
  | int i => cases ry with
    | int j =>
      simp only [doBin] at h
      split at h
      · rename_i hc
        exact ⟨i, j, rfl, rfl, hc, post_ok h sr _ (.int _)⟩
      · exact h.elim
    | _ => exact h.elim
  | _ => exact h.elim
theorem noErr_bin (M : Store) (o : BOp) (p q : PV) : NoErr (doBin M o p q) := by
  intro x M' e
  unfold doBin at e
  repeat' split at e
  all_goals first | cases e | skip
end
end Wn
end
section
/-! So4: == of things, with what lies within. -/
namespace Wn
open PySem PySem.Spec PyProof.Rows L2
open PySem.SeqAt (EqAt RcAt RcNeAt)

mutual
/-- a value of the heap tells d -/
inductive DR (h : Heap) : DV → Value → Prop
  | non : DR h .non .none
  | bool (b : Bool) : DR h (.int (if b then 1 else 0)) (.bool b)
  | int (i : Int) (t : Tok) : DR h (.int i) (.int i t)
  | str (x : Str) (t : Tok) : DR h (.str x) (.str x t)
  | tup {a : Addr} {us : Array Value} {ds : List DV} : h.IsTuple a us → DRs h ds us.toList → DR h (.tup ds) (.ref a)
  | lst {a : Addr} {us : Array Value} {ds : List DV} : h.IsList a us → DRs h ds us.toList → DR h (.lst ds) (.ref a)
inductive DRs (h : Heap) : List DV → List Value → Prop
  | nil : DRs h [] []
  | cons {d : DV} {u : Value} {ds : List DV} {us : List Value} : DR h d u → DRs h ds us → DRs h (d :: ds) (u :: us)
end
theorem DRs.length {h : Heap} : ∀ {ds : List DV} {us : List Value}, DRs h ds us → ds.length = us.length
  | _, _, .nil => rfl
  | _, _, .cons _ r => by rw [List.length_cons, List.length_cons, DRs.length r]

theorem isTuple_inj {h : Heap} {a : Addr} {us ws : Array Value} (p : h.IsTuple a us) (q : h.IsTuple a ws) : us = ws := by
  obtain ⟨o, h1, h2, n, h3⟩ := p
  obtain ⟨o', g1, g2, n', g3⟩ := q
  rw [h1] at g1; cases g1
  rw [h3] at g3; cases g3
  rfl
theorem isList_inj {h : Heap} {a : Addr} {us ws : Array Value} (p : h.IsList a us) (q : h.IsList a ws) : us = ws := by
  obtain ⟨o, h1, h2, n, h3⟩ := p
  obtain ⟨o', g1, g2, n', g3⟩ := q
  rw [h1] at g1; cases g1
  rw [h3] at g3; cases g3
  rfl
theorem tuple_no_list {h : Heap} {a : Addr} {us ws : Array Value} (p : h.IsTuple a us) (q : h.IsList a ws) : False := by
  obtain ⟨o, h1, h2, n, h3⟩ := p
  obtain ⟨o', g1, g2, n', g3⟩ := q
  rw [h1] at g1; cases g1
  rw [h2] at g2
  exact absurd g2 (by decide)
mutual
theorem DR.inj {h : Heap} : ∀ {d e : DV} {u : Value}, DR h d u → DR h e u → d = e
  | _, _, _, .non, .non => rfl
  | _, _, _, .bool b, .bool _ => rfl
  | _, _, _, .int i t, .int _ _ => rfl
  | _, _, _, .str i t, .str _ _ => rfl
  | _, _, _, .tup p r, .tup q s => by
    have e := isTuple_inj p q
    subst e
    rw [DRs.inj r s]
  | _, _, _, .tup p r, .lst q s => (tuple_no_list p q).elim
  | _, _, _, .lst p r, .tup q s => (tuple_no_list q p).elim
  | _, _, _, .lst p r, .lst q s => by
    have e := isList_inj p q
    subst e
    rw [DRs.inj r s]
theorem DRs.inj {h : Heap} : ∀ {d e : List DV} {u : List Value}, DRs h d u → DRs h e u → d = e
  | _, _, _, .nil, .nil => rfl
  | _, _, _, .cons p r, .cons q s => by rw [DR.inj p q, DRs.inj r s]
end

theorem _root_.PySem.SeqAt.EqAt.to {A : Around} {s : Shared} {u v : Value} {b b' : Bool} (h : EqAt A s u v b) (e : b = b') : EqAt A s u v b' := e ▸ h
theorem _root_.PySem.SeqAt.RcAt.to {A : Around} {s : Shared} {u v : Value} {b b' : Bool} (h : RcAt A s u v b) (e : b = b') : RcAt A s u v b' := e ▸ h
theorem _root_.PySem.SeqAt.RcNeAt.to {A : Around} {s : Shared} {u v : Value} {b b' : Bool} (h : RcNeAt A s u v b) (e : b = b') : RcNeAt A s u v b' := e ▸ h
abbrev at2 (xs ys : List DV) (j : Nat) : Bool := decide (xs.getD j .non = ys.getD j .non)
theorem all_at2 : ∀ xs ys : List DV, ((List.range (min xs.length ys.length)).all (at2 xs ys) && xs.length == ys.length) = decide (xs = ys)
  | [], [] => rfl
  | [], y :: ys => by simp
  | x :: xs, [] => by simp
  | x :: xs, y :: ys => by
    have ih := all_at2 xs ys
    have e1 : min (x :: xs).length (y :: ys).length = min xs.length ys.length + 1 := by simp only [List.length_cons]; omega
    rw [e1, List.range_succ_eq_map, List.all_cons, List.all_map]
    have e2 : (at2 (x :: xs) (y :: ys) ∘ Nat.succ) = at2 xs ys := by funext j; simp [at2]
    have e3 : ((x :: xs).length == (y :: ys).length) = (xs.length == ys.length) := by simp
    rw [e2, e3, Bool.and_assoc, ih]
    by_cases h1 : x = y <;> by_cases h2 : xs = ys <;> simp [at2, h1, h2]
theorem all_same {xs ys : List DV} (h : xs.length = ys.length) : (List.range xs.length).all (at2 xs ys) = decide (xs = ys) := by
  have := all_at2 xs ys
  rw [h, Nat.min_self, beq_self_eq_true, Bool.and_true] at this
  rw [h]; exact this
theorem not_same {xs ys : List DV} (h : xs.length ≠ ys.length) : decide (xs = ys) = false := decide_eq_false fun e => h (by rw [e])

theorem rm_here {u a b : Nat} (h : u + min a b < cLine) : u < cLine := by omega
theorem rm_in {u a b : Nat} (h : u + min (a + 1) (b + 1) < cLine) : u + 1 + min a b < cLine := by omega
theorem rm_head {u a b c d : Nat} (h : u + min (max a b) (max c d) < cLine) : u + min a c < cLine := by omega
theorem rm_tail {u a b c d : Nat} (h : u + min (max a b) (max c d) < cLine) : u + min b d < cLine := by omega
theorem dec_i (a b : Int) : (a == b) = decide (DV.int a = DV.int b) := by by_cases h : a = b <;> simp [h]
theorem dec_s (a b : Str) : (a == b) = decide (DV.str a = DV.str b) := by by_cases h : a = b <;> simp [h]
theorem dec_t (a b : List DV) : decide (a = b) = decide (DV.tup a = DV.tup b) := by by_cases h : a = b <;> simp [h]
theorem dec_l (a b : List DV) : decide (a = b) = decide (DV.lst a = DV.lst b) := by by_cases h : a = b <;> simp [h]
theorem dec_b (a b : Bool) : (a == b) = decide (DV.int (if a then 1 else 0) = DV.int (if b then 1 else 0)) := by cases a <;> cases b <;> rfl
theorem dec_no {a b : DV} (h : a ≠ b) : false = decide (a = b) := (decide_eq_false h).symm

mutual
theorem eqAt_D {A : Around} {s : Shared} : ∀ (x y : DV) (A : Around) (a b : Value), DR s.heap x a → DR s.heap y b → A.units + min x.deep y.deep < cLine → EqAt A s a b (decide (x = y))
  | .non, _, A, _, _, ra, rb, hu => by
    cases ra
    cases rb with
    | non => exact EqAt.same _
    | bool c => exact (EqAt.none_bool _).to (dec_no (fun z => nomatch z))
    | int y u => exact (EqAt.none_int y u).to (dec_no (fun z => nomatch z))
    | str y u => exact (EqAt.none_str y u).to (dec_no (fun z => nomatch z))
    | tup k1 k2 => exact (EqAt.none_tuple k1 (rm_here hu)).to (dec_no (fun z => nomatch z))
    | lst k1 k2 => exact (EqAt.none_list k1 (rm_here hu)).to (dec_no (fun z => nomatch z))
  | .int i, _, A, _, _, ra, rb, hu => by
    cases ra with
    | bool c =>
      cases rb with
      | non => exact (EqAt.bool_none c).to (dec_no (fun z => nomatch z))
      | bool d => exact (EqAt.bool_bool c d).to (dec_b c d)
      | int y u => exact (EqAt.bool_int c y u).to (dec_i _ _)
      | str y u => exact (EqAt.bool_str c y u).to (dec_no (fun z => nomatch z))
      | tup k1 k2 => exact (EqAt.bool_tuple c k1 (rm_here hu)).to (dec_no (fun z => nomatch z))
      | lst k1 k2 => exact (EqAt.bool_list c k1 (rm_here hu)).to (dec_no (fun z => nomatch z))
    | int _ t =>
      cases rb with
      | non => exact (EqAt.int_none i t).to (dec_no (fun z => nomatch z))
      | bool d => exact (EqAt.int_bool i t d).to (dec_i _ _)
      | int y u => exact (EqAt.int_int i t y u).to (dec_i _ _)
      | str y u => exact (EqAt.int_str i t y u).to (dec_no (fun z => nomatch z))
      | tup k1 k2 => exact (EqAt.int_tuple i t k1 (rm_here hu)).to (dec_no (fun z => nomatch z))
      | lst k1 k2 => exact (EqAt.int_list i t k1 (rm_here hu)).to (dec_no (fun z => nomatch z))
  | .str i, _, A, _, _, ra, rb, hu => by
    cases ra with
    | str _ t =>
      cases rb with
      | non => exact (EqAt.str_none i t).to (dec_no (fun z => nomatch z))
      | bool d => exact (EqAt.str_bool i t d).to (dec_no (fun z => nomatch z))
      | int y u => exact (EqAt.str_int i t y u).to (dec_no (fun z => nomatch z))
      | str y u => exact (EqAt.str_str i t y u).to (dec_s _ _)
      | tup k1 k2 => exact (EqAt.str_tuple i t k1 (rm_here hu)).to (dec_no (fun z => nomatch z))
      | lst k1 k2 => exact (EqAt.str_list i t k1 (rm_here hu)).to (dec_no (fun z => nomatch z))
  | .tup xs, _, A, _, _, ra, rb, hu => by
    cases ra with
    | @tup l us _ h1 h2 =>
      cases rb with
      | non => exact (EqAt.tuple_none h1 (rm_here hu)).to (dec_no (fun z => nomatch z))
      | bool d => exact (EqAt.tuple_bool d h1 (rm_here hu)).to (dec_no (fun z => nomatch z))
      | int y u => exact (EqAt.tuple_int y u h1 (rm_here hu)).to (dec_no (fun z => nomatch z))
      | str y u => exact (EqAt.tuple_str y u h1 (rm_here hu)).to (dec_no (fun z => nomatch z))
      | lst k1 k2 => exact (EqAt.tuple_list h1 k1 (rm_here hu)).to (dec_no (fun z => nomatch z))
      | @tup m ws ys k1 k2 =>
        refine EqAt.to ?_ (dec_t xs ys)
        by_cases hlm : l = m
        · subst hlm
          have e := isTuple_inj h1 k1
          subst e
          rw [h2.inj k2]
          exact (EqAt.same _).to (decide_eq_true rfl).symm
        · have n1 : us.size = xs.length := by rw [h2.length]; simp
          have n2 : ws.size = ys.length := by rw [k2.length]; simp
          rw [← all_at2 xs ys, ← n1, ← n2]
          refine EqAt.of_refs hlm (RcAt.tuples h1 k1 (rm_here hu) fun j j1 j2 => ?_)
          have := eqAt_Ds (A := A.in1) xs ys A.in1 us.toList ws.toList h2 k2 (rm_in hu) j (by simpa using j1) (by simpa using j2)
          simpa using this
  | .lst xs, _, A, _, _, ra, rb, hu => by
    cases ra with
    | @lst l us _ h1 h2 =>
      cases rb with
      | non => exact (EqAt.list_none h1 (rm_here hu)).to (dec_no (fun z => nomatch z))
      | bool d => exact (EqAt.list_bool d h1 (rm_here hu)).to (dec_no (fun z => nomatch z))
      | int y u => exact (EqAt.list_int y u h1 (rm_here hu)).to (dec_no (fun z => nomatch z))
      | str y u => exact (EqAt.list_str y u h1 (rm_here hu)).to (dec_no (fun z => nomatch z))
      | tup k1 k2 => exact (EqAt.list_tuple h1 k1 (rm_here hu)).to (dec_no (fun z => nomatch z))
      | @lst m ws ys k1 k2 =>
        refine EqAt.to ?_ (dec_l xs ys)
        by_cases hlm : l = m
        · subst hlm
          have e := isList_inj h1 k1
          subst e
          rw [h2.inj k2]
          exact (EqAt.same _).to (decide_eq_true rfl).symm
        · have n1 : us.size = xs.length := by rw [h2.length]; simp
          have n2 : ws.size = ys.length := by rw [k2.length]; simp
          have he : ∀ j (j1 : j < us.size) (j2 : j < ws.size), EqAt A.in1 s us[j] ws[j] (at2 xs ys j) := fun j j1 j2 => by
            have := eqAt_Ds (A := A.in1) xs ys A.in1 us.toList ws.toList h2 k2 (rm_in hu) j (by simpa using j1) (by simpa using j2)
            simpa using this
          by_cases hsz : us.size = ws.size
          · rw [← all_same (by omega : xs.length = ys.length), ← n1]
            exact EqAt.of_refs hlm (RcAt.lists h1 k1 hsz (rm_here hu) he)
          · rw [not_same (by omega : xs.length ≠ ys.length)]
            exact EqAt.of_refs hlm (RcAt.lists_lengths h1 k1 (by simpa using hsz) (rm_here hu))
theorem eqAt_Ds {A : Around} {s : Shared} : ∀ (xs ys : List DV) (A : Around) (vs ws : List Value), DRs s.heap xs vs → DRs s.heap ys ws → A.units + min (DV.deepL xs) (DV.deepL ys) < cLine →
    ∀ j (h1 : j < vs.length) (h2 : j < ws.length), EqAt A s vs[j] ws[j] (at2 xs ys j)
  | [], _, _, _, _, ra, _, _, j, h1, _ => by cases ra; exact absurd h1 (Nat.not_lt_zero _)
  | _ :: _, [], _, _, _, _, rb, _, j, _, h2 => by cases rb; exact absurd h2 (Nat.not_lt_zero _)
  | x :: xs, y :: ys, A, _, _, ra, rb, hu, j, h1, h2 => by
    cases ra with
    | cons r rs =>
      cases rb with
      | cons r' rs' =>
        cases j with
        | zero => exact eqAt_D (A := A) x y A _ _ r r' (rm_head hu)
        | succ j =>
          have := eqAt_Ds (A := A) xs ys A _ _ rs rs' (rm_tail hu) j (by simpa using h1) (by simpa using h2)
          simpa [at2] using this
end
section
variable {A : Around} {s : Shared} {x y : DV} {a b : Value}
theorem items_at {xs ys : List DV} {us ws : Array Value} (h2 : DRs s.heap xs us.toList) (k2 : DRs s.heap ys ws.toList) (hu : A.units + min (DV.deepL xs + 1) (DV.deepL ys + 1) < cLine) :
    ∀ j (j1 : j < us.size) (j2 : j < ws.size), EqAt A.in1 s us[j] ws[j] (at2 xs ys j) := fun j j1 j2 => by
  have := eqAt_Ds (A := A.in1) xs ys A.in1 us.toList ws.toList h2 k2 (rm_in hu) j (by simpa using j1) (by simpa using j2)
  simpa using this
theorem rcAt_D (ra : DR s.heap x a) (rb : DR s.heap y b) (hu : A.units + min x.deep y.deep < cLine) : RcAt A s a b (decide (x = y)) := by
  cases ra with
  | non =>
    cases rb with
    | non => exact RcAt.none_none
    | bool c => exact (RcAt.none_bool _).to (dec_no (fun z => nomatch z))
    | int y u => exact (RcAt.none_int y u).to (dec_no (fun z => nomatch z))
    | str y u => exact (RcAt.none_str y u).to (dec_no (fun z => nomatch z))
    | tup k1 k2 => exact (RcAt.none_tuple k1 (rm_here hu)).to (dec_no (fun z => nomatch z))
    | lst k1 k2 => exact (RcAt.none_list k1 (rm_here hu)).to (dec_no (fun z => nomatch z))
  | bool c =>
    cases rb with
    | non => exact (RcAt.bool_none c).to (dec_no (fun z => nomatch z))
    | bool d => exact (RcAt.bool_bool c d).to (dec_b c d)
    | int y u => exact (RcAt.bool_int c y u).to (dec_i _ _)
    | str y u => exact (RcAt.bool_str c y u).to (dec_no (fun z => nomatch z))
    | tup k1 k2 => exact (RcAt.bool_tuple c k1 (rm_here hu)).to (dec_no (fun z => nomatch z))
    | lst k1 k2 => exact (RcAt.bool_list c k1 (rm_here hu)).to (dec_no (fun z => nomatch z))
  | int i t =>
    cases rb with
    | non => exact (RcAt.int_none i t).to (dec_no (fun z => nomatch z))
    | bool d => exact (RcAt.int_bool i t d).to (dec_i _ _)
    | int y u => exact (RcAt.int_int i t y u).to (dec_i _ _)
    | str y u => exact (RcAt.int_str i t y u).to (dec_no (fun z => nomatch z))
    | tup k1 k2 => exact (RcAt.int_tuple i t k1 (rm_here hu)).to (dec_no (fun z => nomatch z))
    | lst k1 k2 => exact (RcAt.int_list i t k1 (rm_here hu)).to (dec_no (fun z => nomatch z))
  | str i t =>
    cases rb with
    | non => exact (RcAt.str_none i t).to (dec_no (fun z => nomatch z))
    | bool d => exact (RcAt.str_bool i t d).to (dec_no (fun z => nomatch z))
    | int y u => exact (RcAt.str_int i t y u).to (dec_no (fun z => nomatch z))
    | str y u => exact (RcAt.str_str i t y u).to (dec_s _ _)
    | tup k1 k2 => exact (RcAt.str_tuple i t k1 (rm_here hu)).to (dec_no (fun z => nomatch z))
    | lst k1 k2 => exact (RcAt.str_list i t k1 (rm_here hu)).to (dec_no (fun z => nomatch z))
  | @tup l us xs h1 h2 =>
    cases rb with
    | non => exact (RcAt.tuple_none h1 (rm_here hu)).to (dec_no (fun z => nomatch z))
    | bool d => exact (RcAt.tuple_bool d h1 (rm_here hu)).to (dec_no (fun z => nomatch z))
    | int y u => exact (RcAt.tuple_int y u h1 (rm_here hu)).to (dec_no (fun z => nomatch z))
    | str y u => exact (RcAt.tuple_str y u h1 (rm_here hu)).to (dec_no (fun z => nomatch z))
    | lst k1 k2 => exact (RcAt.tuple_list h1 k1 (rm_here hu)).to (dec_no (fun z => nomatch z))
    | @tup m ws ys k1 k2 =>
      refine RcAt.to ?_ (dec_t xs ys)
      have n1 : us.size = xs.length := by rw [h2.length]; simp
      have n2 : ws.size = ys.length := by rw [k2.length]; simp
      rw [← all_at2 xs ys, ← n1, ← n2]
      exact RcAt.tuples h1 k1 (rm_here hu) (items_at h2 k2 hu)
  | @lst l us xs h1 h2 =>
    cases rb with
    | non => exact (RcAt.list_none h1 (rm_here hu)).to (dec_no (fun z => nomatch z))
    | bool d => exact (RcAt.list_bool d h1 (rm_here hu)).to (dec_no (fun z => nomatch z))
    | int y u => exact (RcAt.list_int y u h1 (rm_here hu)).to (dec_no (fun z => nomatch z))
    | str y u => exact (RcAt.list_str y u h1 (rm_here hu)).to (dec_no (fun z => nomatch z))
    | tup k1 k2 => exact (RcAt.list_tuple h1 k1 (rm_here hu)).to (dec_no (fun z => nomatch z))
    | @lst m ws ys k1 k2 =>
      refine RcAt.to ?_ (dec_l xs ys)
      have n1 : us.size = xs.length := by rw [h2.length]; simp
      have n2 : ws.size = ys.length := by rw [k2.length]; simp
      by_cases hsz : us.size = ws.size
      · rw [← all_same (by omega : xs.length = ys.length), ← n1]
        exact RcAt.lists h1 k1 hsz (rm_here hu) (items_at h2 k2 hu)
      · rw [not_same (by omega : xs.length ≠ ys.length)]
        exact RcAt.lists_lengths h1 k1 (by simpa using hsz) (rm_here hu)
theorem nd_no {a b : DV} (h : a ≠ b) : true = !decide (a = b) := by rw [decide_eq_false h]; rfl
theorem rcNeAt_D (ra : DR s.heap x a) (rb : DR s.heap y b) (hu : A.units + min x.deep y.deep < cLine) : RcNeAt A s a b (!decide (x = y)) := by
  cases ra with
  | non =>
    cases rb with
    | non => exact RcNeAt.none_none
    | bool c => exact (RcNeAt.none_bool _).to (nd_no (fun z => nomatch z))
    | int y u => exact (RcNeAt.none_int y u).to (nd_no (fun z => nomatch z))
    | str y u => exact (RcNeAt.none_str y u).to (nd_no (fun z => nomatch z))
    | tup k1 k2 => exact (RcNeAt.none_tuple k1 (rm_here hu)).to (nd_no (fun z => nomatch z))
    | lst k1 k2 => exact (RcNeAt.none_list k1 (rm_here hu)).to (nd_no (fun z => nomatch z))
  | bool c =>
    cases rb with
    | non => exact (RcNeAt.bool_none c).to (nd_no (fun z => nomatch z))
    | bool d => exact (RcNeAt.bool_bool c d).to (by rw [← dec_b])
    | int y u => exact (RcNeAt.bool_int c y u).to (by rw [← dec_i])
    | str y u => exact (RcNeAt.bool_str c y u).to (nd_no (fun z => nomatch z))
    | tup k1 k2 => exact (RcNeAt.bool_tuple c k1 (rm_here hu)).to (nd_no (fun z => nomatch z))
    | lst k1 k2 => exact (RcNeAt.bool_list c k1 (rm_here hu)).to (nd_no (fun z => nomatch z))
  | int i t =>
    cases rb with
    | non => exact (RcNeAt.int_none i t).to (nd_no (fun z => nomatch z))
    | bool d => exact (RcNeAt.int_bool i t d).to (by rw [← dec_i])
    | int y u => exact (RcNeAt.int_int i t y u).to (by rw [← dec_i])
    | str y u => exact (RcNeAt.int_str i t y u).to (nd_no (fun z => nomatch z))
    | tup k1 k2 => exact (RcNeAt.int_tuple i t k1 (rm_here hu)).to (nd_no (fun z => nomatch z))
    | lst k1 k2 => exact (RcNeAt.int_list i t k1 (rm_here hu)).to (nd_no (fun z => nomatch z))
  | str i t =>
    cases rb with
    | non => exact (RcNeAt.str_none i t).to (nd_no (fun z => nomatch z))
    | bool d => exact (RcNeAt.str_bool i t d).to (nd_no (fun z => nomatch z))
    | int y u => exact (RcNeAt.str_int i t y u).to (nd_no (fun z => nomatch z))
    | str y u => exact (RcNeAt.str_str i t y u).to (by rw [← dec_s])
    | tup k1 k2 => exact (RcNeAt.str_tuple i t k1 (rm_here hu)).to (nd_no (fun z => nomatch z))
    | lst k1 k2 => exact (RcNeAt.str_list i t k1 (rm_here hu)).to (nd_no (fun z => nomatch z))
  | @tup l us xs h1 h2 =>
    cases rb with
    | non => exact (RcNeAt.tuple_none h1 (rm_here hu)).to (nd_no (fun z => nomatch z))
    | bool d => exact (RcNeAt.tuple_bool d h1 (rm_here hu)).to (nd_no (fun z => nomatch z))
    | int y u => exact (RcNeAt.tuple_int y u h1 (rm_here hu)).to (nd_no (fun z => nomatch z))
    | str y u => exact (RcNeAt.tuple_str y u h1 (rm_here hu)).to (nd_no (fun z => nomatch z))
    | lst k1 k2 => exact (RcNeAt.tuple_list h1 k1 (rm_here hu)).to (nd_no (fun z => nomatch z))
    | @tup m ws ys k1 k2 =>
      rw [← dec_t]
      have n1 : us.size = xs.length := by rw [h2.length]; simp
      have n2 : ws.size = ys.length := by rw [k2.length]; simp
      rw [← all_at2 xs ys, ← n1, ← n2]
      exact RcNeAt.tuples h1 k1 (rm_here hu) (items_at h2 k2 hu)
  | @lst l us xs h1 h2 =>
    cases rb with
    | non => exact (RcNeAt.list_none h1 (rm_here hu)).to (nd_no (fun z => nomatch z))
    | bool d => exact (RcNeAt.list_bool d h1 (rm_here hu)).to (nd_no (fun z => nomatch z))
    | int y u => exact (RcNeAt.list_int y u h1 (rm_here hu)).to (nd_no (fun z => nomatch z))
    | str y u => exact (RcNeAt.list_str y u h1 (rm_here hu)).to (nd_no (fun z => nomatch z))
    | tup k1 k2 => exact (RcNeAt.list_tuple h1 k1 (rm_here hu)).to (nd_no (fun z => nomatch z))
    | @lst m ws ys k1 k2 =>
      rw [← dec_l]
      have n1 : us.size = xs.length := by rw [h2.length]; simp
      have n2 : ws.size = ys.length := by rw [k2.length]; simp
      by_cases hsz : us.size = ws.size
      · rw [← all_same (by omega : xs.length = ys.length), ← n1]
        exact RcNeAt.lists h1 k1 hsz (rm_here hu) (items_at h2 k2 hu)
      · rw [not_same (by omega : xs.length ≠ ys.length)]
        exact RcNeAt.lists_lengths h1 k1 (by simpa using hsz) (rm_here hu)
end
end Wn
end
section
/-! So5: comparisons of values. -/
namespace Wn
open PySem PySem.Spec PyProof.Rows L2
open PySem.SeqAt (EqAt RcAt RcNeAt)

section
variable {X : Cx} {pins : List (Addr × Obj)} {σ : L2.St} {H : Hp} {s : Shared} {ρ : List Addr} {M : Store}
mutual
theorem rdW_DR (I : Inv X pins σ H s) {f : Nat → Option DV} (hf : ∀ n a d, ρ[n]? = some a → f n = some d → DR s.heap d (.ref a)) : ∀ {p : PV} {v : V}, RP X.K H ρ p v → ∀ {u : Value} {d : DV}, RelV v u → rdW f p = some d → DR s.heap d u
  | _, _, .non, u, d, r, e => by cases r; cases e; exact .non
  | _, _, .bl b, u, d, r, e => by cases r; cases e; exact .bool b
  | _, _, .int i, u, d, r, e => by obtain ⟨t, rfl⟩ := r; cases e; exact .int i t
  | _, _, .str x, u, d, r, e => by obtain ⟨t, rfl⟩ := r; cases e; exact .str x t
  | _, _, .tup h rs, u, d, r, e => by
    cases r
    obtain ⟨its, rv, ht, _⟩ := I.tuple h
    simp only [rdW, Option.map_eq_some_iff] at e
    obtain ⟨ds, e1, rfl⟩ := e
    exact .tup ht (rdW_DRs I hf rs rv e1)
  | _, _, .loc h, u, d, r, e => by
    cases r
    exact hf _ _ _ h e
  | _, _, .fl h, u, d, r, e => by cases e
theorem rdW_DRs (I : Inv X pins σ H s) {f : Nat → Option DV} (hf : ∀ n a d, ρ[n]? = some a → f n = some d → DR s.heap d (.ref a)) : ∀ {ps : List PV} {vs : List V}, RPs X.K H ρ ps vs → ∀ {us : List Value} {ds : List DV}, Vals vs us → rdW.rdL f ps = some ds → DRs s.heap ds us
  | _, _, .nil, us, ds, r, e => by
    cases r
    simp only [rdW.rdL] at e
    cases e
    exact .nil
  | _, _, .cons h rs, us, ds, r, e => by
    cases r with
    | cons r1 r2 =>
      simp only [rdW.rdL, Option.bind_eq_some_iff, Option.map_eq_some_iff] at e
      obtain ⟨d, e1, ds', e2, rfl⟩ := e
      exact .cons (rdW_DR I hf h r1 e1) (rdW_DRs I hf rs r2 e2)
end
theorem mapM_DRs (I : Inv X pins σ H s) {g : PV → Option DV} : ∀ {ps : List PV} {vs : List V}, RPs X.K H ρ ps vs → (∀ {p : PV} {v : V}, RP X.K H ρ p v → ∀ {u : Value} {d : DV}, RelV v u → g p = some d → DR s.heap d u) →
    ∀ {us : List Value} {ds : List DV}, Vals vs us → ps.mapM g = some ds → DRs s.heap ds us
  | _, _, .nil, _, us, ds, r, e => by
    cases r
    simp at e
    subst e
    exact .nil
  | _, _, .cons h rs, hg, us, ds, r, e => by
    cases r with
    | cons r1 r2 =>
      simp only [List.mapM_cons, Option.bind_eq_bind, Option.bind_eq_some_iff, Option.pure_def, Option.some.injEq] at e
      obtain ⟨d, e1, ds', e2, rfl⟩ := e
      exact .cons (hg h r1 e1) (mapM_DRs I rs hg r2 e2)
theorem rdM_DR (I : Inv X pins σ H s) (S : SR X.K X.mg H ρ M) : ∀ (k : Nat) {p : PV} {v : V}, RP X.K H ρ p v → ∀ {u : Value} {d : DV}, RelV v u → rdM M k p = some d → DR s.heap d u
  | 0, p, v, h, u, d, r, e => rdW_DR I (fun _ _ _ _ z => by cases z) h r e
  | k + 1, p, v, h, u, d, r, e => by
    refine rdW_DR I (fun n a d hn hd => ?_) h r e
    split at hd
    · rename_i xs hm
      obtain ⟨vs, e1, r1⟩ := S.lst hn hm
      simp only [Option.map_eq_some_iff] at hd
      obtain ⟨ds, h1, rfl⟩ := hd
      obtain ⟨its, rv, ⟨o, n', ho, hc, _, hd⟩, _⟩ := I.list (SqL.of e1)
      exact .lst ⟨o, ho, hc, n', hd⟩ (mapM_DRs I r1 (fun hp _ _ hr he => rdM_DR I S k hp hr he) rv h1)
    · cases hd
end

section
variable {X : Cx}
theorem doEq_inv {M : Store} {p q : PV} {b : Bool} (h : doEq M p q = some b) : ∃ d e, rdM M 3 p = some d ∧ rdM M 3 q = some e ∧ min d.deep e.deep ≤ 190 ∧ b = decide (d = e) := by
  unfold doEq at h
  split at h
  · rename_i d e h1 h2
    split at h
    · cases h
      exact ⟨d, e, h1, h2, ‹_›, rfl⟩
    · cases h
  · cases h
theorem post_B {W : EW} {σ : L2.St} {H : Hp} {ρ : List Addr} {M : Store} {o : Option Bool} {Q : VK} (S : SR X.K X.mg H ρ M) (h : post X.K X.mg W σ H ρ (liftB M o) (gE X.K Q)) : ∃ b, o = some b ∧ Q (.bl b) H := by
  cases o with
  | none => exact h.elim
  | some b => exact ⟨b, rfl, post_ok h S _ (.bl b)⟩
theorem bl_end {pins : List (Addr × Obj)} {σ : L2.St} {H : Hp} {s : Shared} {Q : VK} {b : Bool} (I : Inv X pins σ H s) (q : Q (.bl b) H) : EP X pins σ Q (.bool b) s := ⟨.bl b, H, I, rfl, q⟩
abbrev rC (X : Cx) (o : COp) : R2 := r2 X.K X.mg fun M p q => liftB M (doCmp M o p q)
theorem op_doEq (hu : X.A.units + 200 < cLine) : OpR X (compareOp .Eq) (rC X .eq) := by
  rintro pins s σ H x y v u Q I rx ry ⟨ρ, M, p, q, sr, hx, hy, h⟩
  obtain ⟨b, hb, hq⟩ := post_B sr (h [])
  obtain ⟨d, e, h1, h2, h3, rfl⟩ := doEq_inv hb
  exact rcAt_D (rdM_DR I sr 3 hx rx h1) (rdM_DR I sr 3 hy ry h2) (by omega) X.prog X.w X.xe _ (bl_end I hq)
theorem op_doNe (hu : X.A.units + 200 < cLine) : OpR X (compareOp .NotEq) (rC X .ne) := by
  rintro pins s σ H x y v u Q I rx ry ⟨ρ, M, p, q, sr, hx, hy, h⟩
  obtain ⟨b, hb, hq⟩ := post_B sr (h [])
  simp only [doCmp, Option.map_eq_some_iff] at hb
  obtain ⟨c, hc, rfl⟩ := hb
  obtain ⟨d, e, h1, h2, h3, rfl⟩ := doEq_inv hc
  exact rcNeAt_D (rdM_DR I sr 3 hx rx h1) (rdM_DR I sr 3 hy ry h2) (by omega) X.prog X.w X.xe _ (bl_end I hq)
theorem op_int {op : CmpOp} {o : COp} {f : Int → Int → Bool} (ho : OpR X (compareOp op) (rI0 fun i j => .bl (f i j))) (hf : ∀ M i j, doCmp M o (.int i) (.int j) = some (f i j))
    (hn : ∀ M p q, (∀ i j, ¬ (p = .int i ∧ q = .int j)) → doCmp M o p q = none) : OpR X (compareOp op) (rC X o) := by
  refine opr_imp ho ?_
  rintro x y H Q ⟨ρ, M, p, q, sr, hx, hy, h⟩
  obtain ⟨b, hb, hq⟩ := post_B sr (h [])
  have no : ∀ {α : Prop}, (∀ i j, ¬ (p = .int i ∧ q = .int j)) → α := fun z => by rw [hn M p q z] at hb; cases hb
  cases hx with
  | int i => cases hy with
    | int j => rw [hf] at hb; cases hb; exact ⟨i, j, rfl, rfl, hq⟩
    | _ => exact no (fun i j z => by cases z.2)
  | _ => exact no (fun i j z => by cases z.1)
theorem op_doLt : OpR X (compareOp .Lt) (rC X .lt) := op_int op_lt (fun _ _ _ => rfl) fun M p q h => by
  unfold doCmp; split <;> first | rfl | (exact absurd ⟨rfl, rfl⟩ (h _ _)) | (rename_i z; cases z)
theorem op_doLe : OpR X (compareOp .LtE) (rC X .le) := op_int op_le (fun _ _ _ => rfl) fun M p q h => by
  unfold doCmp; split <;> first | rfl | (exact absurd ⟨rfl, rfl⟩ (h _ _)) | (rename_i z; cases z)
theorem op_doGt : OpR X (compareOp .Gt) (rC X .gt) := op_int op_gt (fun _ _ _ => rfl) fun M p q h => by
  unfold doCmp; split <;> first | rfl | (exact absurd ⟨rfl, rfl⟩ (h _ _)) | (rename_i z; cases z)
theorem op_doGe : OpR X (compareOp .GtE) (rC X .ge) := op_int op_ge (fun _ _ _ => rfl) fun M p q h => by
  unfold doCmp; split <;> first | rfl | (exact absurd ⟨rfl, rfl⟩ (h _ _)) | (rename_i z; cases z)
/-! ### is -/
theorem doIs_inv {p q : PV} {b : Bool} (h : doIs p q = some b) : (q = .non ∧ b = decide (p = .non)) ∨ ∃ a c, p = .bl a ∧ q = .bl c ∧ b = decide (a = c) := by
  unfold doIs at h
  split at h
  · cases h; exact Or.inl ⟨rfl, rfl⟩
  · cases h; exact Or.inr ⟨_, _, rfl, rfl, rfl⟩
  · cases h
theorem non_iff {K : PySem.W.Frag} {H : Hp} {ρ : List Addr} {p : PV} {v : V} (h : RP K H ρ p v) : decide (p = .non) = decide (v = .non) := by cases h <;> rfl
theorem op_doIs : OpR X (compareOp .Is) (rC X .is_) := by
  refine opr_imp (op_isN.or op_isBl) ?_
  rintro x y H Q ⟨ρ, M, p, q, sr, hx, hy, h⟩
  obtain ⟨b, hb, hq⟩ := post_B sr (h [])
  rcases doIs_inv hb with ⟨rfl, rfl⟩ | ⟨a, c, rfl, rfl, rfl⟩
  · cases hy
    rw [non_iff hx] at hq
    exact Or.inl ⟨rfl, hq⟩
  · cases hx; cases hy
    exact Or.inr ⟨a, c, rfl, rfl, hq⟩
theorem op_doIsnot : OpR X (compareOp .IsNot) (rC X .isnot) := by
  refine opr_imp (op_notN.or op_notBl) ?_
  rintro x y H Q ⟨ρ, M, p, q, sr, hx, hy, h⟩
  obtain ⟨b, hb, hq⟩ := post_B sr (h [])
  simp only [doCmp, Option.map_eq_some_iff] at hb
  obtain ⟨k, hk, rfl⟩ := hb
  rcases doIs_inv hk with ⟨rfl, rfl⟩ | ⟨a, c, rfl, rfl, rfl⟩
  · cases hy
    rw [non_iff hx] at hq
    exact Or.inl ⟨rfl, hq⟩
  · cases hx; cases hy
    exact Or.inr ⟨a, c, rfl, rfl, hq⟩
/-! ### in -/
theorem anyEq_inv {M : Store} {x : PV} : ∀ {ys : List PV} {b : Bool}, anyEq M x ys = some b → (ys = [] ∧ b = false) ∨ ∃ e, rdM M 3 x = some e ∧ ∃ ds : List DV, ds.length = ys.length ∧ (∀ (i : Nat) (d : DV), ds[i]? = some d → ∃ y, ys[i]? = some y ∧ rdM M 3 y = some d ∧ min d.deep e.deep ≤ 190) ∧ b = ds.any fun d => decide (d = e)
  | [], b, h => by simp only [anyEq] at h; cases h; exact Or.inl ⟨rfl, rfl⟩
  | y :: ys, b, h => by
    simp only [anyEq] at h
    split at h
    · rename_i b1 c1 h1 h2
      cases h
      obtain ⟨d, e, k1, k2, k3, rfl⟩ := doEq_inv h1
      refine Or.inr ⟨e, k2, ?_⟩
      rcases anyEq_inv h2 with ⟨rfl, rfl⟩ | ⟨e', q1, ds, q2, q3, rfl⟩
      · refine ⟨[d], rfl, fun i d' hd => ?_, by simp⟩
        cases i with
        | zero => simp at hd; subst hd; exact ⟨y, rfl, k1, k3⟩
        | succ i => simp at hd
      · rw [k2] at q1; cases q1
        refine ⟨d :: ds, by simp [q2], fun i d' hd => ?_, by simp⟩
        cases i with
        | zero => simp at hd; subst hd; exact ⟨y, rfl, k1, k3⟩
        | succ i => simp only [List.getElem?_cons_succ] at hd ⊢; exact q3 i d' hd
    · cases h
open Classical in
theorem any_DR {h : Heap} {e : DV} : ∀ {ds : List DV} {us : List Value}, DRs h ds us → us.any (fun u => decide (DR h e u)) = ds.any fun d => decide (d = e)
  | _, _, .nil => rfl
  | _, _, .cons (d := d) r rs => by
    rw [List.any_cons, List.any_cons, any_DR rs]
    congr 1
    by_cases hd : d = e
    · rw [decide_eq_true hd]; subst hd; exact decide_eq_true r
    · rw [decide_eq_false hd]; exact decide_eq_false fun z => hd (r.inj z)
theorem DRs.mem {h : Heap} : ∀ {ds : List DV} {us : List Value}, DRs h ds us → ∀ {u : Value}, u ∈ us → ∃ (i : Nat) (d : DV), ds[i]? = some d ∧ DR h d u
  | _, _, .cons r rs, u, hu => by
    rcases List.mem_cons.mp hu with rfl | hu
    · exact ⟨0, _, rfl, r⟩
    · obtain ⟨i, d, h1, h2⟩ := DRs.mem rs hu
      exact ⟨i + 1, d, by simpa using h1, h2⟩
theorem drs_of {X : Cx} {pins : List (Addr × Obj)} {σ : L2.St} {H : Hp} {s : Shared} {ρ : List Addr} {M : Store} (I : Inv X pins σ H s) (S : SR X.K X.mg H ρ M) : ∀ {ds : List DV} {ys : List PV} {vs : List V} {us : List Value}, RPs X.K H ρ ys vs → Vals vs us →
    ds.length = ys.length → (∀ (i : Nat) (d : DV), ds[i]? = some d → ∃ y, ys[i]? = some y ∧ rdM M 3 y = some d) → DRs s.heap ds us
  | [], _, _, _, .nil, r, _, _ => by cases r; exact .nil
  | [], _, _, _, .cons _ _, r, hl, _ => by simp at hl
  | d :: ds, _, _, _, .nil, r, hl, _ => by simp at hl
  | d :: ds, _, _, _, .cons h rs, r, hl, hg => by
    cases r with
    | cons r1 r2 =>
      obtain ⟨y, h1, h2⟩ := hg 0 d rfl
      simp at h1; subst h1
      exact .cons (rdM_DR I S 3 h r1 h2) (drs_of I S rs r2 (by simpa using hl) fun i d' hd => by
        have := hg (i + 1) d' (by simpa using hd)
        simpa using this)
open Classical in
theorem in_seq {pins : List (Addr × Obj)} {σ : L2.St} {H : Hp} {s : Shared} {ρ : List Addr} {M : Store} {p : PV} {ys : List PV} {x : V} {vs : List V} {v : Value} {its : List Value} {b : Bool} {A : Around} (hu : A.units + 200 < cLine) (I : Inv X pins σ H s) (S : SR X.K X.mg H ρ M)
    (hx : RP X.K H ρ p x) (rx : RelV x v) (hy : RPs X.K H ρ ys vs) (rv : Vals vs its) (h : anyEq M p ys = some b) : ∃ e : Value → Bool, its.any e = b ∧ ∀ u ∈ its, EqAt A.in1 s u v (e u) := by
  rcases anyEq_inv h with ⟨rfl, rfl⟩ | ⟨e, h1, ds, h2, h3, rfl⟩
  · cases hy
    cases rv
    exact ⟨fun _ => false, rfl, fun _ z => nomatch z⟩
  · have D := drs_of I S hy rv h2 fun i d hd => by obtain ⟨y, a, b, _⟩ := h3 i d hd; exact ⟨y, a, b⟩
    refine ⟨fun u => decide (DR s.heap e u), any_DR D, fun u hu' => ?_⟩
    obtain ⟨i, d, k1, k2⟩ := D.mem hu'
    obtain ⟨y, _, _, k3⟩ := h3 i d k1
    have q := eqAt_D (A := A.in1) (s := s) d e A.in1 u v k2 (rdM_DR I S 3 hx rx h1) (by show A.units + 1 + _ < cLine; omega)
    refine q.to ?_
    by_cases hd : d = e
    · rw [decide_eq_true hd]; subst hd; exact (decide_eq_true k2).symm
    · rw [decide_eq_false hd]; exact (decide_eq_false fun z => hd (k2.inj z)).symm
theorem hasSign_inv {x y : Str} {b : Bool} (h : hasSign x y = some b) : ∃ c, x = ⟨#[c]⟩ ∧ b = decide (c ∈ y.cps.toList) := by
  unfold hasSign at h
  split at h
  · rename_i hs
    cases h
    obtain ⟨⟨l⟩⟩ := x
    match l, hs with
    | [c], _ => exact ⟨c, rfl, rfl⟩
  · cases h
theorem dic_any {K : PySem.W.Frag} {H : Hp} {ρ : List Addr} {k : PV} {q : Key} (hk : keyOf k = some q) : ∀ {kvs : List (PV × PV)} {us : List (Key × V)}, RKV K H ρ kvs us → (kvs.any fun p => decide (p.1 = k)) = (valV us q).isSome
  | _, _, .nil => rfl
  | _, _, .cons (k := a) (q := c) ka _ r => by
    rw [List.any_cons, dic_any hk r]
    by_cases hac : a = k
    · subst hac
      rw [ka] at hk; cases hk
      rw [valV_pos rfl]; simp
    · have hcq : ¬ c = q := by
        intro z; subst z
        apply hac
        cases a <;> first | (cases ka; done) | skip
        all_goals (cases k <;> first | (cases hk; done) | skip)
        all_goals simp only [keyOf, Option.some.injEq] at ka hk
        all_goals (rw [← hk] at ka; cases ka; try rfl)
      rw [valV_neg hcq]; simp [hac]
theorem key_rel {K : PySem.W.Frag} {H : Hp} {ρ : List Addr} {p : PV} {x : V} (h : RP K H ρ p x) (hk : isKey p = true) : ∃ q, keyOf p = some q ∧ x = kV q := by
  cases h with
  | int i => exact ⟨.inl i, rfl, rfl⟩
  | str i => exact ⟨.inr i, rfl, rfl⟩
  | _ => cases hk
theorem op_doIn (hu : X.A.units + 200 < cLine) : OpR X (compareOp .In) (rC X .isin) := by
  rintro pins s σ H x y v u Q I rx ry ⟨ρ, M, p, q, sr, hx, hy, h⟩
  obtain ⟨b, hb, hq⟩ := post_B sr (h [])
  simp only [doCmp] at hb
  cases hy with
  | str z =>
    cases hx with
    | str w =>
      obtain ⟨c, rfl, rfl⟩ := hasSign_inv hb
      exact op_in_sign pins s σ H _ _ v u Q I rx ry ⟨c, z, rfl, rfl, hq⟩
    | _ => cases hb
  | @tup a vs ys ha ra =>
    cases ry
    obtain ⟨its, rv, ht, _⟩ := I.tuple ha
    obtain ⟨e, he, hg⟩ := in_seq hu I sr hx rx ra rv hb
    refine SeqAt.in_tupleAt e ht (fun y hy => hg y (by simpa using hy)) ?_
    rw [show its.toArray.any e = b by simpa using he]
    exact bl_end I hq
  | @loc n a ha =>
    cases ry
    simp only [doIn] at hb
    split at hb
    · rename_i ys hm
      obtain ⟨vs, e1, r1⟩ := sr.lst ha hm
      obtain ⟨its, rv, ⟨o, n', ho, hc, _, hd⟩, _⟩ := I.list (SqL.of e1)
      obtain ⟨e, he, hg⟩ := in_seq hu I sr hx rx r1 rv hb
      refine SeqAt.in_listAt e ⟨o, ho, hc, n', hd⟩ (fun y hy => hg y (by simpa using hy)) ?_
      rw [show its.toArray.any e = b by simpa using he]
      exact bl_end I hq
    · rename_i kvs hm
      obtain ⟨us, e1, r1⟩ := sr.dic ha hm
      split at hb
      · rename_i hk
        cases hb
        obtain ⟨k, hk1, rfl⟩ := key_rel hx hk
        rw [dic_any hk1 r1] at hq
        exact d_in (by omega) I (DGet.k e1) rx fun s' I' => bl_end I' hq
      · cases hb
    · cases hb
  | _ => cases hb
theorem op_doNotin (hu : X.A.units + 200 < cLine) : OpR X (compareOp .NotIn) (rC X .notin) := by
  rintro pins s σ H x y v u Q I rx ry ⟨ρ, M, p, q, sr, hx, hy, h⟩
  obtain ⟨b', hb', hq⟩ := post_B sr (h [])
  simp only [doCmp, Option.map_eq_some_iff] at hb'
  obtain ⟨b, hb, rfl⟩ := hb'
  cases hy with
  | str z =>
    cases hx with
    | str w =>
      obtain ⟨c, rfl, rfl⟩ := hasSign_inv hb
      exact op_notIn_sign pins s σ H _ _ v u Q I rx ry ⟨c, z, rfl, rfl, hq⟩
    | _ => cases hb
  | @tup a vs ys ha ra =>
    cases ry
    obtain ⟨its, rv, ht, _⟩ := I.tuple ha
    obtain ⟨e, he, hg⟩ := in_seq hu I sr hx rx ra rv hb
    refine SeqAt.notIn_tupleAt e ht (fun y hy => hg y (by simpa using hy)) ?_
    rw [show its.toArray.any e = b by simpa using he]
    exact bl_end I hq
  | @loc n a ha =>
    cases ry
    simp only [doIn] at hb
    split at hb
    · rename_i ys hm
      obtain ⟨vs, e1, r1⟩ := sr.lst ha hm
      obtain ⟨its, rv, ⟨o, n', ho, hc, _, hd⟩, _⟩ := I.list (SqL.of e1)
      obtain ⟨e, he, hg⟩ := in_seq hu I sr hx rx r1 rv hb
      refine SeqAt.notIn_listAt e ⟨o, ho, hc, n', hd⟩ (fun y hy => hg y (by simpa using hy)) ?_
      rw [show its.toArray.any e = b by simpa using he]
      exact bl_end I hq
    · rename_i kvs hm
      obtain ⟨us, e1, r1⟩ := sr.dic ha hm
      split at hb
      · rename_i hk
        cases hb
        obtain ⟨k, hk1, rfl⟩ := key_rel hx hk
        rw [dic_any hk1 r1] at hq
        exact d_notIn (by omega) I (DGet.k e1) rx fun s' I' => bl_end I' hq
      · cases hb
    · cases hb
  | _ => cases hb
end
end Wn
end
section
/-! So6: expressions. -/
namespace Wn
open PySem PySem.Spec PyProof.Rows L2

section
variable {X : Cx} {W : EW} {a b d : Expr} {ea eb ed : Ex} {c : Ctx} {pos : Pos}
abbrev SE (X : Cx) (W : EW) (c : Ctx) (e : Expr) (m : Ex) : Prop := PE X e (tE X.K X.mg W (evE c m))
abbrev ST (X : Cx) (W : EW) (c : Ctx) (e : Expr) (m : Ex) : Prop := PT X e (tT X.K X.mg W (evT c m))
abbrev SA (X : Cx) (W : EW) (c : Ctx) (es : List Expr) (ms : Exs) : Prop := PA X es (tA X.K X.mg W (evEs c ms))
abbrev SO (X : Cx) (W : EW) (c : Ctx) (e : Option Expr) (m : Ox) : Prop := PO X e (tO X.K X.mg W (evO c m))

theorem noErr_liftB (M : Store) (o : Option Bool) : NoErr (liftB M o) := by
  intro x M' e
  cases o <;> cases e
theorem noErr_lift {α : Type} (M : Store) (o : Option α) : NoErr (lift M o) := by
  intro x M' e
  cases o <;> cases e
/-! ### comparisons -/
theorem e_cmp {op : CmpOp} {o : COp} (ho : OpR X (compareOp op) (rC X o)) (ha : SE X W c a ea) (hb : SE X W c b eb) (hm : behindInMarks op b = false) : SE X W c (.Compare a [op] [b] pos) (.cmp o ea eb) :=
  pe_imp (pe_cmpR ho ha hb hm) fun σ H Q h =>
    two (ra := evE c ea) (rb := evE c eb) (f := fun x y M2 => liftB M2 (doCmp M2 o x y)) h fun ρ H E M p q x y er sr rx ry h => ⟨ρ, M, p, q, sr, rx, ry, fun σ' => post_no (noErr_liftB _ _) h⟩
theorem t_cmp {op : CmpOp} {o : COp} (ho : OpR X (compareOp op) (rC X o)) (ha : SE X W c a ea) (hb : SE X W c b eb) (hm : behindInMarks op b = false) : ST X W c (.Compare a [op] [b] pos) (.cmp o ea eb) :=
  pt_imp (pt_cmpR ho ha hb hm) fun σ H Q h => by
    obtain ⟨ρ, E, M, er, sr, h⟩ := h
    refine ⟨ρ, E, M, er, sr, post_imp (post_bind h) fun ρ1 H1 x M1 e1 s1 h1 v1 r1 => ?_⟩
    have er1 := er.ext sr.mv e1
    refine ⟨ρ1, E, M1, er1, s1, post_imp (post_bind h1) fun ρ2 H2 y M2 e2 s2 h2 v2 r2 => ?_⟩
    refine ⟨ρ2, M2, x, y, s2, r1.ext s1.mv e2, r2, fun σ' => ?_⟩
    obtain ⟨k, hk, h3⟩ := post_lift h2
    show post X.K X.mg EW.no σ' H2 ρ2 (liftB M2 (doCmp M2 o x y)) _
    rw [hk]
    intro ρ3 H3 e3 s3 v3 r3
    cases r3
    exact ⟨k, rfl, h3 ρ3 H3 e3 s3⟩

theorem t_chain {op op' : CmpOp} {o p : COp} (ho : OpR X (compareOp op) (rC X o)) (hp : OpR X (compareOp op') (rC X p)) (ha : SE X W c a ea) (hb : SE X W c b eb) (hd : SE X W c d ed) (hm : lastMarks [op, op'] [b, d] = false) :
    ST X W c (.Compare a [op, op'] [b, d] pos) (.chain o p ea eb ed) :=
  pt_imp (pt_chain ho hp ha hb hd hm) fun σ H Q h => by
    obtain ⟨ρ, E, M, er, sr, h⟩ := h
    refine ⟨ρ, E, M, er, sr, post_imp (post_bind h) fun ρ1 H1 x M1 e1 s1 h1 v1 r1 => ?_⟩
    have er1 := er.ext sr.mv e1
    refine ⟨ρ1, E, M1, er1, s1, post_imp (post_bind h1) fun ρ2 H2 y M2 e2 s2 h2 v2 r2 => ?_⟩
    have er2 := er1.ext s1.mv e2
    refine ⟨ρ2, M2, x, y, s2, r1.ext s1.mv e2, r2, fun σ' => ?_⟩
    obtain ⟨k, hk, h3⟩ := post_lift (post_bind h2)
    show post X.K X.mg EW.no σ' H2 ρ2 (liftB M2 (doCmp M2 o x y)) _
    rw [hk]
    intro ρ3 H3 e3 s3 v3 r3
    cases r3
    refine ⟨k, rfl, ?_⟩
    have h4 := h3 ρ3 H3 e3 s3
    cases k with
    | false => exact iteF ⟨false, rfl, post_ok h4 s3⟩
    | true =>
      refine iteT ⟨ρ3, E, M2, er2.ext s2.mv e3, s3, post_imp (post_bind h4) fun ρ4 H4 z M4 e4 s4 h5 v4 r4 => ?_⟩
      refine ⟨ρ4, M4, y, z, s4, (r2.ext s2.mv e3).ext s3.mv e4, r4, fun σ'' => ?_⟩
      obtain ⟨k', hk', h6⟩ := post_lift h5
      show post X.K X.mg EW.no σ'' H4 ρ4 (liftB M4 (doCmp M4 p y z)) _
      rw [hk']
      intro ρ5 H5 e5 s5 v5 r5
      cases r5
      exact ⟨k', rfl, h6 ρ5 H5 e5 s5⟩
theorem e_chain {op op' : CmpOp} {o p : COp} (ho : OpR X (compareOp op) (rC X o)) (hp : OpR X (compareOp op') (rC X p)) (ha : SE X W c a ea) (hb : SE X W c b eb) (hd : SE X W c d ed) (hm : lastMarks [op, op'] [b, d] = false) :
    SE X W c (.Compare a [op, op'] [b, d] pos) (.chain o p ea eb ed) :=
  pe_imp (pe_chain ho hp ha hb hd hm) fun σ H Q h => by
    obtain ⟨ρ, E, M, er, sr, h⟩ := h
    refine ⟨ρ, E, M, er, sr, post_imp (post_bind h) fun ρ1 H1 x M1 e1 s1 h1 v1 r1 => ?_⟩
    have er1 := er.ext sr.mv e1
    refine ⟨ρ1, E, M1, er1, s1, post_imp (post_bind h1) fun ρ2 H2 y M2 e2 s2 h2 v2 r2 => ?_⟩
    have er2 := er1.ext s1.mv e2
    refine ⟨ρ2, M2, x, y, s2, r1.ext s1.mv e2, r2, fun σ' => ?_⟩
    obtain ⟨k, hk, h3⟩ := post_lift (post_bind h2)
    show post X.K X.mg EW.no σ' H2 ρ2 (liftB M2 (doCmp M2 o x y)) _
    rw [hk]
    intro ρ3 H3 e3 s3 v3 r3
    cases r3
    refine ⟨k, rfl, ?_⟩
    have h4 := h3 ρ3 H3 e3 s3
    cases k with
    | false => exact iteF (post_ok h4 s3 _ (.bl false))
    | true =>
      refine iteT ⟨ρ3, E, M2, er2.ext s2.mv e3, s3, post_imp (post_bind h4) fun ρ4 H4 z M4 e4 s4 h5 v4 r4 => ?_⟩
      exact ⟨ρ4, M4, y, z, s4, (r2.ext s2.mv e3).ext s3.mv e4, r4, fun σ'' => post_no (noErr_liftB _ _) h5⟩
/-! ### and, or, not -/
variable {rest : List Expr}
theorem e_one {op : BoolOp} (h : SE X W c a ea) : SE X W c (.BoolOp op [a] pos) ea := pe_one h
theorem e_and (ha : SE X W c a ea) (hb : SE X W c (.BoolOp .And (b :: rest) pos) eb) : SE X W c (.BoolOp .And (a :: b :: rest) pos) (.and_ ea eb) :=
  pe_imp (pe_and ha hb) fun σ H Q h => by
    obtain ⟨ρ, E, M, er, sr, h⟩ := h
    refine ⟨ρ, E, M, er, sr, post_imp (post_bind h) fun ρ1 H1 x M1 e1 s1 h1 v1 r1 => ?_⟩
    cases r1 with
    | bl k =>
      refine ⟨k, rfl, ?_⟩
      cases k with
      | true => exact iteT ⟨ρ1, E, M1, er.ext sr.mv e1, s1, h1⟩
      | false => exact iteF (post_ok h1 s1 _ (.bl false))
    | _ => exact h1.elim
theorem e_or (ha : SE X W c a ea) (hb : SE X W c (.BoolOp .Or (b :: rest) pos) eb) : SE X W c (.BoolOp .Or (a :: b :: rest) pos) (.or_ ea eb) :=
  pe_imp (pe_or ha hb) fun σ H Q h => by
    obtain ⟨ρ, E, M, er, sr, h⟩ := h
    refine ⟨ρ, E, M, er, sr, post_imp (post_bind h) fun ρ1 H1 x M1 e1 s1 h1 v1 r1 => ?_⟩
    cases r1 with
    | bl k =>
      refine ⟨k, rfl, ?_⟩
      cases k with
      | true => exact iteT (post_ok h1 s1 _ (.bl true))
      | false => exact iteF ⟨ρ1, E, M1, er.ext sr.mv e1, s1, h1⟩
    | _ => exact h1.elim
theorem e_not (ha : SE X W c a ea) : SE X W c (.UnaryOp .Not a pos) (.not_ ea) :=
  pe_imp (pe_not ha) fun σ H Q h => by
    obtain ⟨ρ, E, M, er, sr, h⟩ := h
    refine ⟨ρ, E, M, er, sr, post_imp (post_bind h) fun ρ1 H1 x M1 e1 s1 h1 v1 r1 => ?_⟩
    cases r1 with
    | bl k => exact ⟨k, rfl, post_ok h1 s1 _ (.bl _)⟩
    | _ => exact h1.elim
theorem e_neg (ha : SE X W c a ea) : SE X W c (.UnaryOp .USub a pos) (.neg ea) :=
  pe_imp (pe_un un_neg ha) fun σ H Q h => by
    obtain ⟨ρ, E, M, er, sr, h⟩ := h
    refine ⟨ρ, E, M, er, sr, post_imp (post_bind h) fun ρ1 H1 x M1 e1 s1 h1 v1 r1 => ?_⟩
    cases r1 with
    | int k => exact ⟨k, rfl, post_ok h1 s1 _ (.int _)⟩
    | _ => exact h1.elim
abbrev SW (X : Cx) (W : EW) (c : Ctx) (e : Expr) (m : Ex) : Prop := PW X e (tT X.K X.mg W (evT c m))
theorem w_and1 (h : ST X W c a ea) : SW X W c (.BoolOp .And [a] pos) ea := pw_and1 h
theorem w_or1 (h : ST X W c a ea) : SW X W c (.BoolOp .Or [a] pos) ea := pw_or1 h
theorem w_and (ha : ST X W c a ea) (hb : SW X W c (.BoolOp .And (b :: rest) pos) eb) : SW X W c (.BoolOp .And (a :: b :: rest) pos) (.and_ ea eb) :=
  pw_imp (pw_and ha hb) fun σ H Q h => by
    obtain ⟨ρ, E, M, er, sr, h⟩ := h
    refine ⟨ρ, E, M, er, sr, post_imp (post_bind h) fun ρ1 H1 k M1 e1 s1 h1 => ?_⟩
    cases k with
    | true => exact iteT ⟨ρ1, E, M1, er.ext sr.mv e1, s1, h1⟩
    | false => exact iteF (post_ok h1 s1)
theorem w_or (ha : ST X W c a ea) (hb : SW X W c (.BoolOp .Or (b :: rest) pos) eb) : SW X W c (.BoolOp .Or (a :: b :: rest) pos) (.or_ ea eb) :=
  pw_imp (pw_or ha hb) fun σ H Q h => by
    obtain ⟨ρ, E, M, er, sr, h⟩ := h
    refine ⟨ρ, E, M, er, sr, post_imp (post_bind h) fun ρ1 H1 k M1 e1 s1 h1 => ?_⟩
    cases k with
    | true => exact iteT (post_ok h1 s1)
    | false => exact iteF ⟨ρ1, E, M1, er.ext sr.mv e1, s1, h1⟩
theorem t_not (ha : ST X W c a ea) : ST X W c (.UnaryOp .Not a pos) (.not_ ea) :=
  pt_imp (pt_not ha) fun σ H Q h => by
    obtain ⟨ρ, E, M, er, sr, h⟩ := h
    exact ⟨ρ, E, M, er, sr, post_imp (post_bind h) fun ρ1 H1 k M1 e1 s1 h1 => post_ok h1 s1⟩
theorem e_ite (hd : ST X W c d ed) (ha : SE X W c a ea) (hb : SE X W c b eb) : SE X W c (.IfExp d a b pos) (.ite ed ea eb) :=
  pe_imp (pe_ifExp hd ha hb) fun σ H Q h => by
    obtain ⟨ρ, E, M, er, sr, h⟩ := h
    refine ⟨ρ, E, M, er, sr, post_imp (post_bind h) fun ρ1 H1 k M1 e1 s1 h1 => ?_⟩
    cases k with
    | true => exact iteT ⟨ρ1, E, M1, er.ext sr.mv e1, s1, h1⟩
    | false => exact iteF ⟨ρ1, E, M1, er.ext sr.mv e1, s1, h1⟩
/-! ### truth -/
theorem tru_of {H : Hp} {ρ : List Addr} {M : Store} {p : PV} {v : V} {k : Bool} (S : SR X.K X.mg H ρ M) (r : RP X.K H ρ p v) (h : truth M p = some k) : TruV X.K v H k := by
  cases r with
  | non => cases h; rfl
  | bl b => cases h; rfl
  | int i => cases h; rfl
  | str x =>
    simp only [truth] at h
    split at h
    · rename_i hl
      cases h
      refine ⟨le_big hl, ?_⟩
      by_cases hx : x.length = 0
      · rw [hx]; rfl
      · have h1 : ¬ (x.length : Int) = 0 := by omega
        rw [bne_iff_ne.mpr hx, bne_iff_ne.mpr h1]
    · cases h
  | @tup a vs xs ha ra =>
    cases h
    refine Or.inr (Or.inl ⟨vs, ha, ?_⟩)
    have := ra.length
    cases xs <;> cases vs <;> simp_all
  | @loc n a ha =>
    simp only [truth] at h
    split at h
    · rename_i xs hm
      cases h
      obtain ⟨vs, e1, r1⟩ := S.lst ha hm
      refine Or.inl ⟨vs, SqL.of e1, ?_⟩
      have := r1.length
      cases xs <;> cases vs <;> simp_all
    · rename_i kvs hm
      cases h
      obtain ⟨us, e1, r1⟩ := S.dic ha hm
      refine Or.inr (Or.inr ⟨us, e1, ?_⟩)
      cases r1 <;> rfl
    · cases h
  | fl _ => cases h
/-- a test by its value's truth -/
theorem t_truth (ha : SE X W c a ea) (he : ∀ whole, isTrue a X.env whole = (do let v ← whole; standAt a.pos; holding [v] (truthy v))) (hr : ∀ E M, evT c ea E M = (evE c ea E M).bind fun x M1 => lift M1 (truth M1 x)) : ST X W c a ea :=
  pt_imp (pt_truth ha he) fun σ H Q h => by
    obtain ⟨ρ, E, M, er, sr, h⟩ := h
    rw [hr] at h
    refine ⟨ρ, E, M, er, sr, post_imp (post_bind h) fun ρ1 H1 x M1 e1 s1 h1 v1 r1 => ?_⟩
    obtain ⟨k, hk, h2⟩ := post_lift h1
    exact ⟨k, tru_of s1 r1 hk, post_ok h2 s1⟩
/-! ### arguments, displays -/
theorem a_nil : SA X W c [] .nil :=
  pa_imp pa_nil fun σ H Q h => by
    obtain ⟨ρ, E, M, er, sr, h⟩ := h
    exact post_ok h sr _ .nil
theorem a_cons {e : Expr} {es : List Expr} {m : Ex} {ms : Exs} (ha : SE X W c e m) (hr : SA X W c es ms) (hs : starEach (e :: es) X.env = (false, eval e X.env) :: starEach es X.env) : SA X W c (e :: es) (.cons m ms) :=
  pa_imp (pa_cons ha hr hs) fun σ H Q h => by
    obtain ⟨ρ, E, M, er, sr, h⟩ := h
    refine ⟨ρ, E, M, er, sr, post_imp (post_bind h) fun ρ1 H1 x M1 e1 s1 h1 v1 r1 => ?_⟩
    refine ⟨ρ1, E, M1, er.ext sr.mv e1, s1, post_imp (post_bind h1) fun ρ2 H2 xs M2 e2 s2 h2 vs rs => ?_⟩
    exact post_ok h2 s2 _ (.cons (r1.ext s1.mv e2) rs)
variable {es : List Expr} {ms : Exs}
theorem e_tup {k : Nat} (h : SA X W c es ms) : SE X W c (.Tuple es k pos) (.tup ms) :=
  pe_imp (pe_tup h) fun σ H Q h => by
    obtain ⟨ρ, E, M, er, sr, h⟩ := h
    refine ⟨ρ, E, M, er, sr, post_imp (post_bind h) fun ρ1 H1 xs M1 e1 s1 h1 vs rs => ?_⟩
    have h1 : post X.K X.mg W σ H1 ρ1 (if xs.length ≤ big then .ok (.tup xs) M1 else .bad) (gE X.K Q) := h1
    split at h1
    · exact ⟨by rw [← rs.length]; exact le_big ‹_›, fun p hp => lay_tup s1 rs h1 hp⟩
    · exact h1.elim
theorem e_lst (h : SA X W c es ms) : SE X W c (.List es pos) (.lst ms) :=
  pe_imp (pe_lst h) fun σ H Q h => by
    obtain ⟨ρ, E, M, er, sr, h⟩ := h
    refine ⟨ρ, E, M, er, sr, post_imp (post_bind h) fun ρ1 H1 xs M1 e1 s1 h1 vs rs => ?_⟩
    have h1 : post X.K X.mg W σ H1 ρ1 (if xs.length ≤ big then .ok (.loc M1.length) (M1 ++ [.lst xs]) else .bad) (gE X.K Q) := h1
    split at h1
    · exact ⟨by rw [← rs.length]; exact le_big ‹_›, fun p hp => lay_lst s1 rs h1 hp⟩
    · exact h1.elim
/-! ### items -/
theorem ixN_ixOf (n : Nat) (i : Int) : ixN n i = ixOf n i := rfl
theorem atI_of {xs : List PV} {vs : List V} {H : Hp} {ρ : List Addr} {i : Int} {p : PV} (r : RPs X.K H ρ xs vs) (h : ((ixOf xs.length i).bind fun j => xs[j]?) = some p) : ∃ v, atI vs i = some v ∧ RP X.K H ρ p v := by
  simp only [Option.bind_eq_some_iff] at h
  obtain ⟨j, h1, h2⟩ := h
  obtain ⟨v, h3, h4⟩ := r.get h2
  refine ⟨v, ?_, h4⟩
  unfold atI
  rw [← r.length, ixN_ixOf, h1]
  exact h3
theorem valV_of {K : PySem.W.Frag} {H : Hp} {ρ : List Addr} {k : PV} {q : Key} (hk : keyOf k = some q) : ∀ {kvs : List (PV × PV)} {us : List (Key × V)}, RKV K H ρ kvs us → (∀ p, kvs.lookup k = some p → ∃ v, valV us q = some v ∧ RP K H ρ p v) ∧ (kvs.lookup k = none → valV us q = none)
  | _, _, .nil => And.intro (fun p h => nomatch h) (fun _ => rfl)
  | _, _, .cons (k := a) (q := e) (x := x) (v := v) ka hx r => by
    by_cases hac : a = k
    · subst hac
      rw [ka] at hk; cases hk
      rw [List.lookup_cons]
      simp only [beq_self_eq_true]
      exact And.intro (fun p h => (by cases h; exact ⟨v, valV_pos rfl, hx⟩)) (fun h => nomatch h)
    · have hcq : ¬ e = q := by
        intro z; subst z
        apply hac
        cases a <;> first | (cases ka; done) | skip
        all_goals (cases k <;> first | (cases hk; done) | skip)
        all_goals simp only [keyOf, Option.some.injEq] at ka hk
        all_goals (rw [← hk] at ka; cases ka; try rfl)
      have hb : (k == a) = false := by simp; exact fun z => hac z.symm
      rw [List.lookup_cons, hb, valV_neg hcq]
      exact valV_of hk r
theorem ix_dict (hu : X.A.units + 1 < cLine) : IxR X (fun x y H Q => ∃ p v, x = .ref p ∧ DGet H p y (some v) ∧ Q v H) := by
  rintro value slice pins s σ H x y v u Q I rx ry ⟨p, z, rfl, g, q⟩ hs
  cases rx
  have hT : s.TypeIs (.ref p) "dict" := dict_typeIs I g
  unfold subscriptTail
  rw [getitemInPython_of_ne hT.not_modules]
  have fin : wpAny (model X.prog X.w) X.A (subscripted slice false (.ref p) u) (fun r s3 => wpAny (model X.prog X.w) X.A (letTemporaryGo value (.ref p) r >>= fun _ => pure r) (EP X pins σ Q) X.xe s3) X.xe s := by
    rw [hs]
    refine wpAny_operating (d_getItem hu I g ry fun w' s' I' r' => ?_)
    exact wpAny_bind (wpAny_letTemporaryGo (wpAny_pure ⟨z, H, I', r', q⟩))
  exact wpAny_bind (wpAny_bind (wpAny_specialOf hT PySem.F.slot_dict_getitem.lookup (wpAny_pure (wpAny_bind fin))))
theorem e_idx (hu : X.A.units + 200 < cLine) (ha : SE X W c a ea) (hb : SE X W c b eb) (hs : PlainIx b) : SE X W c (.Subscript a b pos) (.idx ea eb) :=
  pe_imp (pe_ix (ix_seq.or (ix_dict (by omega))) ha hb hs) fun σ H Q h => by
    refine two (R := fun x y H Q => rIx X.K x y H Q ∨ ∃ p v, x = V.ref p ∧ DGet H p y (some v) ∧ Q v H) (ra := evE c ea) (rb := evE c eb) (f := fun x y M2 => lift M2 (doIdx M2 x y)) h fun ρ H E M p q x y er sr rx ry h => ?_
    obtain ⟨z, hz, h3⟩ := post_lift h
    have q := post_ok h3 sr
    clear h h3
    cases rx with
    | @tup t vs xs ht rt =>
      cases ry with
      | int i =>
        obtain ⟨v, g1, g2⟩ := atI_of rt hz
        exact Or.inl (Or.inr (Or.inl ⟨t, vs, i, v, rfl, rfl, ht, g1, q v g2⟩))
      | _ => cases hz
    | str s =>
      cases ry with
      | int i =>
        simp only [doIdx] at hz
        split at hz
        · rename_i hl
          simp only [Option.bind_eq_some_iff, Option.map_eq_some_iff] at hz
          obtain ⟨j, g1, ch, g2, rfl⟩ := hz
          refine Or.inl (Or.inr (Or.inr ⟨s, i, ch, rfl, rfl, le_big hl, ?_, q _ (.str _)⟩))
          unfold atI
          rw [ixN_ixOf, g1]
          exact g2
        · cases hz
      | _ => cases hz
    | @loc n t ht =>
      simp only [doIdx] at hz
      split at hz
      · rename_i xs hm
        obtain ⟨vs, e1', r1'⟩ := sr.lst ht hm
        split at hz
        · cases ry
          obtain ⟨v, g1, g2⟩ := atI_of r1' hz
          exact Or.inl (Or.inl ⟨t, vs, _, v, rfl, rfl, SqL.of e1', g1, q v g2⟩)
        · cases hz
      · rename_i kvs hm
        obtain ⟨us, e1, r1⟩ := sr.dic ht hm
        split at hz
        · rename_i hk
          obtain ⟨k, hk1, rfl⟩ := key_rel ry hk
          obtain ⟨v, g1, g2⟩ := (valV_of hk1 r1).1 _ hz
          exact Or.inr ⟨t, v, rfl, g1 ▸ DGet.k e1, q v g2⟩
        · cases hz
      · cases hz
    | @fl t xs ht =>
      cases ry with
      | int i =>
        simp only [doIdx, Option.bind_eq_some_iff, Option.map_eq_some_iff] at hz
        obtain ⟨j, g1, n, g2, rfl⟩ := hz
        refine Or.inl (Or.inl ⟨t, xs.map V.int, i, .int n, rfl, rfl, ht.sq, ?_, q _ (.int n)⟩)
        unfold atI
        rw [List.length_map, ixN_ixOf, g1]
        simp [g2]
      | _ => cases hz
    | _ => cases hz
/-! ### slices -/
theorem o_none : SO X W c none .none := po_imp po_none fun σ H Q ⟨ρ, E, M, er, sr, h⟩ => post_ok h sr
theorem o_some (h : SE X W c a ea) : SO X W c (some a) (.some ea) :=
  po_imp (po_some h) fun σ H Q h => by
    obtain ⟨ρ, E, M, er, sr, h⟩ := h
    refine ⟨ρ, E, M, er, sr, post_imp (post_bind h) fun ρ1 H1 x M1 e1 s1 h1 v1 r1 => ?_⟩
    cases r1 with
    | int k => exact ⟨k, rfl, post_ok h1 s1⟩
    | _ => exact h1.elim
theorem cut_rel {H : Hp} {ρ : List Addr} {xs : List PV} {vs : List V} (r : RPs X.K H ρ xs vs) (lo hi : Option Int) : RPs X.K H ρ (cut xs lo hi) (cutV vs lo hi) := by
  have e : ∀ n d o, cutIx n d o = HT.sIx n d o := fun n d o => by cases o <;> rfl
  unfold cut cutV
  rw [e, e, r.length]
  exact (r.drop _).take _
theorem e_slice {lo hi : Option Expr} {ol oh : Ox} {p2 : Pos} (ha : SE X W c a ea) (hl : SO X W c lo ol) (hh : SO X W c hi oh) : SE X W c (.Subscript a (.Slice lo hi none p2) pos) (.slice ea ol oh) :=
  pe_imp (pe_slice (sl_list.or sl_tupA) ha hl hh) fun σ H Q h => by
    obtain ⟨ρ, E, M, er, sr, h⟩ := h
    refine ⟨ρ, E, M, er, sr, post_imp (post_bind h) fun ρ1 H1 x M1 e1 s1 h1 v1 r1 => ?_⟩
    have er1 := er.ext sr.mv e1
    refine ⟨ρ1, E, M1, er1, s1, post_imp (post_bind h1) fun ρ2 H2 l M2 e2 s2 h2 => ?_⟩
    have er2 := er1.ext s1.mv e2
    refine ⟨ρ2, E, M2, er2, s2, post_imp (post_bind h2) fun ρ3 H3 u M3 e3 s3 h3 => ?_⟩
    have r1 := (r1.ext s1.mv e2).ext s2.mv e3
    cases r1 with
    | @tup t vs xs ht rt =>
      have g := cut_rel rt l u
      refine Or.inr ⟨t, vs, rfl, ht, fun hw => ?_, fun _ p hp => lay_tup s3 g h3 hp⟩
      refine post_ok h3 s3 _ (.tup ht ?_)
      have e : cutV vs l u = vs := by
        unfold cutV
        rw [hw.1, hw.2, Nat.sub_zero, List.drop_zero, List.take_length]
      rw [e] at g
      exact g
    | @loc n t ht =>
      have h3 : post X.K X.mg W σ H3 ρ3 (match M3[n]? with
        | some (.lst xs) => .ok (.loc M3.length) (M3 ++ [.lst (cut xs l u)])
        | _ => .bad) (gE X.K Q) := h3
      split at h3
      · rename_i xs hm
        obtain ⟨vs, e1', r1'⟩ := s3.lst ht hm
        exact Or.inl ⟨t, vs, rfl, SqL.of e1', fun p hp => lay_lst s3 (cut_rel r1' l u) h3 hp⟩
      · exact h3.elim
    | _ => exact h3.elim
end
end Wn
end
section
/-! So7: built-in functions and methods. -/
namespace Wn
open PySem PySem.Spec PyProof.Rows L2

section
variable {X : Cx}
theorem rps1 {K : PySem.W.Frag} {H : Hp} {ρ : List Addr} {p : PV} {xs : List V} (h : RPs K H ρ [p] xs) : ∃ v, xs = [v] ∧ RP K H ρ p v := by
  cases h with
  | cons a b => cases b; exact ⟨_, rfl, a⟩
theorem rps2 {K : PySem.W.Frag} {H : Hp} {ρ : List Addr} {p q : PV} {xs : List V} (h : RPs K H ρ [p, q] xs) : ∃ v w, xs = [v, w] ∧ RP K H ρ p v ∧ RP K H ρ q w := by
  cases h with
  | cons a b =>
    obtain ⟨w, rfl, r⟩ := rps1 b
    exact ⟨_, w, rfl, a, r⟩
abbrev rB (X : Cx) (f : Bi) : List V → Hp → VK → Prop := rL X.K X.mg fun M ps => doBi M f ps
theorem c_dlen : CallR X (.builtin "len") (fun xs H Q => ∃ p kvs, xs = [.ref p] ∧ H p = some (.dK kvs) ∧ Q (.int kvs.length) H) := by
  rintro pins s σ H xs us Q I r ⟨p, kvs, rfl, e, q⟩
  obtain ⟨u, rfl, ru⟩ := vals1 r
  cases ru
  exact d_len I (Rd.of e) fun t s' I' => ⟨.int kvs.length, H, I', ⟨t, rfl⟩, q⟩
theorem RKV.length {K : PySem.W.Frag} {H : Hp} {ρ : List Addr} : ∀ {a : List (PV × PV)} {b : List (Key × V)}, RKV K H ρ a b → a.length = b.length
  | _, _, .nil => rfl
  | _, _, .cons _ _ r => by rw [List.length_cons, List.length_cons, RKV.length r]
theorem c_len : CallR X (.builtin "len") (rB X .len) := by
  refine callr_imp (call_len.or c_dlen) ?_
  rintro xs H Q ⟨ρ, M, ps, sr, rs, h⟩
  have h := h []
  match ps, rs, h with
  | [.str x], rs, h =>
    obtain ⟨v, rfl, r⟩ := rps1 rs
    cases r
    have h : post X.K X.mg EW.no [] H ρ (if x.length ≤ big then .ok (.int x.length) M else .bad) (gE X.K Q) := h
    split at h
    · exact Or.inl ⟨_, x.length, rfl, ⟨le_big ‹_›, rfl⟩, post_ok h sr _ (.int _)⟩
    · exact h.elim
  | [.tup ys], rs, h =>
    obtain ⟨v, rfl, r⟩ := rps1 rs
    cases r with
    | @tup a vs _ ha ra => exact Or.inl ⟨_, vs.length, rfl, Or.inr ⟨vs, ha, rfl⟩, ra.length ▸ post_ok h sr _ (.int _)⟩
  | [.fl ys], rs, h =>
    obtain ⟨v, rfl, r⟩ := rps1 rs
    cases r with
    | @fl a _ ha => exact Or.inl ⟨_, (ys.map V.int).length, rfl, Or.inl ⟨_, ha.sq, rfl⟩, by rw [List.length_map]; exact post_ok h sr _ (.int _)⟩
  | [.loc n], rs, h =>
    obtain ⟨v, rfl, r⟩ := rps1 rs
    cases r with
    | @loc _ a ha =>
      simp only [doBi] at h
      split at h
      · rename_i ys hm
        obtain ⟨vs, e1, r1⟩ := sr.lst ha hm
        exact Or.inl ⟨_, vs.length, rfl, Or.inl ⟨vs, SqL.of e1, rfl⟩, r1.length ▸ post_ok h sr _ (.int _)⟩
      · rename_i kvs hm
        obtain ⟨us, e1, r1⟩ := sr.dic ha hm
        exact Or.inr ⟨a, us, rfl, e1, r1.length ▸ post_ok h sr _ (.int _)⟩
      · exact h.elim
  | [], _, h => exact h.elim
  | [.non], _, h => exact h.elim
  | [.bl _], _, h => exact h.elim
  | [.int _], _, h => exact h.elim
  | a :: _ :: _, _, h => cases a <;> exact h.elim
/-- a list or a tuple, its items -/
theorem items_sq {H : Hp} {ρ : List Addr} {M : Store} {p : PV} {v : V} {xs : List PV} (S : SR X.K X.mg H ρ M) (r : RP X.K H ρ p v) (h : items M p = some xs) : ∃ a vs, v = .ref a ∧ (SqL X.K H a vs ∨ (SqT X.K H a vs ∧ p = .tup xs)) ∧ RPs X.K H ρ xs vs := by
  cases r with
  | @tup a vs ys ha ra => cases h; exact ⟨a, vs, rfl, Or.inr ⟨ha, rfl⟩, ra⟩
  | @loc n a ha =>
    simp only [items] at h
    split at h
    · rename_i ys hm
      cases h
      obtain ⟨vs, e1, r1⟩ := S.lst ha hm
      exact ⟨a, vs, rfl, Or.inl (SqL.of e1), r1⟩
    · cases h
  | _ => cases h
theorem c_list : CallR X (.type "list") (rB X .list) := by
  refine callr_imp call_list_of ?_
  rintro xs H Q ⟨ρ, M, ps, sr, rs, h⟩
  have h := h []
  match ps, rs, h with
  | [x], rs, h =>
    obtain ⟨v, rfl, r⟩ := rps1 rs
    simp only [doBi] at h
    split at h
    · rename_i ys hi
      obtain ⟨a, vs, rfl, hs, r1⟩ := items_sq sr r hi
      exact ⟨a, vs, rfl, hs.imp id And.left, fun l hl => lay_lst sr r1 h hl⟩
    · exact h.elim
  | [], _, h => exact h.elim
  | a :: _ :: _, _, h => cases a <;> exact h.elim
theorem c_tuple : CallR X (.type "tuple") (rB X .tuple) := by
  refine callr_imp call_tuple_of ?_
  rintro xs H Q ⟨ρ, M, ps, sr, rs, h⟩
  have h := h []
  match ps, rs, h with
  | [x], rs, h =>
    obtain ⟨v, rfl, r⟩ := rps1 rs
    simp only [doBi] at h
    split at h
    · rename_i ys hi
      obtain ⟨a, vs, rfl, hs, r1⟩ := items_sq sr r hi
      rcases hs with hs | ⟨hs, rfl⟩
      · exact ⟨a, vs, rfl, Or.inl ⟨hs, fun l hl => lay_tup sr r1 h hl⟩⟩
      · exact ⟨a, vs, rfl, Or.inr ⟨hs, post_ok h sr _ r⟩⟩
    · exact h.elim
  | [], _, h => exact h.elim
  | a :: _ :: _, _, h => cases a <;> exact h.elim
theorem c_int : CallR X (.type "int") (rB X .int) := by
  refine callr_imp call_int1 ?_
  rintro xs H Q ⟨ρ, M, ps, sr, rs, h⟩
  have h := h []
  match ps, rs, h with
  | [.int i], rs, h =>
    obtain ⟨v, rfl, r⟩ := rps1 rs
    cases r
    exact Or.inl ⟨i, rfl, post_ok h sr _ (.int _)⟩
  | [.bl i], rs, h =>
    obtain ⟨v, rfl, r⟩ := rps1 rs
    cases r
    exact Or.inr ⟨i, rfl, post_ok h sr _ (.int _)⟩
  | [], _, h => exact h.elim
  | [.non], _, h => exact h.elim
  | [.str _], _, h => exact h.elim
  | [.tup _], _, h => exact h.elim
  | [.loc _], _, h => exact h.elim
  | [.fl _], _, h => exact h.elim
  | a :: _ :: _, _, h => cases a <;> exact h.elim
theorem two_ints {f : Bi} {g : Int → Int → Int} (hf : ∀ M i j, doBi M f [.int i, .int j] = .ok (.int (g i j)) M) (hn : ∀ M ps, (∀ i j, ps ≠ [.int i, .int j]) → doBi M f ps = .bad)
    {cf : Value} (hc : CallR X cf (fun xs H Q => ∃ i j, xs = [.int i, .int j] ∧ Q (.int (g i j)) H)) : CallR X cf (rB X f) := by
  refine callr_imp hc ?_
  rintro xs H Q ⟨ρ, M, ps, sr, rs, h⟩
  have h := h []
  by_cases e : ∃ i j, ps = [.int i, .int j]
  · obtain ⟨i, j, rfl⟩ := e
    obtain ⟨v, w, rfl, r1, r2⟩ := rps2 rs
    cases r1; cases r2
    simp only [hf] at h
    exact ⟨i, j, rfl, post_ok h sr _ (.int _)⟩
  · have := hn M ps (fun i j z => e ⟨i, j, z⟩)
    simp only [this] at h
    exact h.elim
theorem two_no {M : Store} {f : Bi} (hf : f = .max ∨ f = .min) {ps : List PV} (h : ∀ i j, ps ≠ [.int i, .int j]) : doBi M f ps = .bad := by
  match ps, h with
  | [], _ => rcases hf with rfl | rfl <;> rfl
  | [a], _ => rcases hf with rfl | rfl <;> cases a <;> rfl
  | [a, b], h => rcases hf with rfl | rfl <;> cases a <;> cases b <;> first | rfl | exact absurd rfl (h _ _)
  | a :: b :: d :: r, _ => rcases hf with rfl | rfl <;> cases a <;> cases b <;> rfl
theorem c_max (hc : X.calm = true) : CallR X (.builtin "max") (rB X .max) := two_ints (fun _ _ _ => rfl) (fun _ _ h => two_no (Or.inl rfl) h) (call_max2 hc)
theorem c_min (hc : X.calm = true) : CallR X (.builtin "min") (rB X .min) := two_ints (fun _ _ _ => rfl) (fun _ _ h => two_no (Or.inr rfl) h) (call_min2 hc)
theorem bools_rel {H : Hp} {ρ : List Addr} : ∀ {xs : List PV} {vs : List V} {bs : List Bool}, RPs X.K H ρ xs vs → bools xs = some bs → vs = bs.map V.bl
  | _, _, _, .nil, h => by cases h; rfl
  | _, _, _, .cons r rs, h => by
    cases r with
    | bl b =>
      simp only [bools, Option.map_eq_some_iff] at h
      obtain ⟨bs, h1, rfl⟩ := h
      rw [bools_rel rs h1]; rfl
    | _ => cases h
theorem ints_rel {H : Hp} {ρ : List Addr} : ∀ {xs : List PV} {vs : List V} {bs : List Int}, RPs X.K H ρ xs vs → intsOf xs = some bs → vs = bs.map V.int
  | _, _, _, .nil, h => by cases h; rfl
  | _, _, _, .cons r rs, h => by
    cases r with
    | int b =>
      simp only [intsOf, Option.map_eq_some_iff] at h
      obtain ⟨bs, h1, rfl⟩ := h
      rw [ints_rel rs h1]; rfl
    | _ => cases h
/-- of a list alone -/
theorem one_list {f : Bi} {cf : Value} {g : List PV → Option PV} (hf : ∀ M n xs, M[n]? = some (.lst xs) → doBi M f [.loc n] = match g xs with
      | some p => .ok p M
      | none => .bad) (hn : ∀ M ps, (∀ n xs, ps = [.loc n] → M[n]? ≠ some (.lst xs)) → doBi M f ps = .bad)
    (hc : CallR X cf (fun ys H Q => ∃ a vs, ys = [.ref a] ∧ SqL X.K H a vs ∧ ∃ ρ xs p, RPs X.K H ρ xs vs ∧ g xs = some p ∧ ∀ v, RP X.K H ρ p v → Q v H)) : CallR X cf (rB X f) := by
  refine callr_imp hc ?_
  rintro ys H Q ⟨ρ, M, ps, sr, rs, h⟩
  have h := h []
  by_cases e : ∃ n xs, ps = [.loc n] ∧ M[n]? = some (.lst xs)
  · obtain ⟨n, xs, rfl, hm⟩ := e
    obtain ⟨v, rfl, r⟩ := rps1 rs
    cases r with
    | @loc _ a ha =>
      obtain ⟨vs, e1, r1⟩ := sr.lst ha hm
      simp only [hf M n xs hm] at h
      split at h
      · rename_i p hg
        exact ⟨a, vs, rfl, SqL.of e1, ρ, xs, p, r1, hg, fun v r => post_ok h sr v r⟩
      · exact h.elim
  · have := hn M ps (fun n xs z w => e ⟨n, xs, z, w⟩)
    simp only [this] at h
    exact h.elim
theorem list_no {M : Store} {f : Bi} (hf : f = .all ∨ f = .any ∨ f = .sum) {ps : List PV} (h : ∀ n xs, ps = [.loc n] → M[n]? ≠ some (.lst xs)) : doBi M f ps = .bad := by
  match ps, h with
  | [], _ => rcases hf with rfl | rfl | rfl <;> rfl
  | [.loc n], h =>
    have h := fun xs => h n xs rfl
    rcases hf with rfl | rfl | rfl
    all_goals
      unfold doBi
      dsimp only
      split
      · rename_i w hw
        exact absurd hw (h _)
      · rfl
  | [.non], _ => rcases hf with rfl | rfl | rfl <;> rfl
  | [.bl _], _ => rcases hf with rfl | rfl | rfl <;> rfl
  | [.int _], _ => rcases hf with rfl | rfl | rfl <;> rfl
  | [.str _], _ => rcases hf with rfl | rfl | rfl <;> rfl
  | [.tup _], _ => rcases hf with rfl | rfl | rfl <;> rfl
  | [.fl _], _ => rcases hf with rfl | rfl | rfl <;> rfl
  | a :: b :: r, _ => rcases hf with rfl | rfl | rfl <;> cases a <;> rfl
theorem c_all (hc : X.calm = true) : CallR X (.builtin "all") (rB X .all) :=
  one_list (g := fun xs => (bools xs).map fun bs => .bl (bs.all id)) (fun M n xs hm => by simp only [doBi, hm]; cases bools xs <;> rfl) (fun _ _ h => list_no (Or.inl rfl) h)
    (callr_imp (cr_all hc) fun ys H Q ⟨a, vs, e, hs, ρ, xs, p, r, hg, q⟩ => by
      simp only [Option.map_eq_some_iff] at hg
      obtain ⟨bs, h1, rfl⟩ := hg
      exact ⟨a, bs, e, bools_rel r h1 ▸ hs, q _ (.bl _)⟩)
theorem c_any (hc : X.calm = true) : CallR X (.builtin "any") (rB X .any) :=
  one_list (g := fun xs => (bools xs).map fun bs => .bl (bs.any id)) (fun M n xs hm => by simp only [doBi, hm]; cases bools xs <;> rfl) (fun _ _ h => list_no (Or.inr (Or.inl rfl)) h)
    (callr_imp (cr_any hc) fun ys H Q ⟨a, vs, e, hs, ρ, xs, p, r, hg, q⟩ => by
      simp only [Option.map_eq_some_iff] at hg
      obtain ⟨bs, h1, rfl⟩ := hg
      exact ⟨a, bs, e, bools_rel r h1 ▸ hs, q _ (.bl _)⟩)
theorem c_sum (hc : X.calm = true) : CallR X (.builtin "sum") (rB X .sum) :=
  one_list (g := fun xs => (intsOf xs).map fun bs => .int bs.sum) (fun M n xs hm => by simp only [doBi, hm]; cases intsOf xs <;> rfl) (fun _ _ h => list_no (Or.inr (Or.inr rfl)) h)
    (callr_imp (cr_sum hc) fun ys H Q ⟨a, vs, e, hs, ρ, xs, p, r, hg, q⟩ => by
      simp only [Option.map_eq_some_iff] at hg
      obtain ⟨bs, h1, rfl⟩ := hg
      exact ⟨a, bs, e, ints_rel r h1 ▸ hs, q _ (.int _)⟩)
/-! ### dicts -/
theorem key_inj {a k : PV} {q : Key} (ha : keyOf a = some q) (hk : keyOf k = some q) : a = k := by
  cases a <;> first | (cases ha; done) | skip
  all_goals (cases k <;> first | (cases hk; done) | skip)
  all_goals simp only [keyOf, Option.some.injEq] at ha hk
  all_goals (rw [← hk] at ha; cases ha; try rfl)
theorem key_eq {a k : PV} {e q : Key} (ha : keyOf a = some e) (hk : keyOf k = some q) : decide (a = k) = decide (e = q) := by
  by_cases h : a = k
  · subst h; rw [ha] at hk; cases hk; simp
  · rw [decide_eq_false h, decide_eq_false fun z => h (by subst z; exact key_inj ha hk)]
theorem RKV.any {K : PySem.W.Frag} {H : Hp} {ρ : List Addr} {k : PV} {q : Key} (hk : keyOf k = some q) : ∀ {kvs : List (PV × PV)} {us : List (Key × V)}, RKV K H ρ kvs us → (kvs.any fun p => decide (p.1 = k)) = us.any fun kv => decide (kv.1 = q)
  | _, _, .nil => rfl
  | _, _, .cons ka _ r => by rw [List.any_cons, List.any_cons, RKV.any hk r, key_eq ka hk]
theorem RKV.map {K : PySem.W.Frag} {H : Hp} {ρ : List Addr} {k x : PV} {q : Key} {v : V} (hk : keyOf k = some q) (hx : RP K H ρ x v) : ∀ {kvs : List (PV × PV)} {us : List (Key × V)}, RKV K H ρ kvs us → RKV K H ρ (kvs.map fun p => if p.1 = k then (p.1, x) else p) (us.map fun kv => if kv.1 = q then (kv.1, v) else kv)
  | _, _, .nil => .nil
  | _, _, .cons (k := a) (q := e) ka ra r => by
    rw [List.map_cons, List.map_cons]
    by_cases h : a = k
    · have h' : e = q := by subst h; rw [ka] at hk; cases hk; rfl
      rw [if_pos h, if_pos h']
      exact .cons ka hx (RKV.map hk hx r)
    · have h' : ¬ e = q := fun z => h (by subst z; exact key_inj ka hk)
      rw [if_neg h, if_neg h']
      exact .cons ka ra (RKV.map hk hx r)
theorem RKV.snoc {K : PySem.W.Frag} {H : Hp} {ρ : List Addr} {k x : PV} {q : Key} {v : V} (hk : keyOf k = some q) (hx : RP K H ρ x v) : ∀ {kvs : List (PV × PV)} {us : List (Key × V)}, RKV K H ρ kvs us → RKV K H ρ (kvs ++ [(k, x)]) (us ++ [(q, v)])
  | _, _, .nil => .cons hk hx .nil
  | _, _, .cons ka ra r => .cons ka ra (RKV.snoc hk hx r)
theorem RKV.put {K : PySem.W.Frag} {H : Hp} {ρ : List Addr} {k x : PV} {q : Key} {v : V} (hk : keyOf k = some q) (hx : RP K H ρ x v) {kvs : List (PV × PV)} {us : List (Key × V)} (r : RKV K H ρ kvs us) : RKV K H ρ (putD k x kvs) (putK us q v) := by
  unfold putD putK
  rw [r.any hk]
  split
  · exact r.map hk hx
  · exact r.snoc hk hx
theorem RKV.merge {K : PySem.W.Frag} {H : Hp} {ρ : List Addr} : ∀ {ps acc : List (PV × PV)} {us bs : List (Key × V)}, RKV K H ρ ps us → RKV K H ρ acc bs → RKV K H ρ (mergeD acc ps) (mergeK bs us)
  | _, _, _, _, .nil, r => r
  | _, _, _, _, .cons hk hx rs, r => by
    have q := RKV.merge rs (r.put hk hx)
    exact q
theorem pairs_rel {H : Hp} {ρ : List Addr} : ∀ {xs : List PV} {vs : List V} {ps : List (PV × PV)}, RPs X.K H ρ xs vs → pairs xs = some ps → ∃ (as : List Addr) (kvs : List (Key × V)), vs = as.map V.ref ∧ Paired (fun p kv => SqT X.K H p [kV kv.1, kv.2]) as kvs ∧ RKV X.K H ρ ps kvs
  | _, _, _, .nil, h => by cases h; exact ⟨[], [], rfl, .nil, .nil⟩
  | x :: _, _, ps, .cons r rs, h => by
    match x, h, r with
    | .tup [k, p], h, .tup (a := a) ha ra =>
      simp only [pairs] at h
      split at h
      · rename_i hk
        simp only [Option.map_eq_some_iff] at h
        obtain ⟨qs, h1, rfl⟩ := h
        obtain ⟨v, w, rfl, r1, r2⟩ := rps2 ra
        obtain ⟨q, hq, rfl⟩ := key_rel r1 hk
        obtain ⟨as, kvs, e1, e2, e3⟩ := pairs_rel rs h1
        exact ⟨a :: as, (q, w) :: kvs, by rw [e1]; rfl, .cons ha e2, .cons hq r2 e3⟩
      · cases h
    | .non, h, _ => cases h
    | .bl _, h, _ => cases h
    | .int _, h, _ => cases h
    | .str _, h, _ => cases h
    | .loc _, h, _ => cases h
    | .fl _, h, _ => cases h
    | .tup [], h, _ => cases h
    | .tup [_], h, _ => cases h
    | .tup (_ :: _ :: _ :: _), h, _ => cases h
theorem or_dic {K : PySem.W.Frag} {mg : Str → Option Value} {H : Hp} {ρ : List Addr} {M : Store} {p : Addr} {us : List (Key × V)} {ps : List (PV × PV)} (S : SR K mg H ρ M) (hp : H p = none) (r : RKV K H ρ ps us) : OR K mg (upd H p (.dK us)) (ρ ++ [p]) p (.dic ps) :=
  ⟨us, upd_same, r.ext S.mv (ext_laid S hp)⟩
theorem lay_dic {K : PySem.W.Frag} {mg : Str → Option Value} {H : Hp} {ρ : List Addr} {M : Store} {W : EW} {σ : L2.St} {Q : VK} {ps : List (PV × PV)} {us : List (Key × V)} (S : SR K mg H ρ M) (r : RKV K H ρ ps us) (h : post K mg W σ H ρ (.ok (.loc M.length) (M ++ [.dic ps])) (gE K Q)) {p : Addr} (hp : H p = none) : Q (.ref p) (upd H p (.dK us)) :=
  h _ _ (ext_laid S hp) (S.laid hp (or_dic S hp r)) _ (loc_new S)
theorem c_dcopy : CallR X (.type "dict") (fun xs H Q => ∃ p kvs, xs = [.ref p] ∧ H p = some (.dK kvs) ∧ ∀ l, H l = none → Q (.ref l) (upd H l (.dK kvs))) := by
  rintro pins s σ H xs us Q I r ⟨p, kvs, rfl, e, q⟩
  obtain ⟨u, rfl, ru⟩ := vals1 r
  cases ru
  exact d_copyOf I (Rd.of e) fun l s' hl I' => ⟨.ref l, _, I', rfl, q l hl⟩
theorem c_dict (hc : X.calm = true) : CallR X (.type "dict") (rB X .dict) := by
  refine callr_imp ((call_dictP hc).or c_dcopy) ?_
  rintro xs H Q ⟨ρ, M, ps, sr, rs, h⟩
  have h := h []
  match ps, rs, h with
  | [.loc n], rs, h =>
    obtain ⟨v, rfl, r⟩ := rps1 rs
    cases r with
    | @loc _ a ha =>
      simp only [doBi] at h
      split at h
      · rename_i ys hm
        obtain ⟨vs, e1, r1⟩ := sr.lst ha hm
        split at h
        · rename_i qs hp
          obtain ⟨as, kvs, rfl, e3, e4⟩ := pairs_rel r1 hp
          exact Or.inl ⟨a, as, kvs, rfl, SqL.of e1, e3, fun p hp => lay_dic sr (e4.merge .nil) h hp⟩
        · exact h.elim
      · rename_i kvs hm
        obtain ⟨us, e1, r1⟩ := sr.dic ha hm
        exact Or.inr ⟨a, us, rfl, e1, fun p hp => lay_dic sr r1 h hp⟩
      · exact h.elim
  | [], _, h => exact h.elim
  | [.non], _, h => exact h.elim
  | [.bl _], _, h => exact h.elim
  | [.int _], _, h => exact h.elim
  | [.str _], _, h => exact h.elim
  | [.tup _], _, h => exact h.elim
  | [.fl _], _, h => exact h.elim
  | a :: _ :: _, _, h => cases a <;> exact h.elim
end
end Wn
end
section
/-! So8: calls of built-ins, of methods, of own defs. -/
namespace Wn
open PySem PySem.Spec PyProof.Rows L2

theorem noErr_bi (M : Store) (f : Bi) (ps : List PV) : NoErr (doBi M f ps) := by
  intro x M' e
  unfold doBi at e
  repeat' split at e
  all_goals first | cases e | skip
theorem noErr_bm (M : Store) (m : Bm) (o : PV) (ps : List PV) : NoErr (doBm M m o ps) := by
  intro x M' e
  unfold doBm at e
  repeat' split at e
  all_goals first | cases e | skip

section
variable {X : Cx} {W : EW} {c : Ctx} {e : Expr} {es : List Expr} {ms : Exs} {pos p : Pos} {x : Str}
theorem of_args {r : List V → Hp → VK → Prop} {f : Store → List PV → Res PV} {m : Ex} (hm : ∀ E M, evE c m E M = (evEs c ms E M).bind fun xs M1 => f M1 xs) (hn : ∀ M ps, NoErr (f M ps)) {σ : L2.St} {H : Hp} {Q : VK}
    (h : tE X.K X.mg W (evE c m) σ H Q) (hr : ∀ vs H Q, rL X.K X.mg f vs H Q → r vs H Q) : tA X.K X.mg W (evEs c ms) σ H fun vs H1 => r vs H1 Q := by
  obtain ⟨ρ, E, M, er, sr, h⟩ := h
  rw [hm] at h
  exact ⟨ρ, E, M, er, sr, post_imp (post_bind h) fun ρ1 H1 xs M1 e1 s1 h1 vs rs => hr _ _ _ ⟨ρ1, M1, xs, s1, rs, fun σ' => post_no (hn M1 xs) h1⟩⟩
theorem e_biB {f : Bi} {id : String} (hc : CallR X (.builtin id) (rB X f)) (hg : Gl X x) (hm : X.mg x = none) (hv : bootBuiltins x = some (.builtin id)) (ha : SA X W c (e :: es) ms) (hn : x ≠ "__name__") (hdb : (x == ("__debug__" : Str)) = false)
    (he : starEach (e :: es) X.env = (false, eval e X.env) :: starEach es X.env) (hpl : (backTo pos (starEach es X.env)).any (·.1) = false) : SE X W c (.Call (.Name x p) (e :: es) [] pos) (.bi f ms) :=
  pe_imp (pe_callB hc hg hm hv ha hn hdb he hpl) fun σ H Q h => of_args (f := fun M ps => doBi M f ps) (fun _ _ => rfl) (fun M ps => noErr_bi M f ps) h fun _ _ _ q => q
theorem e_biT {f : Bi} {T : String} (hc : CallR X (.type T) (rB X f)) (hg : Gl X x) (hm : X.mg x = none) (hv : bootBuiltins x = some (.type T)) (ha : SA X W c (e :: es) ms) (hn : x ≠ "__name__") (hdb : (x == ("__debug__" : Str)) = false)
    (he : starEach (e :: es) X.env = (false, eval e X.env) :: starEach es X.env) (hpl : (backTo pos (starEach es X.env)).any (·.1) = false) : SE X W c (.Call (.Name x p) (e :: es) [] pos) (.bi f ms) :=
  pe_imp (pe_callTy hc hg hm hv ha hn hdb he hpl) fun σ H Q h => of_args (f := fun M ps => doBi M f ps) (fun _ _ => rfl) (fun M ps => noErr_bi M f ps) h fun _ _ _ q => q
/-! ### methods of lists -/
abbrev rMt (X : Cx) (m : Bm) : V → List V → Hp → VK → Prop := rM X.K X.mg fun M o ps => doBm M m o ps
/-- the receiver is a list of ours -/
theorem bm_list {m : Bm} {H : Hp} {Q : VK} {x : V} {xs : List V} {r : Prop} (hm : m ≠ .get ∧ m ≠ .dpop) (h : rMt X m x xs H Q)
    (k : ∀ ρ M n a ys vs ps, SR X.K X.mg H ρ M → ρ[n]? = some a → M[n]? = some (.lst ys) → H a = some (.lst vs) → RPs X.K H ρ ys vs → RPs X.K H ρ ps xs → x = .ref a → post X.K X.mg EW.no [] H ρ (doBm M m (.loc n) ps) (gE X.K Q) → r) : r := by
  obtain ⟨ρ, M, o, ps, sr, ro, rs, h⟩ := h
  have h := h []
  cases ro with
  | @loc n a ha =>
    have h0 := h
    simp only [doBm] at h
    split at h
    · rename_i ys hm'
      obtain ⟨vs, e1, r1⟩ := sr.lst ha hm'
      exact k ρ M n a ys vs ps sr ha hm' e1 r1 rs rfl h0
    · exfalso
      split at h
      · exact hm.1 rfl
      · exact h
    · exact h.elim
  | _ => exact h.elim
theorem m_append : MtR X "list.append" (rMt X .append) := mtr_imp mt_append fun x xs H Q h0 => bm_list ⟨by decide, by decide⟩ h0 fun ρ M n a ys vs ps sr ha hm e1 r1 rs ex h => by
  subst ex
  simp only [doBm, hm] at h
  match ps, rs, h with
  | [q], rs, h =>
    obtain ⟨v, rfl, rv⟩ := rps1 rs
    dsimp only at h
    split at h
    · rename_i hl
      exact ⟨a, vs, v, rfl, rfl, e1, by rw [← r1.length]; exact lt_big hl, put_lst sr ha (r1.snoc rv) .non h⟩
    · exact h.elim
  | [], _, h => exact h.elim
  | _ :: _ :: _, _, h => exact h.elim
theorem m_extend : MtR X "list.extend" (rMt X .extend) := mtr_imp mt_extend fun x xs H Q h0 => bm_list ⟨by decide, by decide⟩ h0 fun ρ M n a ys vs ps sr ha hm e1 r1 rs ex h => by
  subst ex
  simp only [doBm, hm] at h
  match ps, rs, h with
  | [.loc k], rs, h =>
    obtain ⟨v, rfl, rv⟩ := rps1 rs
    cases rv with
    | @loc _ b hb =>
      dsimp only at h
      split at h
      · rename_i zs hz
        obtain ⟨us, e2, r2⟩ := sr.lst hb hz
        split at h
        · rename_i hl
          exact ⟨a, b, vs, us, rfl, rfl, e1, e2, by rw [← r1.length, ← r2.length]; exact le_big hl, put_lst sr ha (r1.append r2) .non h⟩
        · exact h.elim
      · exact h.elim
  | [], _, h => exact h.elim
  | [.non], _, h => exact h.elim
  | [.bl _], _, h => exact h.elim
  | [.int _], _, h => exact h.elim
  | [.str _], _, h => exact h.elim
  | [.tup _], _, h => exact h.elim
  | [.fl _], _, h => exact h.elim
  | a :: _ :: _, _, h => cases a <;> exact h.elim
theorem m_pop : MtR X "list.pop" (rMt X .pop) := mtr_imp mt_pop fun x xs H Q h0 => bm_list ⟨by decide, by decide⟩ h0 fun ρ M n a ys vs ps sr ha hm e1 r1 rs ex h => by
  subst ex
  simp only [doBm, hm] at h
  match ps, rs, h with
  | [], rs, h =>
    cases rs
    dsimp only at h
    split at h
    · rename_i y hy
      obtain ⟨v, h1, h2⟩ := r1.get hy
      exact ⟨a, vs, v, rfl, rfl, e1, by rw [← r1.length]; exact h1, put_lst sr ha r1.dropLast h2 h⟩
    · exact h.elim
  | a :: _, _, h => exact h.elim
theorem m_clear : MtR X "list.clear" (rMt X .clear) := mtr_imp mt_clear fun x xs H Q h0 => bm_list ⟨by decide, by decide⟩ h0 fun ρ M n a ys vs ps sr ha hm e1 r1 rs ex h => by
  subst ex
  simp only [doBm, hm] at h
  match ps, rs, h with
  | [], rs, h =>
    cases rs
    exact ⟨a, vs, rfl, rfl, e1, put_lst sr ha .nil .non h⟩
  | a :: _, _, h => exact h.elim
variable {o : Expr} {eo : Ex} {name : Str} {apos cpos : Pos} {id : String}
theorem bm_read {m : Bm} (hk : m ≠ .get ∧ m ≠ .dpop) {σ : L2.St} {H : Hp} {Q : VK} (h : tE X.K X.mg W (evE c (.bm m eo ms)) σ H Q) :
    tE X.K X.mg W (evE c eo) σ H fun x H1 => tyV X.K "list" x H1 ∧ tA X.K X.mg W (evEs c ms) σ H1 fun xs H2 => rMt X m x xs H2 Q := by
  obtain ⟨ρ, E, M, er, sr, h⟩ := h
  refine ⟨ρ, E, M, er, sr, post_imp (post_bind h) fun ρ1 H1 q M1 e1 s1 h1 v1 r1 => ?_⟩
  split at h1
  · rename_i hb
    have ty : tyV X.K "list" v1 H1 := by
      cases r1 with
      | @loc n a ha =>
        simp only [bmOk] at hb
        split at hb
        · rename_i ys hm
          obtain ⟨vs, e2, r2⟩ := s1.lst ha hm
          exact Or.inl ⟨rfl, vs, SqL.of e2⟩
        · cases m <;> first | (cases hb; done) | exact absurd rfl hk.1 | exact absurd rfl hk.2
        · cases hb
      | _ => cases hb
    refine ⟨ty, ρ1, E, M1, er.ext sr.mv e1, s1, post_imp (post_bind h1) fun ρ2 H2 xs M2 e2 s2 h2 vs rs => ?_⟩
    exact ⟨ρ2, M2, q, xs, s2, r1.ext s1.mv e2, rs, fun σ' => post_no (noErr_bm _ _ _ _) h2⟩
  · exact h1.elim
theorem e_bm0 {m : Bm} (hk : m ≠ .get ∧ m ≠ .dpop) (slot : Slot "list" name id) (hty : typeOf (.builtin id) = pure (.type "method_descriptor")) (hm : MtR X id (rMt X m)) (ho : SE X W c o eo)
    (hbase : attributeBase o name X.env (eval o X.env) = eval o X.env) (hline : (apos.endLine == cpos.line) = true) : SE X W c (.Call (.Attribute o name apos) [] [] cpos) (.bm m eo .nil) :=
  pe_imp (pe_bm0 PySem.F.plainAttrs_list slot hty hm ho hbase hline) fun σ H Q h => by
    obtain ⟨ρ, E, M, er, sr, h⟩ := bm_read hk h
    refine ⟨ρ, E, M, er, sr, post_imp h fun ρ1 H1 q M1 e1 s1 h1 v1 r1 => ?_⟩
    obtain ⟨ty, ρ2, E2, M2, er2, sr2, h2⟩ := h1 v1 r1
    exact ⟨ty, post_ok h2 sr2 _ .nil⟩
theorem e_bm {m : Bm} (hk : m ≠ .get ∧ m ≠ .dpop) (slot : Slot "list" name id) (hty : typeOf (.builtin id) = pure (.type "method_descriptor")) (hm : MtR X id (rMt X m)) (ho : SE X W c o eo) (ha : SA X W c (e :: es) ms)
    (hbase : attributeBase o name X.env (eval o X.env) = eval o X.env)
    (hfew : ((backTo cpos (starEach (e :: es) X.env)).all (fun x => !x.1) && (backToKw cpos (keywordEach [] X.env)).all (fun x => x.1.isSome)
      && decide ((e :: es).length + ([] : List Keyword).length + (if ([] : List Keyword).isEmpty then 0 else 1) < 30)) = true)
    (hline : (apos.endLine == cpos.line) = true) (hs : starEach (e :: es) X.env = (false, eval e X.env) :: starEach es X.env) (hplain : (backTo cpos (starEach es X.env)).any (·.1) = false) :
    SE X W c (.Call (.Attribute o name apos) (e :: es) [] cpos) (.bm m eo ms) :=
  pe_imp (pe_bm PySem.F.plainAttrs_list slot hty hm ho ha hbase hfew hline hs hplain) fun σ H Q h => bm_read hk h
/-! ### isinstance -/
def tyName : Ty → String
  | .str => "str" | .int => "int" | .bool => "bool" | .tuple => "tuple" | .list => "list" | .dict => "dict" | .cls _ => ""
def isOwn : Ty → Bool
  | .cls _ => true
  | _ => false
theorem kit_of_names {K : PySem.W.Frag} {a : String} {t : Ty} {b : Bool} (h : kitB a (tyName t) = some b) : PySem.W.kitOne K (.type a) (.type (tyName t)) = some b := kit_ty h
theorem sqT_ty {K : PySem.W.Frag} {H : Hp} {a : Addr} {vs : List V} (h : SqT K H a vs) : TyX K H (.ref a) (.type "tuple") := by
  rcases h with (h | ⟨o, h⟩) | ⟨o, its, n, h1, h2, _⟩
  · exact .base (.tup h)
  · exact .fTuple h
  · exact .kTuple h1 h2
theorem isTy_kit {H : Hp} {ρ : List Addr} {M : Store} {q : PV} {v : V} {t : Ty} {b : Bool} (ho : isOwn t = false) (S : SR X.K X.mg H ρ M) (r : RP X.K H ρ q v) (h : isTy M q t = some b) : ∃ u, TyX X.K H v u ∧ PySem.W.kitOne X.K u (.type (tyName t)) = some b := by
  cases r with
  | non =>
    refine ⟨_, .base .non, kit_of_names ?_⟩
    cases t <;> first | (cases ho; done) | skip
    all_goals (cases h; decide +kernel)
  | bl k =>
    refine ⟨_, .base (.bl k), kit_of_names ?_⟩
    cases t <;> first | (cases ho; done) | skip
    all_goals (cases h; decide +kernel)
  | int k =>
    refine ⟨_, .base (.int k), kit_of_names ?_⟩
    cases t <;> first | (cases ho; done) | skip
    all_goals (cases h; decide +kernel)
  | str k =>
    refine ⟨_, .base (.str k), kit_of_names ?_⟩
    cases t <;> first | (cases ho; done) | skip
    all_goals (cases h; decide +kernel)
  | @tup a vs xs ha ra =>
    refine ⟨_, sqT_ty ha, kit_of_names ?_⟩
    cases t <;> first | (cases ho; done) | skip
    all_goals (cases h; decide +kernel)
  | @loc n a ha =>
    simp only [isTy] at h
    split at h
    · rename_i ys hm
      obtain ⟨vs, e1, r1⟩ := S.lst ha hm
      refine ⟨_, .base (.lst e1), kit_of_names ?_⟩
      cases t <;> first | (cases ho; done) | skip
      all_goals (cases h; decide +kernel)
    · rename_i ys hm
      obtain ⟨vs, e1, r1⟩ := S.dic ha hm
      refine ⟨_, .base (.dK e1), kit_of_names ?_⟩
      cases t <;> first | (cases ho; done) | skip
      all_goals (cases h; decide +kernel)
    · cases h
  | fl _ => cases h
variable {ea : Ex} {t : Ty} {q2 : Pos}
theorem isi_base (ho : isOwn t = false) (ha : SE X W c e ea) (hg : Gl X "isinstance") (hm : X.mg "isinstance" = none) (hgt : Gl X (tyName t)) (hmt : X.mg (tyName t) = none) (hvt : bootBuiltins (tyName t) = some (.type (tyName t)))
    (hnt : ((tyName t : Str)) ≠ "__name__") (hdt : (((tyName t : Str)) == ("__debug__" : Str)) = false) (hs : starEach [e, .Name (tyName t) q2] X.env = (false, eval e X.env) :: starEach [.Name (tyName t) q2] X.env) :
    PE X (.Call (.Name "isinstance" p) [e, .Name (tyName t) q2] [] pos) (fun σ H Q => tE X.K X.mg W (evE c ea) σ H fun x H1 => ∃ ρ M r b, SR X.K X.mg H1 ρ M ∧ RP X.K H1 ρ r x ∧ isTy M r t = some b ∧ Q (.bl b) H1) :=
  pe_imp (pe_callB call_isi hg hm (by decide +kernel) (pa_cons ha (pa_cons (pe_bltn (v := .ty (tyName t)) hgt hmt hvt rfl hnt hdt) pa_nil rfl) hs) (by decide) (by decide) hs rfl) fun σ H Q h => by
    obtain ⟨ρ, E, M, er, sr, h⟩ := h
    refine ⟨ρ, E, M, er, sr, post_imp h fun ρ1 H1 x M1 e1 s1 h1 v1 r1 => ?_⟩
    obtain ⟨ρ2, M2, r, b, s2, r2, hb, q⟩ := h1 v1 r1
    obtain ⟨u, k1, k2⟩ := isTy_kit ho s2 r2 hb
    exact ⟨v1, .ty (tyName t), u, .type (tyName t), b, rfl, .ty _, k1, k2, q⟩
theorem e_isi (ho : isOwn t = false) (ha : SE X W c e ea) (hg : Gl X "isinstance") (hm : X.mg "isinstance" = none) (hgt : Gl X (tyName t)) (hmt : X.mg (tyName t) = none) (hvt : bootBuiltins (tyName t) = some (.type (tyName t)))
    (hnt : ((tyName t : Str)) ≠ "__name__") (hdt : (((tyName t : Str)) == ("__debug__" : Str)) = false) (hs : starEach [e, .Name (tyName t) q2] X.env = (false, eval e X.env) :: starEach [.Name (tyName t) q2] X.env) :
    SE X W c (.Call (.Name "isinstance" p) [e, .Name (tyName t) q2] [] pos) (.isi ea t) :=
  pe_imp (isi_base ho ha hg hm hgt hmt hvt hnt hdt hs) fun σ H Q h => by
    obtain ⟨ρ, E, M, er, sr, h⟩ := h
    refine ⟨ρ, E, M, er, sr, post_imp (post_bind h) fun ρ1 H1 x M1 e1 s1 h1 v1 r1 => ?_⟩
    obtain ⟨b, hb, q⟩ := post_B s1 h1
    exact ⟨ρ1, M1, x, b, s1, r1, hb, q⟩
end
end Wn
end
section
/-! So9: what is walked, comprehensions, loops, statements. -/
namespace Wn
open PySem PySem.Spec PyProof.Rows L2

/-! ### less than an extension keeps what stands for what -/
structure Kp (ρ : List Addr) (H : Hp) (ρ' : List Addr) (H' : Hp) : Prop where
  tup : ∀ a xs, H a = some (.tup xs) → H' a = some (.tup xs)
  frz : ∀ a o u, H a = some (.frz o u) → H' a = some (.frz o u)
  get : ∀ (n : Nat) (a : Addr), ρ[n]? = some a → ρ'[n]? = some a
section
variable {K : PySem.W.Frag} {mg : Str → Option Value} {H H' : Hp} {ρ ρ' : List Addr} {M : Store}
theorem Kp.sq (k : Kp ρ H ρ' H') {a : Addr} {xs : List V} (h : SqT K H a xs) : SqT K H' a xs := by
  rcases h with (h | ⟨o, h⟩) | h
  · exact Or.inl (Or.inl (k.tup _ _ h))
  · exact Or.inl (Or.inr ⟨o, k.frz _ _ _ h⟩)
  · exact Or.inr h
theorem Kp.st (k : Kp ρ H ρ' H') {a : Addr} {xs : List V} (h : Still K H a xs) : Still K H' a xs := by
  rcases h with ⟨o, h⟩ | h
  · exact Or.inl ⟨o, k.frz _ _ _ h⟩
  · exact Or.inr h
mutual
theorem RP.kp (k : Kp ρ H ρ' H') : ∀ {p : PV} {v : V}, RP K H ρ p v → RP K H' ρ' p v
  | _, _, .non => .non
  | _, _, .bl b => .bl b
  | _, _, .int i => .int i
  | _, _, .str x => .str x
  | _, _, .tup h r => .tup (k.sq h) (RPs.kp k r)
  | _, _, .loc h => .loc (k.get _ _ h)
  | _, _, .fl h => .fl (k.st h)
theorem RPs.kp (k : Kp ρ H ρ' H') : ∀ {ps : List PV} {vs : List V}, RPs K H ρ ps vs → RPs K H' ρ' ps vs
  | _, _, .nil => .nil
  | _, _, .cons h r => .cons (RP.kp k h) (RPs.kp k r)
end
theorem RKV.kp (k : Kp ρ H ρ' H') : ∀ {ps : List (PV × PV)} {vs : List (Key × V)}, RKV K H ρ ps vs → RKV K H' ρ' ps vs
  | _, _, .nil => .nil
  | _, _, .cons q h r => .cons q (RP.kp k h) (RKV.kp k r)
theorem RFs.kp (k : Kp ρ H ρ' H') : ∀ {ps : List (Str × PV)} {vs : List (Str × V)}, RFs K H ρ ps vs → RFs K H' ρ' ps vs
  | _, _, .nil => .nil
  | _, _, .cons h r => .cons (RP.kp k h) (RFs.kp k r)
theorem OR.kp (k : Kp ρ H ρ' H') {a b : Addr} {o : MO} (h : OR K mg H ρ a o) (hb : H' b = H a) : OR K mg H' ρ' b o := by
  cases o with
  | lst xs =>
    obtain ⟨vs, h1, h2⟩ := h
    exact ⟨vs, hb.trans h1, h2.kp k⟩
  | dic kvs =>
    obtain ⟨us, h1, h2⟩ := h
    exact ⟨us, hb.trans h1, h2.kp k⟩
  | ins C fs =>
    obtain ⟨Ca, dx, us, h1, h2, h3⟩ := h
    exact ⟨Ca, dx, us, hb.trans h1, h2, h3.kp k⟩
theorem SR.kp (S : SR K mg H ρ M) (k : Kp ρ H ρ H') (h : ∀ a ∈ ρ, H' a = H a) : SR K mg H' ρ M :=
  ⟨S.len, S.nd, fun n a o h1 h2 => (S.obj n a o h1 h2).kp k (h a (List.mem_of_getElem? h1))⟩
theorem ER.kp {E : Env} {σ : L2.St} (k : Kp ρ H ρ' H') (h : ER K H ρ E σ) : ER K H' ρ' E σ :=
  ⟨h.1, fun i p q => by obtain ⟨v, a, b⟩ := h.2 i p q; exact ⟨v, a, b.kp k⟩⟩
theorem Ext.kp (mv : Mv H ρ) (e : Ext ρ H ρ' H') : Kp ρ H ρ' H' :=
  ⟨fun a xs h => e.keep a _ (fun z => (mv a z _ h).1 xs rfl) h, fun a o u h => e.keep a _ (fun z => (mv a z _ h).2 _ _ rfl) h, fun _ _ h => e.get h⟩
/-- a list that is none of ours is written -/
theorem kp_list {D : Addr} {l l' : List V} (h : H D = some (.lst l)) : Kp ρ H ρ (upd H D (.lst l')) :=
  ⟨fun a xs e => by rw [upd_ne (fun z => by rw [z, h] at e; cases e)]; exact e, fun a o u e => by rw [upd_ne (fun z => by rw [z, h] at e; cases e)]; exact e, fun _ _ h => h⟩
/-- the heap without D -/
def hide (D : Addr) (H : Hp) : Hp := fun b => if b = D then none else H b
theorem hide_ne {D b : Addr} (h : b ≠ D) : hide D H b = H b := if_neg h
theorem hide_self {D : Addr} : hide D H D = none := if_pos rfl
theorem ext_hide {D : Addr} (e : Ext ρ H ρ' H') : Ext ρ (hide D H) ρ' (hide D H') := by
  obtain ⟨τ, e1, f1⟩ := e.pre
  refine ⟨⟨τ, e1, fun a ha => ⟨(f1 a ha).1, ?_⟩⟩, fun a o ha h => ?_⟩
  · by_cases hd : a = D
    · rw [hd]; exact hide_self
    · rw [hide_ne hd]; exact (f1 a ha).2
  · by_cases hd : a = D
    · rw [hd, hide_self] at h; cases h
    · rw [hide_ne hd] at h ⊢; exact e.keep a o ha h
theorem hide_upd {D : Addr} {o : HO} : hide D (upd H D o) = hide D H := by
  funext b
  by_cases hd : b = D
  · rw [hd, hide_self, hide_self]
  · rw [hide_ne hd, hide_ne hd, upd_ne hd]
theorem hide_new {D : Addr} (h : H D = none) : hide D H = H := by
  funext b
  by_cases hd : b = D
  · rw [hd, hide_self, h]
  · rw [hide_ne hd]
theorem ext_shown {D : Addr} (hD : D ∉ ρ) : Ext ρ (hide D H) (ρ ++ [D]) H :=
  ⟨⟨[D], rfl, fun a h => by cases List.mem_singleton.mp h; exact ⟨hD, hide_self⟩⟩, fun a o _ h => by
    by_cases hd : a = D
    · rw [hd, hide_self] at h; cases h
    · rw [hide_ne hd] at h; exact h⟩
/-- D becomes one of ours -/
theorem SR.shown {D : Addr} {ps : List PV} {vs : List V} (S : SR K mg H ρ M) (hD : D ∉ ρ) (h : H D = some (.lst vs)) (r : RPs K H ρ ps vs) : SR K mg H (ρ ++ [D]) (M ++ [.lst ps]) := by
  have k : Kp ρ H (ρ ++ [D]) H := ⟨fun _ _ h => h, fun _ _ _ h => h, fun n a h => by rw [List.getElem?_append_left (List.getElem?_eq_some_iff.mp h).1]; exact h⟩
  refine ⟨by rw [List.length_append, List.length_append, S.len]; rfl, ?_, fun n a q h1 h2 => ?_⟩
  · exact List.nodup_append.mpr ⟨S.nd, (List.nodup_cons.mpr ⟨(fun z => nomatch z), List.nodup_nil⟩), fun x hx y hy => by cases List.mem_singleton.mp hy; exact fun z => hD (z ▸ hx)⟩
  · by_cases hn : n < ρ.length
    · rw [List.getElem?_append_left hn] at h1
      rw [List.getElem?_append_left (by rw [← S.len]; exact hn)] at h2
      exact (S.obj n a q h1 h2).kp k rfl
    · rw [List.getElem?_append_right (by omega)] at h1
      rw [List.getElem?_append_right (by have := S.len; omega)] at h2
      have hk : n - ρ.length = 0 := by
        have := (List.getElem?_eq_some_iff.mp h1).1
        simp at this; omega
      rw [hk] at h1
      rw [← S.len, hk] at h2
      simp at h1 h2
      subst h1 h2
      exact ⟨vs, h, r.kp k⟩
end

/-! ### what is walked -/
/-- J tells these items, while w stands and Src -/
structure ItR (K : PySem.W.Frag) (mg : Str → Option Value) (J : It) (xs : List PV) (w : Watch) (Src : List Addr → Hp → Prop) : Prop where
  stay : ∀ ρ H ρ' H', Kp ρ H ρ' H' → Src ρ H → Src ρ' H'
  go : ∀ ρ H M i, SR K mg H ρ M → Src ρ H → w.ok M = true → i < xs.length → J.go i H
  yld : ∀ ρ H M i x H', SR K mg H ρ M → Src ρ H → w.ok M = true → i < xs.length → J.yld i H x H' → ∃ p, xs[i]? = some p ∧ Ext ρ H ρ H' ∧ SR K mg H' ρ M ∧ RP K H' ρ p x
  stop : ∀ ρ H M i, SR K mg H ρ M → Src ρ H → w.ok M = true → xs.length ≤ i → J.stop i H
section
variable (K : PySem.W.Frag) (mg : Str → Option Value) (W : EW)
def tI (r : Env → Store → Res (List PV × Watch)) : TI := fun σ H R => ∃ ρ E M, ER K H ρ E σ ∧ SR K mg H ρ M ∧ post K mg W σ H ρ (r E M) (fun ρ' H' w _ => ∀ J Src, ItR K mg J w.1 w.2 Src → Src ρ' H' → R J H')
end
section
variable {K : PySem.W.Frag} {mg : Str → Option Value}
theorem it_tup {a : Addr} {xs : List PV} : ItR K mg (Itt K a) xs none (fun ρ H => ∃ vs, SqT K H a vs ∧ RPs K H ρ xs vs) where
  stay := fun ρ H ρ' H' k ⟨vs, h, r⟩ => ⟨vs, k.sq h, r.kp k⟩
  go := fun ρ H M i S ⟨vs, h, r⟩ _ hi => by
    obtain ⟨v, h1, _⟩ := r.get (List.getElem?_eq_getElem hi)
    exact ⟨vs, v, h, h1⟩
  yld := fun ρ H M i x H' S ⟨vs, h, r⟩ _ hi ⟨e, hy⟩ => by
    subst e
    obtain ⟨v, h1, h2⟩ := r.get (List.getElem?_eq_getElem hi)
    have := hy vs h
    rw [h1] at this; cases this
    exact ⟨_, List.getElem?_eq_getElem hi, Ext.refl _ _, S, h2⟩
  stop := fun ρ H M i S ⟨vs, h, r⟩ _ hi => ⟨vs, h, by rw [← r.length]; exact hi⟩
theorem it_list {a : Addr} {n : Nat} {xs : List PV} : ItR K mg (Itl K a) xs (some (n, xs)) (fun ρ _ => ρ[n]? = some a) where
  stay := fun ρ H ρ' H' k h => k.get _ _ h
  go := fun ρ H M i S h hw hi => by
    obtain ⟨vs, e1, r⟩ := S.lst h (of_decide_eq_true hw)
    obtain ⟨v, h1, _⟩ := r.get (List.getElem?_eq_getElem hi)
    exact ⟨vs, v, SqL.of e1, h1⟩
  yld := fun ρ H M i x H' S h hw hi ⟨e, hy⟩ => by
    subst e
    obtain ⟨vs, e1, r⟩ := S.lst h (of_decide_eq_true hw)
    obtain ⟨v, h1, h2⟩ := r.get (List.getElem?_eq_getElem hi)
    have := hy vs (SqL.of e1)
    rw [h1] at this; cases this
    exact ⟨_, List.getElem?_eq_getElem hi, Ext.refl _ _, S, h2⟩
  stop := fun ρ H M i S h hw hi => by
    obtain ⟨vs, e1, r⟩ := S.lst h (of_decide_eq_true hw)
    exact ⟨vs, SqL.of e1, by rw [← r.length]; exact hi⟩
theorem it_str {x : Str} : ItR K mg (Its x) (signs x) none (fun _ _ => True) where
  stay := fun _ _ _ _ _ h => h
  go := fun ρ H M i S h hw hi => by
    have : i < x.cps.size := by simpa [signs] using hi
    exact this
  yld := fun ρ H M i v H' S h hw hi ⟨e, ch, h1, h2⟩ => by
    subst e h2
    refine ⟨.str ⟨#[ch]⟩, ?_, Ext.refl _ _, S, .str _⟩
    simp only [signs, List.getElem?_map]
    have : x.cps.toList[i]? = some ch := by simpa using h1
    rw [this]; rfl
  stop := fun ρ H M i S h hw hi => by
    have : x.cps.size ≤ i := by simpa [signs] using hi
    exact this
theorem it_range {lo hi : Int} : ItR K mg (Itr lo (hi - lo).toNat) (rangeOf lo hi) none (fun _ _ => True) where
  stay := fun _ _ _ _ _ h => h
  go := fun ρ H M i S h hw hi' => by
    have : i < (hi - lo).toNat := by simpa [rangeOf] using hi'
    exact this
  yld := fun ρ H M i v H' S h hw hi' ⟨e, h2⟩ => by
    subst e h2
    have : i < (hi - lo).toNat := by simpa [rangeOf] using hi'
    exact ⟨.int (lo + i), by simp [rangeOf, this], Ext.refl _ _, S, .int _⟩
  stop := fun ρ H M i S h hw hi' => by
    have : (hi - lo).toNat ≤ i := by simpa [rangeOf] using hi'
    exact this
theorem enumFrom_length : ∀ (k : Nat) (xs : List PV), (enumFrom k xs).length = xs.length
  | _, [] => rfl
  | k, x :: xs => by rw [enumFrom, List.length_cons, List.length_cons, enumFrom_length]
theorem enumFrom_get : ∀ (k : Nat) (xs : List PV) (i : Nat), (enumFrom k xs)[i]? = (xs[i]?).map fun x => .tup [.int ((k + i : Nat) : Int), x]
  | _, [], i => by simp [enumFrom]
  | k, x :: xs, 0 => by simp [enumFrom]
  | k, x :: xs, i + 1 => by
    rw [enumFrom, List.getElem?_cons_succ, List.getElem?_cons_succ, enumFrom_get (k + 1) xs i]
    have : k + 1 + i = k + (i + 1) := by omega
    rw [this]
theorem it_enumL {a : Addr} {n : Nat} {xs : List PV} : ItR K mg (Ite K a) (enumFrom 0 xs) (some (n, xs)) (fun ρ _ => ρ[n]? = some a) where
  stay := fun ρ H ρ' H' k h => k.get _ _ h
  go := fun ρ H M i S h hw hi => by
    rw [enumFrom_length] at hi
    obtain ⟨vs, e1, r⟩ := S.lst h (of_decide_eq_true hw)
    obtain ⟨v, h1, _⟩ := r.get (List.getElem?_eq_getElem hi)
    exact ⟨vs, v, SqL.of e1, h1⟩
  yld := fun ρ H M i x H' S h hw hi ⟨T, y, ex, hT, eH, hy⟩ => by
    subst ex eH
    rw [enumFrom_length] at hi
    obtain ⟨vs, e1, r⟩ := S.lst h (of_decide_eq_true hw)
    obtain ⟨v, h1, h2⟩ := r.get (List.getElem?_eq_getElem hi)
    have := hy vs (SqL.of e1)
    rw [h1] at this; cases this
    refine ⟨.tup [.int i, xs[i]], ?_, ext_new hT, S.new hT, new_tup S hT (.cons (.int _) (.cons h2 .nil))⟩
    rw [enumFrom_get, List.getElem?_eq_getElem hi, Nat.zero_add]; rfl
  stop := fun ρ H M i S h hw hi => by
    rw [enumFrom_length] at hi
    obtain ⟨vs, e1, r⟩ := S.lst h (of_decide_eq_true hw)
    exact ⟨vs, SqL.of e1, by rw [← r.length]; exact hi⟩
end

section
variable {X : Cx} {W : EW} {c : Ctx} {tg e a b : Expr} {ea eb : Ex}
abbrev SI (X : Cx) (W : EW) (c : Ctx) (tg e : Expr) (m : Ix) : Prop := PI X tg e (tI X.K X.mg W (evI c m))
theorem i_of (h : SE X W c e ea) : SI X W c tg e (.of ea) :=
  pi_imp (pi_either (pi_either (pi_list h) (pi_tup h)) (pi_str h)) fun σ H R h => by
    obtain ⟨ρ, E, M, er, sr, h⟩ := h
    have h : post X.K X.mg W σ H ρ ((evE c ea E M).bind fun x M1 => lift M1 (walked M1 x)) (fun ρ' H' w _ => ∀ J Src, ItR X.K X.mg J w.1 w.2 Src → Src ρ' H' → R J H') := h
    cases hx : evE c ea E M with
    | err x M1 =>
      rw [hx] at h
      exact Or.inl (Or.inl ⟨ρ, E, M, er, sr, by rw [hx]; exact h⟩)
    | bad => rw [hx] at h; exact h.elim
    | ok x M1 =>
      rw [hx, Res.bind_ok] at h
      obtain ⟨w, hw, h2⟩ := post_lift h
      cases x with
      | tup xs =>
        cases hw
        refine Or.inl (Or.inr ⟨ρ, E, M, er, sr, ?_⟩)
        rw [hx]
        intro ρ1 H1 e1 s1 v1 r1
        cases r1 with
        | @tup t vs _ ht rt => exact ⟨t, rfl, ⟨vs, ht⟩, h2 ρ1 H1 e1 s1 _ _ it_tup ⟨vs, ht, rt⟩⟩
      | str s =>
        cases hw
        refine Or.inr ⟨ρ, E, M, er, sr, ?_⟩
        rw [hx]
        intro ρ1 H1 e1 s1 v1 r1
        cases r1
        exact ⟨s, rfl, h2 ρ1 H1 e1 s1 _ _ it_str trivial⟩
      | loc n =>
        simp only [walked] at hw
        split at hw
        · rename_i xs hm
          cases hw
          refine Or.inl (Or.inl ⟨ρ, E, M, er, sr, ?_⟩)
          rw [hx]
          intro ρ1 H1 e1 s1 v1 r1
          cases r1 with
          | @loc _ t ht =>
            obtain ⟨vs, g1, _⟩ := s1.lst ht hm
            exact ⟨t, rfl, ⟨vs, SqL.of g1⟩, h2 ρ1 H1 e1 s1 _ _ it_list ht⟩
        · cases hw
      | _ => cases hw
theorem bnd {i : Int} (h : inBound i = true) : -(2 ^ 62) ≤ i ∧ i < 2 ^ 62 := (inBound_iff i).1 h
theorem i_rng1 {p pos : Pos} (hg : Gl X "range") (hm : X.mg "range" = none) (h : SE X W c a ea) (hs : starEach [a] X.env = [(false, eval a X.env)]) : SI X W c tg (.Call (.Name "range" p) [a] [] pos) (.rng1 ea) :=
  pi_imp (pi_range1 hg hm (pa_cons h pa_nil hs) hs) fun σ H R h => by
    obtain ⟨ρ, E, M, er, sr, h⟩ := h
    refine ⟨ρ, E, M, er, sr, post_imp (post_bind h) fun ρ1 H1 x M1 e1 s1 h1 v1 r1 => ?_⟩
    cases r1 with
    | int i =>
      have h1 : post X.K X.mg W σ H1 ρ1 (if inBound i = true then .ok (rangeOf 0 i, none) M1 else .bad) (fun ρ' H' w _ => ∀ J Src, ItR X.K X.mg J w.1 w.2 Src → Src ρ' H' → R J H') := h1
      split at h1
      · obtain ⟨b1, b2⟩ := bnd ‹_›
        refine ⟨i, rfl, b1, b2, ?_⟩
        have q := post_ok h1 s1 _ _ (it_range (lo := 0) (hi := i)) trivial
        rw [Int.sub_zero] at q
        exact q
      · exact h1.elim
    | _ => exact h1.elim
theorem i_rng2 {p pos : Pos} (hg : Gl X "range") (hm : X.mg "range" = none) (h : SE X W c a ea) (h' : SE X W c b eb) (hs : starEach [a, b] X.env = [(false, eval a X.env), (false, eval b X.env)]) (hs2 : starEach [b] X.env = [(false, eval b X.env)]) :
    SI X W c tg (.Call (.Name "range" p) [a, b] [] pos) (.rng2 ea eb) :=
  pi_imp (pi_range2 hg hm (pa_cons h (pa_cons h' pa_nil hs2) (by rw [hs2]; exact hs)) hs hs2) fun σ H R h => by
    obtain ⟨ρ, E, M, er, sr, h⟩ := h
    refine ⟨ρ, E, M, er, sr, post_imp (post_bind h) fun ρ1 H1 x M1 e1 s1 h1 v1 r1 => ?_⟩
    refine ⟨ρ1, E, M1, er.ext sr.mv e1, s1, post_imp (post_bind h1) fun ρ2 H2 y M2 e2 s2 h2 v2 r2 => ?_⟩
    have r1 := r1.ext s1.mv e2
    cases r1 with
    | int i =>
      cases r2 with
      | int j =>
        have h2 : post X.K X.mg W σ H2 ρ2 (if (inBound i && inBound j) = true then .ok (rangeOf i j, none) M2 else .bad) (fun ρ' H' w _ => ∀ J Src, ItR X.K X.mg J w.1 w.2 Src → Src ρ' H' → R J H') := h2
        split at h2
        · rename_i hb
          obtain ⟨k1, k2⟩ := Bool.and_eq_true_iff.mp hb
          obtain ⟨b1, b2⟩ := bnd k1
          obtain ⟨b3, b4⟩ := bnd k2
          exact ⟨i, j, rfl, ⟨b1, b2, b3, b4⟩, post_ok h2 s2 _ _ it_range trivial⟩
        · exact h2.elim
      | _ => exact h2.elim
    | _ => cases r2 <;> exact h2.elim
end
end Wn
end
section
/-! SoE: enumerate of a tuple. -/
namespace Wn
open PySem PySem.Spec PyProof.Rows L2

theorem enum_new1 {v : Value} {ob : Obj} {Z : Heap → Prop} (B : Begins v ob Z) : Meets (Builtin.«enumerate.__new__» ⟨[.type "enumerate", v], []⟩) (fun _ R s => Z s.heap ∧
    R (.ok (.ret (.ref (s.heap.push ob).objs.size))) { s with heap := (s.heap.push ob).push { cls := .type "enumerate", data := .fields #[.none, .bool false, .ref s.heap.objs.size, rawInt 0, .none, .none] } }) :=
  .of_wp fun prog w A R s hz => by
    obtain ⟨hp, gs, dr, tks, oss⟩ := s
    obtain ⟨z1, z2⟩ := hz
    have hsub := sub_enumerate
    have step : ∀ {A' : Around} {E : Value → Shared → Prop} {Q : Value → Shared → Prop}, Q (.ref hp.objs.size) ⟨hp.push ob, gs, dr, tks, oss⟩ → wpAny (model prog w) A' (pyIter v) Q E ⟨hp, gs, dr, tks, oss⟩ :=
      fun q => B.iter prog w _ _ ⟨hp, gs, dr, tks, oss⟩ _ z1 q
    wp_walk using step
    refine wpAny_stack_any fun st => wpAny_pure ?_
    split
    · rename_i cc _ _ _ _ _
      cases (cc == Value.type "enumerate")
      all_goals
        wp_walk using step
        exact ⟨_, rfl, z2⟩
    · wp_walk using step
      exact ⟨_, rfl, z2⟩
section
variable {prog : Program} {w : World} {A : Around} {E : Value → Shared → Prop} {s : Shared}
theorem enum_call1 {v : Value} {ob : Obj} {Z : Heap → Prop} {Q : Value → Shared → Prop} (B : Begins v ob Z) (z : Z s.heap)
    (k : ∀ h', IsEnum h' (s.heap.objs.size + 1) s.heap.objs.size 0 .none → h'.get? s.heap.objs.size = some ob → (∀ b o, s.heap.get? b = some o → h'.get? b = some o) → Q (.ref (s.heap.objs.size + 1)) { s with heap := h' }) :
    wpAny (model prog w) A (call (.type "enumerate") [v]) Q E s := by
  refine callType_new F.called_enumerate (by decide) (F.typeCall_enumerate_1 _) (F.newCall_enumerate_1 _) (fun obj => F.args_object_init_2 obj _) F.entry_enumerate_new (enum_new1 B) ⟨z, ?_⟩
  have size1 : (s.heap.push ob).objs.size = s.heap.objs.size + 1 := Heap.size_push ..
  show _ ∧ _
  rw [size1]
  have isE : IsEnum ((s.heap.push ob).push { cls := .type "enumerate", data := .fields #[.none, .bool false, .ref s.heap.objs.size, rawInt 0, .none, .none] }) (s.heap.objs.size + 1) s.heap.objs.size 0 .none := by
    have q := Heap.get?_push_size (s.heap.push ob) (o := { cls := .type "enumerate", data := .fields #[.none, .bool false, .ref s.heap.objs.size, rawInt 0, .none, .none] }) rfl
    rwa [size1] at q
  exact ⟨⟨_, isE, rfl⟩, k _ isE (Heap.get?_push_of_some _ (Heap.get?_push_size _ B.free)) fun b o e => Heap.get?_push_of_some _ (Heap.get?_push_of_some _ e)⟩
end

/-- the tuple at a, each item in a new pair -/
def ItE (K : PySem.W.Frag) (a : Addr) : It :=
  ⟨fun i H => ∃ (xs : List V) (x : V), SqT K H a xs ∧ xs[i]? = some x, fun i H v H' => ∃ T x, v = .ref T ∧ H T = none ∧ H' = upd H T (.tup [.int (i : Nat), x]) ∧ ∀ xs, SqT K H a xs → xs[i]? = some x, fun i H => ∃ xs : List V, SqT K H a xs ∧ xs.length ≤ i⟩

theorem turn_enumT {P : Program} {w : World} {K : PySem.W.Frag} {elts : List Expr} {kk : Nat} {tpos : Pos} (a e it : Addr) :
    Turn P w K (.Tuple elts kk tpos) (ItE K a) [e, it] e (fun i h => (∃ old, IsEnum h e it ((i : Nat) : Int) old) ∧ h.IsTupleIter it a i ∧ e ≠ it) where
  mem := List.mem_cons_self
  obj := fun i h st b hb => by
    obtain ⟨⟨old, h1⟩, ⟨ob, h2, h3, h4⟩, _⟩ := st
    rcases List.mem_cons.mp hb with rfl | hb
    · exact ⟨_, h1, fun v q => nomatch q⟩
    · cases List.mem_singleton.mp hb
      exact ⟨ob, h2, fun v q => by rw [h4] at q; cases q⟩
  keep := fun i h h' st k => by
    obtain ⟨⟨old, h1⟩, h2, h3⟩ := st
    exact ⟨⟨old, k e (by simp) _ h1⟩, h2.at fun o q => k it (by simp) o q, h3⟩
  item := by
    intro X hP hw hK hc i pins s σ H E I hf st hg
    subst hP hw hK
    obtain ⟨⟨old, h1⟩, h2, h3⟩ := st
    obtain ⟨xs, x, g1, g2⟩ := hg
    obtain ⟨its, rv, ht, _⟩ := I.tuple g1
    obtain ⟨u, hu, ru⟩ := rv.get g2
    have lt_e : e < s.heap.objs.size := Heap.lt_size h1
    have lt_i : it < s.heap.objs.size := by obtain ⟨_, q, _⟩ := h2; exact Heap.lt_size q
    have ne_it : a ≠ it := by
      intro z; subst z
      obtain ⟨o1, k1, k2, k3⟩ := h2
      obtain ⟨o2, k4, k5, _⟩ := ht
      rw [k1] at k4; cases k4
      rw [k2] at k5
      exact absurd k5 (by decide)
    have ne_e : e ∉ [it, a] := by
      intro z
      rcases List.mem_cons.mp z with z | z
      · exact h3 z
      · have z' := List.mem_singleton.mp z
        obtain ⟨o2, k4, k5, _⟩ := ht
        have h1' : s.heap.get? e = _ := h1
        rw [← z', h1'] at k4; cases k4
        have k6 : Value.type "enumerate" = Value.type "tuple" := k5
        exact absurd k6 (by decide)
    have hi : i < its.toArray.size := by
      have := (List.getElem?_eq_some_iff.mp hu).1
      simpa using this
    refine wpAny_pyNext_enum_itemD (Draws.tuple (prog := X.prog) (w := X.w) (A := X.A.in1) (I.ok.hd hc) it a ne_it its.toArray) h1 ⟨h2, ht⟩ hi h3 ne_e fun y h' tk py ho hs hT hsz hk => ?_
    obtain rfl : y = u := by
      have : its[i]? = some y := by simpa using py
      rw [hu] at this; cases this; rfl
    refine ⟨_, rfl, wpAny_letOwnedTupleGo_enum (s := { s with heap := h', toks := tk + 1 }) ho fun h'' he' sb => ?_⟩
    have pair : h''.get? s.heap.objs.size = some { cls := .type "tuple", data := .seq #[.int i tk, y] } := (sb.2 _ (Nat.ne_of_gt lt_e)).trans hT
    have made : ObjOk X.prog X.w (upd H s.heap.objs.size (.tup [.int (i : Nat), x])) h'' s.heap.objs.size (.tup [.int (i : Nat), x]) :=
      ⟨by show 2 ≤ sizeLine; decide, [.int i tk, y], .cons ⟨_, rfl⟩ (.cons ru .nil), ⟨_, pair, rfl, _, rfl⟩⟩
    have I2 : Inv X pins σ (upd H s.heap.objs.size (.tup [.int (i : Nat), x])) { s with heap := h'', toks := tk + 1 } :=
      I.turnedNew (ch := [e, it]) (fun b ob hb q => (sb.2 b (fun z => hb (by simp [z]))).trans (hk b ob (fun z => hb (by simp [z])) (fun z => hb (by simp [z])) q)) hf (Nat.le_refl _) made
    refine ⟨.ref s.heap.objs.size, _, I2, rfl, ⟨_, x, rfl, I.hok.fresh (Nat.le_refl _), rfl, fun ys hy => by rw [I.tuple_inj hy g1]; exact g2⟩, ⟨⟨y, ?_⟩, hs.1.at fun o q => (sb.2 it (Ne.symm h3)).trans q, h3⟩, fun b hb => ?_⟩
    · rw [show ((i + 1 : Nat) : Int) = (i : Int) + 1 by omega]
      exact he'
    · have lt_b : b < s.heap.objs.size := by
        rcases List.mem_cons.mp hb with rfl | hb
        · exact lt_e
        · cases List.mem_singleton.mp hb; exact lt_i
      rw [upd_ne (Nat.ne_of_lt lt_b)]
      exact (hf b hb).1
  done := by
    intro X hP hw hK hc i pins s σ H E I hf st hg
    subst hP hw hK
    obtain ⟨⟨old, h1⟩, h2, h3⟩ := st
    obtain ⟨xs, g1, g2⟩ := hg
    obtain ⟨its, rv, ht, _⟩ := I.tuple g1
    obtain ⟨f0, f1, f2, f3, f4, f5⟩ := hf it (by simp)
    have hl := rv.length
    have hT : s.TypeIs (.ref e) "enumerate" := ⟨_, h1, rfl⟩
    unfold pyNext
    refine wpAny_bind (wpAny_attempt (wpAny_callSpecial?_slot (name := Str.ofString "__next__") hT F.slot_enumerate_next
      (wpAny_call_entry F.slot_enumerate_next hT F.entry_enumerate_next ?_ (F.args_enumerate_next_1 _))))
    show wpAny _ _ (field (.ref e) 2 >>= _) _ _ _
    refine wpAny_bind (wpAny_field h1 rfl (x := .ref it) rfl ?_)
    refine wpAny_bind (wpAny_nextOf_tuple_end (I.ok.hd hc) h2 ht (by simp; omega) fun h' x he' hx' => ?_)
    obtain ⟨o, ho, hcl⟩ := hx'
    refine wpAny_bind (wpAny_isInstance (T := "StopIteration") (b := true) ⟨o, ho, hcl⟩ isSubtype_stop ?_)
    exact wpAny_pure ⟨rfl, I.turned (t' := s.toks) (fun b o hb q => he' b o hb q) f0 f1 f3 f4 f5⟩
  self := fun A i s Q E st h => by
    obtain ⟨⟨_, he⟩, _⟩ := st
    exact wpAny_pyIter_enum he h
def iEnumT (K : PySem.W.Frag) (ta : TA) : TI := fun σ H R => ta σ H fun vs H1 => ∃ a xs, vs = [.ref a] ∧ SqT K H1 a xs ∧ R (ItE K a) H1
theorem pi_enumT {X : Cx} {e : Expr} {ta : TA} {p pos tpos : Pos} {elts : List Expr} {kk : Nat} (hg : Gl X "enumerate") (hm : X.mg "enumerate" = none) (ha : PA X [e] ta) (hs : starEach [e] X.env = [(false, eval e X.env)]) :
    PI X (.Tuple elts kk tpos) (.Call (.Name "enumerate" p) [e] [] pos) (iEnumT X.K ta) := by
  refine ⟨fun pins s σ H R I h => ?_⟩
  refine Call_ (ld_blt I hg hm boot_enumerate (PyProof.Rows.callWith_type1 (thn (ha.run pos pins s σ H _ I h) fun us s1 ⟨vs, H1, I1, r1, q1⟩ => ?_) hs rfl))
  obtain ⟨a, xs, ex, hq, q⟩ := q1
  subst ex
  obtain ⟨u, rfl, ru⟩ := vals1 r1
  cases ru
  obtain ⟨its, rv, ht, _⟩ := I1.tuple hq
  refine enum_call1 (begins_tuple a its.toArray) ht fun h' he hit hk => wpAny_pyIter_enum he ?_
  have I2 : Inv X pins σ H1 { s1 with heap := h' } := I1.kept (t' := s1.toks) hk
  refine ⟨s1.heap.objs.size + 1, [s1.heap.objs.size + 1, s1.heap.objs.size], _, _, H1, rfl, I2, turn_enumT a (s1.heap.objs.size + 1) s1.heap.objs.size, ⟨⟨.none, he⟩, ⟨_, hit, rfl, rfl⟩, Nat.succ_ne_self _⟩, fun b hb => ?_, q⟩
  have above : s1.heap.objs.size ≤ b := by
    rcases List.mem_cons.mp hb with rfl | hb
    · exact Nat.le_succ _
    · cases List.mem_singleton.mp hb; exact Nat.le_refl _
  exact I1.fpOk above (I1.hok.fresh above)
section
variable {K : PySem.W.Frag} {mg : Str → Option Value}
theorem it_enumT {a : Addr} {xs : List PV} : ItR K mg (ItE K a) (enumFrom 0 xs) none (fun ρ H => ∃ vs, SqT K H a vs ∧ RPs K H ρ xs vs) where
  stay := fun ρ H ρ' H' k ⟨vs, h, r⟩ => ⟨vs, k.sq h, r.kp k⟩
  go := fun ρ H M i S ⟨vs, h, r⟩ _ hi => by
    rw [enumFrom_length] at hi
    obtain ⟨v, h1, _⟩ := r.get (List.getElem?_eq_getElem hi)
    exact ⟨vs, v, h, h1⟩
  yld := fun ρ H M i x H' S ⟨vs, h, r⟩ _ hi ⟨T, y, ex, hT, eH, hy⟩ => by
    subst ex eH
    rw [enumFrom_length] at hi
    obtain ⟨v, h1, h2⟩ := r.get (List.getElem?_eq_getElem hi)
    have := hy vs h
    rw [h1] at this; cases this
    refine ⟨.tup [.int i, xs[i]], ?_, ext_new hT, S.new hT, new_tup S hT (.cons (.int _) (.cons h2 .nil))⟩
    rw [enumFrom_get, List.getElem?_eq_getElem hi, Nat.zero_add]; rfl
  stop := fun ρ H M i S ⟨vs, h, r⟩ _ hi => by
    rw [enumFrom_length] at hi
    exact ⟨vs, h, by rw [← r.length]; exact hi⟩
end
section
variable {X : Cx} {W : EW} {c : Ctx} {e : Expr} {ea : Ex}
theorem i_enum {p pos tpos : Pos} {elts : List Expr} {kk : Nat} (hg : Gl X "enumerate") (hm : X.mg "enumerate" = none) (h : SE X W c e ea) (hs : starEach [e] X.env = [(false, eval e X.env)]) :
    SI X W c (.Tuple elts kk tpos) (.Call (.Name "enumerate" p) [e] [] pos) (.enum ea) :=
  pi_imp (pi_either (pi_enum hg hm (pa_cons h pa_nil hs) hs) (pi_enumT hg hm (pa_cons h pa_nil hs) hs)) fun σ H R h => by
    obtain ⟨ρ, E, M, er, sr, h⟩ := h
    have h : post X.K X.mg W σ H ρ ((evE c ea E M).bind fun x M1 => lift M1 (walkedE M1 x)) (fun ρ' H' w _ => ∀ J Src, ItR X.K X.mg J w.1 w.2 Src → Src ρ' H' → R J H') := h
    cases hx : evE c ea E M with
    | err x M1 =>
      rw [hx] at h
      exact Or.inl ⟨ρ, E, M, er, sr, by rw [hx]; exact h⟩
    | bad => rw [hx] at h; exact h.elim
    | ok x M1 =>
      rw [hx, Res.bind_ok] at h
      obtain ⟨w, hw, h2⟩ := post_lift h
      cases x with
      | tup xs =>
        cases hw
        refine Or.inr ⟨ρ, E, M, er, sr, ?_⟩
        rw [hx]
        intro ρ1 H1 e1 s1 v1 r1
        cases r1 with
        | @tup t vs _ ht rt => exact ⟨t, vs, rfl, ht, h2 ρ1 H1 e1 s1 _ _ it_enumT ⟨vs, ht, rt⟩⟩
      | loc n =>
        simp only [walkedE] at hw
        split at hw
        · rename_i xs hm
          cases hw
          refine Or.inl ⟨ρ, E, M, er, sr, ?_⟩
          rw [hx]
          intro ρ1 H1 e1 s1 v1 r1
          cases r1 with
          | @loc _ t ht =>
            obtain ⟨vs, g1, _⟩ := s1.lst ht hm
            exact ⟨t, vs, rfl, SqL.of g1, h2 ρ1 H1 e1 s1 _ _ it_enumL ht⟩
        · cases hw
      | _ => cases hw
end
end Wn
end
section
/-! So10: targets, comprehensions. -/
namespace Wn
open PySem PySem.Spec PyProof.Rows L2

def tgIx : Tg → List Nat
  | .nm i => [i]
  | .tup is => is
def gAll : List Nat → TGs
  | [] => gNil
  | i :: is => gCons (gName i) (gAll is)
def tgG (K : PySem.W.Frag) : Tg → TG
  | .nm i => gName i
  | .tup is => gTup K is.length (gAll is)
/-- the slots but those of D -/
def ERo (K : PySem.W.Frag) (H : Hp) (ρ : List Addr) (D : Nat → Prop) (E : Env) (σ : L2.St) : Prop := E.length = σ.length ∧ ∀ (i : Nat) (p : PV), ¬ D i → E[i]? = some (some p) → ∃ v, σ[i]? = some (some v) ∧ RP K H ρ p v
section
variable {K : PySem.W.Frag} {H : Hp} {ρ : List Addr} {E : Env} {σ : L2.St}
theorem ERo.set {D : Nat → Prop} (h : ERo K H ρ D E σ) {p : PV} {v : V} (r : RP K H ρ p v) (i : Nat) : ERo K H ρ (fun j => D j ∧ j ≠ i) (E.set i (some p)) (σ.set i (some v)) := by
  refine ⟨by rw [List.length_set, List.length_set]; exact h.1, fun j q hd e => ?_⟩
  by_cases hj : j = i
  · subst hj
    have hl : j < E.length := by have := (List.getElem?_eq_some_iff.mp e).1; rw [List.length_set] at this; exact this
    rw [List.getElem?_set_self hl] at e
    cases e
    exact ⟨v, List.getElem?_set_self (by rw [← h.1]; exact hl), r⟩
  · rw [List.getElem?_set_ne (fun z => hj z.symm)] at e ⊢
    exact h.2 j q (fun z => hd ⟨z, hj⟩) e
/-- behind a target's store -/
def Sets (is : List Nat) (σ σ' : L2.St) : Prop := σ'.length = σ.length ∧ ∀ j, j ∉ is → σ'[j]? = σ[j]?
theorem Sets.one (i : Nat) (v : Option V) (σ : L2.St) : Sets [i] σ (σ.set i v) := ⟨List.length_set, fun j h => List.getElem?_set_ne (fun z => h (by simp [z]))⟩
theorem gAll_read {Q : L2.St → Hp → Prop} : ∀ {is : List Nat} {ps : List PV} {vs : List V} {E E' : Env} {σ : L2.St} {D : Nat → Prop}, ERo K H ρ D E σ → RPs K H ρ ps vs → setTg.setAll is ps E = some E' →
    (∀ σ', ERo K H ρ (fun j => D j ∧ j ∉ is) E' σ' → Sets is σ σ' → Q σ' H) → gAll is vs σ H Q
  | [], ps, vs, E, E', σ, D, h, r, e, q => by
    cases r with
    | nil =>
      simp only [setTg.setAll] at e
      cases e
      exact ⟨rfl, q σ ⟨h.1, fun i p hd => h.2 i p (fun z => hd ⟨z, fun z => nomatch z⟩)⟩ ⟨rfl, fun _ _ => rfl⟩⟩
    | cons _ _ => cases e
  | i :: is, ps, vs, E, E', σ, D, h, r, e, q => by
    cases r with
    | nil => cases e
    | @cons p v ps vs hp rs =>
      simp only [setTg.setAll] at e
      refine ⟨v, vs, rfl, ?_⟩
      refine gAll_read (h.set hp i) rs e fun σ' h' s' => q σ' ⟨h'.1, fun j p hd => h'.2 j p fun z => hd ⟨z.1.1, fun w => ?_⟩⟩ ⟨s'.1.trans List.length_set, fun j hj => ?_⟩
      · rcases List.mem_cons.mp w with w | w
        · exact z.1.2 w
        · exact z.2 w
      · rw [s'.2 j (fun z => hj (List.mem_cons_of_mem _ z))]
        exact List.getElem?_set_ne (fun z => hj (by simp [z]))
theorem tg_read {g : Tg} {p : PV} {v : V} {E' : Env} {Q : L2.St → Hp → Prop} (h : ERo K H ρ (fun j => j ∈ tgIx g) E σ) (r : RP K H ρ p v) (e : setTg g p E = some E')
    (q : ∀ σ', ER K H ρ E' σ' → Sets (tgIx g) σ σ' → Q σ' H) : tgG K g v σ H Q := by
  cases g with
  | nm i =>
    cases e
    have h' := h.set r i
    exact q _ ⟨h'.1, fun j p => h'.2 j p (fun z => z.2 (List.mem_singleton.mp z.1))⟩ (Sets.one i _ σ)
  | tup is =>
    cases r with
    | @tup a vs xs ha ra =>
      refine ⟨a, vs, rfl, ha, ?_, gAll_read h ra e fun σ' h' s' => q σ' ⟨h'.1, fun j p => h'.2 j p (fun z => z.2 z.1)⟩ s'⟩
      have len : ∀ {is : List Nat} {xs : List PV} {E E' : Env}, setTg.setAll is xs E = some E' → is.length = xs.length := by
        intro is
        induction is with
        | nil => intro xs E E' e; cases xs with
          | nil => rfl
          | cons _ _ => cases e
        | cons i is ih => intro xs E E' e; cases xs with
          | nil => cases e
          | cons x xs => rw [List.length_cons, List.length_cons, ih e]
      rw [← ra.length, ← len e]
    | _ => cases e
theorem ER.o (h : ER K H ρ E σ) (D : Nat → Prop) : ERo K H ρ D E σ := ⟨h.1, fun i p _ => h.2 i p⟩
theorem wipe_get {σ : L2.St} : ∀ {vs : List Nat} {j : Nat}, j ∈ vs → j < σ.length → (wipe σ vs)[j]? = some none
  | v :: vs, j, h, hl => by
    have hw := wipe_length σ vs
    by_cases e : j = v
    · subst e
      exact List.getElem?_set_self (by rw [hw]; exact hl)
    · show ((wipe σ vs).set v none)[j]? = some none
      rw [List.getElem?_set_ne (fun z => e z.symm)]
      rcases List.mem_cons.mp h with h | h
      · exact absurd h e
      · exact wipe_get h hl
theorem wipe_eq {σ σ' : L2.St} {vs : List Nat} (hl : σ'.length = σ.length) (h : ∀ j, j ∉ vs → σ'[j]? = σ[j]?) : wipe σ' vs = wipe σ vs := by
  apply List.ext_getElem?
  intro j
  by_cases hj : j ∈ vs
  · by_cases hlt : j < σ.length
    · rw [wipe_get hj hlt, wipe_get hj (by rw [hl]; exact hlt)]
    · rw [List.getElem?_eq_none (by rw [wipe_length]; omega), List.getElem?_eq_none (by rw [wipe_length]; omega)]
  · rw [wipe_out hj, wipe_out hj, h j hj]
theorem ER.wiped (h : ER K H ρ E σ) {vs : List Nat} : ERo K H ρ (fun j => j ∈ vs) E (wipe σ vs) :=
  ⟨by rw [wipe_length]; exact h.1, fun i p hd e => by rw [wipe_out hd]; exact h.2 i p e⟩
end

/-! ### comprehensions -/
section
variable {K : PySem.W.Frag} {mg : Str → Option Value} {W W' : EW}
/-- one turn -/
abbrev lcStep (c : Ctx) (g : Tg) (E : Env) (cond : Ox) (elt : Ex) : PV → Store → Res (Option PV) := fun x M => match setTg g x E with
  | some E1 => (evC c cond E1 M).bind fun k M2 => if k = true then (evE c elt E1 M2).bind fun y M3 => .ok (some y) M3 else .ok none M2
  | none => .bad
theorem lc_read {c : Ctx} {g : Tg} {it : Ix} {cond : Ox} {elt : Ex} {σ : L2.St} {H : Hp} {Q : VK} (h : tE K mg W (evE c (.lc elt g it cond)) σ H Q) :
    tLc (tI K mg W (evI c it)) (tgG K g) (tT K mg W' (evC c cond)) (tE K mg W' (evE c elt)) (tgIx g) σ H Q := by
  obtain ⟨ρ, E, M, er, sr, h⟩ := h
  refine ⟨ρ, E, M, er, sr, post_imp (post_bind h) fun ρ1 H1 w M1 e1 s1 h1 J Src iR hSrc D hD => ?_⟩
  have er1 := er.ext sr.mv e1
  have hDn : D ∉ ρ1 := s1.notin hD
  have post1 : post K mg W σ H1 ρ1 ((lcGo w.2 (lcStep c g E cond elt) w.1 [] M1).bind fun ys M2 => .ok (.loc M2.length) (M2 ++ [.lst ys])) (gE K Q) := h1
  obtain ⟨xs, wt⟩ := w
  dsimp only at iR post1
  clear h1 h
  refine ⟨fun i m H => m = xs.length - i ∧ i ≤ xs.length ∧ ∃ ρ M acc vs, ER K H ρ E σ ∧ SR K mg H ρ M ∧ Src ρ H ∧ D ∉ ρ ∧ H D = some (.lst vs) ∧ RPs K H ρ acc vs ∧
    post K mg W σ (hide D H) ρ ((lcGo wt (lcStep c g E cond elt) (xs.drop i) acc M).bind fun ys M2 => .ok (.loc M2.length) (M2 ++ [.lst ys])) (gE K Q), ⟨xs.length, ?_⟩, fun i m H hW => ?_⟩
  · have k0 : Kp ρ1 H1 ρ1 (upd H1 D (.lst [])) := (ext_new hD).kp s1.mv
    refine ⟨rfl, Nat.zero_le _, ρ1, M1, [], [], er1.kp k0, s1.new hD, iR.stay _ _ _ _ k0 hSrc, hDn, upd_same, .nil, ?_⟩
    rw [hide_upd, hide_new hD]
    exact post1
  · obtain ⟨rfl, hi, ρ, M, acc, vs, er, sr, hS, hDn, hDv, ra, hp⟩ := hW
    by_cases hlt : i < xs.length
    · refine Or.inr ?_
      rw [List.drop_eq_getElem_cons hlt, lcGo] at hp
      split at hp
      · rename_i hg
        obtain ⟨hw, hb⟩ := Bool.and_eq_true_iff.mp hg
        have hb := of_decide_eq_true hb
        refine ⟨iR.go _ _ _ _ sr hS hw hlt, fun H' => ∃ ρ' M' acc' vs', ER K H' ρ' E σ ∧ SR K mg H' ρ' M' ∧ Src ρ' H' ∧ D ∉ ρ' ∧ H' D = some (.lst vs') ∧ RPs K H' ρ' acc' vs' ∧
          post K mg W σ (hide D H') ρ' ((lcGo wt (lcStep c g E cond elt) (xs.drop (i + 1)) acc' M').bind fun ys M2 => .ok (.loc M2.length) (M2 ++ [.lst ys])) (gE K Q), fun H' hN => ⟨xs.length - (i + 1), by omega, rfl, hlt, hN⟩, fun x H' hy => ?_⟩
        obtain ⟨p, hp1, e2, sr2, rp⟩ := iR.yld _ _ _ _ _ _ sr hS hw hlt hy
        rw [List.getElem?_eq_getElem hlt] at hp1
        cases hp1
        have k2 := e2.kp sr.mv
        have er2 := er.kp k2
        have hD2 : H' D = some (.lst vs) := e2.keep D _ hDn hDv
        have hp := post_ext (ext_hide (D := D) e2) hp
        have hS2 := iR.stay _ _ _ _ k2 hS
        have ra2 := ra.kp k2
        clear hS er sr hDv ra k2 e2 hy hg
        cases hs : lcStep c g E cond elt xs[i] M with
        | bad => rw [hs] at hp; exact hp.elim
        | err x M' => rw [hs] at hp; exact hp.elim
        | ok r M3 =>
          simp only [hs] at hp
          simp only [lcStep] at hs
          split at hs
          · rename_i E1 hE1
            refine tg_read (g := g) er2.wiped rp hE1 fun σ2 er3 st => ⟨?_, ρ, E1, M, er3, sr2, ?_⟩
            · rw [wipe_eq (σ := wipe σ (tgIx g)) st.1 st.2]
              exact wipe_eq (wipe_length _ _) fun j hj => wipe_out hj
            · cases hc : evC c cond E1 M with
              | bad => rw [hc] at hs; cases hs
              | err x M' => rw [hc] at hs; cases hs
              | ok b M2 =>
                rw [hc, Res.bind_ok] at hs
                intro ρ4 H4 e4 s4
                have er4 := er3.ext sr2.mv e4
                have k4 := e4.kp sr2.mv
                have hD4 : H4 D = some (.lst vs) := e4.keep D _ hDn hD2
                have hDn4 : D ∉ ρ4 := by
                  obtain ⟨τ, t1, t2⟩ := e4.pre
                  rw [t1]; intro z
                  rcases List.mem_append.mp z with z | z
                  · exact hDn z
                  · rw [(t2 D z).2] at hD2; cases hD2
                have hp4 := post_ext (ext_hide (D := D) e4) hp
                have hS4 := iR.stay _ _ _ _ k4 hS2
                have ra4 := ra2.kp k4
                have er4' := er2.ext sr2.mv e4
                cases b with
                | false =>
                  refine iteF ?_
                  injection hs with q1 q2
                  subst q1 q2
                  exact ⟨ρ4, M2, acc, vs, er4', s4, hS4, hDn4, hD4, ra4, hp4⟩
                | true =>
                  refine iteT ⟨ρ4, E1, M2, er4, s4, ?_⟩
                  have hs : (evE c elt E1 M2).bind (fun y M3 => .ok (some y) M3) = .ok r M3 := hs
                  cases hy : evE c elt E1 M2 with
                  | bad => rw [hy] at hs; cases hs
                  | err x M' => rw [hy] at hs; cases hs
                  | ok y M5 =>
                    rw [hy, Res.bind_ok] at hs
                    injection hs with q1 q2
                    subst q1 q2
                    intro ρ5 H5 e5 s5 v5 r5
                    have k5 := e5.kp s4.mv
                    have hD5 : H5 D = some (.lst vs) := e5.keep D _ hDn4 hD4
                    have hDn5 : D ∉ ρ5 := by
                      obtain ⟨τ, t1, t2⟩ := e5.pre
                      rw [t1]; intro z
                      rcases List.mem_append.mp z with z | z
                      · exact hDn4 z
                      · rw [(t2 D z).2] at hD4; cases hD4
                    have hp5 := post_ext (ext_hide (D := D) e5) hp4
                    have kk : Kp ρ5 H5 ρ5 (upd H5 D (.lst (vs ++ [v5]))) := kp_list hD5
                    have ra5 := (ra4.kp k5).snoc r5
                    refine ⟨vs, hD5, by rw [← ra2.length]; exact lt_big hb, ρ5, M5, acc ++ [y], vs ++ [v5], (er4'.ext s4.mv e5).kp kk, s5.kp kk fun a ha => upd_ne (fun z => hDn5 (z ▸ ha)), iR.stay _ _ _ _ kk (iR.stay _ _ _ _ k5 hS4), hDn5, upd_same, ra5.kp kk, ?_⟩
                    rw [hide_upd]
                    exact hp5
          · cases hs
      · exact hp.elim
    · refine Or.inl ?_
      have hi' : i = xs.length := by omega
      subst hi'
      rw [List.drop_length, lcGo] at hp
      split at hp
      · rename_i hw
        refine ⟨iR.stop _ _ _ _ sr hS hw (Nat.le_refl _), ?_⟩
        exact hp _ _ (ext_shown hDn) (sr.shown hDn hDv ra) _ (loc_new sr)
      · exact hp.elim
end
section
variable {X : Cx} {W W' : EW} {c : Ctx} {elt tg iter : Expr} {ifs : List Expr} {scope : Scope} {own : List (Str × Nat)} {pos : Pos} {g : Tg} {it : Ix} {cond : Ox} {el : Ex}
theorem e_lc (hc : X.calm = true) (hN : X.N.Nodup) (hi : SI X W c tg iter it) (ok : BlkOk X.N X.env.scope scope own) (hown : own.map (·.2) = tgIx g)
    (hg : ∀ (s : Shared) (H : Hp) (C : Addr) (cl : List (Str × Addr)) (fp : List Addr), PG (X.blk s H scope (compEnvC scope cl C X.env) fp) tg (tgG X.K g))
    (ht : ∀ (s : Shared) (H : Hp) (C : Addr) (cl : List (Str × Addr)) (fp : List Addr), PTs (X.blk s H scope (compEnvC scope cl C X.env) fp) ifs (tT X.K X.mg W' (evC c cond)))
    (he : ∀ (s : Shared) (H : Hp) (C : Addr) (cl : List (Str × Addr)) (fp : List Addr), PE (X.blk s H scope (compEnvC scope cl C X.env) fp) elt (tE X.K X.mg W' (evE c el))) (hs : ∀ x, foldedSetIterable iter X.env x = pure x) :
    SE X W c (.ListComp elt [⟨tg, iter, ifs, 0⟩] scope pos) (.lc el g it cond) :=
  pe_imp (pe_lc hc hN hi ok hg ht he hs) fun σ H Q h => by rw [hown]; exact lc_read h
end
end Wn
end
section
/-! So11: statements. -/
namespace Wn
open PySem PySem.Spec PyProof.Rows L2

/-- how a statement ends -/
def gFl (K : PySem.W.Frag) (D : Ends) (ρ : List Addr) (H : Hp) (fl : Fl) (_ : Store) : Prop := match fl with
  | .nx E' => ∀ σ', ER K H ρ E' σ' → D.nx σ' H
  | .bk E' => ∀ σ', ER K H ρ E' σ' → D.bk σ' H
  | .ct E' => ∀ σ', ER K H ρ E' σ' → D.ct σ' H
  | .rt p => ∀ v, RP K H ρ p v → D.rt v H
def tS (K : PySem.W.Frag) (mg : Str → Option Value) (W : EW) (r : Env → Store → Res Fl) : TS := fun D σ H => ∃ ρ E M, ER K H ρ E σ ∧ SR K mg H ρ M ∧ post K mg W σ H ρ (r E M) (gFl K D)
abbrev SS (X : Cx) (W : EW) (c : Ctx) (st : Stmt) (m : S) : Prop := PS X st (tS X.K X.mg W (evS c m))
abbrev SSs (X : Cx) (W : EW) (c : Ctx) (st : List Stmt) (m : Ss) : Prop := PSs X st (tS X.K X.mg W (evSs c m))
/-- what is wanted of an error does not hang on the slots -/
def EW.flat (W : EW) : Prop := ∀ σ σ' H ρ x M, W.p σ H ρ x M → W.p σ' H ρ x M
theorem post_slot {α : Type} {K : PySem.W.Frag} {mg : Str → Option Value} {W : EW} (hW : W.flat) {σ σ' : L2.St} {H : Hp} {ρ : List Addr} {r : Res α} {G : List Addr → Hp → α → Store → Prop} (h : post K mg W σ H ρ r G) : post K mg W σ' H ρ r G := by
  cases r with
  | ok a M => exact h
  | err x M => exact hW σ σ' _ _ _ _ h
  | bad => exact h

section
variable {X : Cx} {W : EW} {c : Ctx} {st : Stmt} {rest : List Stmt} {ms : S} {mr : Ss} {e o i : Expr} {me mo mi : Ex} {pos : Pos}
theorem ss_nil : SSs X W c [] .nil := pss_imp pss_nil fun D σ H ⟨ρ, E, M, er, sr, h⟩ => post_ok h sr σ er
theorem ss_cons (hW : W.flat) (h1 : SS X W c st ms) (h2 : SSs X W c rest mr) : SSs X W c (st :: rest) (.cons ms mr) :=
  pss_imp (pss_cons h1 h2) fun D σ H h => by
    obtain ⟨ρ, E, M, er, sr, h⟩ := h
    refine ⟨ρ, E, M, er, sr, post_imp (post_bind h) fun ρ1 H1 fl M1 e1 s1 h1 => ?_⟩
    cases fl with
    | nx E1 => exact fun σ' er' => ⟨ρ1, E1, M1, er', s1, post_slot hW h1⟩
    | bk E1 => (have q := post_ok (show post X.K X.mg W σ H1 ρ1 (.ok (.bk E1) M1) (gFl X.K D) from h1) s1; exact q)
    | ct E1 => (have q := post_ok (show post X.K X.mg W σ H1 ρ1 (.ok (.ct E1) M1) (gFl X.K D) from h1) s1; exact q)
    | rt v => (have q := post_ok (show post X.K X.mg W σ H1 ρ1 (.ok (.rt v) M1) (gFl X.K D) from h1) s1; exact q)
theorem s_asg {i : Nat} {x : Str} {pos' : Pos} (hN : X.N.Nodup) (hi : X.N[i]? = some x) (hx : Loc X.env.scope x) (he : SE X W c e me) (hs : swapsWith e (some (.Name x pos')) pos.line X.env = pure false) (hf : X.fn x = true ∨ X.env.scope.names.lookup x = some .local) :
    SS X W c (.Assign [.Name x pos'] e pos) (.asg i me) :=
  ps_imp (ps_set hN hi hx he hs hf) fun D σ H h => by
    obtain ⟨ρ, E, M, er, sr, h⟩ := h
    exact ⟨ρ, E, M, er, sr, post_imp (post_bind h) fun ρ1 H1 x M1 e1 s1 h1 v1 r1 => post_ok h1 s1 _ ((er.ext sr.mv e1).set r1 _)⟩
theorem s_asgLc {W' : EW} {i : Nat} {y : Str} {py : Pos} {elt tg iter : Expr} {ifs : List Expr} {scope : Scope} {own : List (Str × Nat)} {pos spos : Pos} {g : Tg} {it : Ix} {cond : Ox} {el : Ex} (hc : X.calm = true) (hN : X.N.Nodup) (hy : X.N[i]? = some y) (hyl : X.env.scope.names.lookup y = some .local)
    (hsw : swapsWith (.ListComp elt [⟨tg, iter, ifs, 0⟩] scope pos) (some (.Name y py)) spos.line X.env = pure true) (hi : SI X W c tg iter it) (ok : BlkOk X.N X.env.scope scope own) (hown : own.map (·.2) = tgIx g)
    (hg : ∀ (s : Shared) (H : Hp) (C : Addr) (cl : List (Str × Addr)) (fp : List Addr), PG (X.blk s H scope (compEnvC scope cl C X.env) fp) tg (tgG X.K g))
    (ht : ∀ (s : Shared) (H : Hp) (C : Addr) (cl : List (Str × Addr)) (fp : List Addr), PTs (X.blk s H scope (compEnvC scope cl C X.env) fp) ifs (tT X.K X.mg W' (evC c cond)))
    (he : ∀ (s : Shared) (H : Hp) (C : Addr) (cl : List (Str × Addr)) (fp : List Addr), PE (X.blk s H scope (compEnvC scope cl C X.env) fp) elt (tE X.K X.mg W' (evE c el))) (hs : ∀ x, foldedSetIterable iter X.env x = pure x) :
    SS X W c (.Assign [.Name y py] (.ListComp elt [⟨tg, iter, ifs, 0⟩] scope pos) spos) (.asg i (.lc el g it cond)) :=
  ps_imp (ps_setLc hc hN hy hyl hsw hi ok hg ht he hs) fun D σ H h => by
    obtain ⟨ρ, E, M, er, sr, h⟩ := h
    have h : post X.K X.mg W σ H ρ ((evE c (.lc el g it cond) E M).bind fun x M1 => .ok (.nx (E.set i (some x))) M1) (gFl X.K D) := h
    show tLc _ _ _ _ _ σ H _
    rw [hown]
    exact lc_read (W' := W') ⟨ρ, E, M, er, sr, post_imp (post_bind h) fun ρ1 H1 x M1 e1 s1 h1 v1 r1 => post_ok h1 s1 _ ((er.ext sr.mv e1).set r1 _)⟩
theorem s_unp {is : List Nat} {ts : List Expr} {k : Nat} {pt : Pos} (he : SE X W c e me) (hg : PG X (.Tuple ts k pt) (tgG X.K (.tup is))) (hs : swapsWithSole [.Tuple ts k pt] e pos.line X.env = pure false) (hw : swappedStores [.Tuple ts k pt] e X.env = pure none)
    (h1 : (assignEach [.Tuple ts k pt] X.env).map (·.2) = [assign (.Tuple ts k pt) X.env]) : SS X W c (.Assign [.Tuple ts k pt] e pos) (.unp is me) :=
  ps_imp (ps_asg he hg hs hw h1) fun D σ H h => by
    obtain ⟨ρ, E, M, er, sr, h⟩ := h
    refine ⟨ρ, E, M, er, sr, post_imp (post_bind h) fun ρ1 H1 x M1 e1 s1 h1 v1 r1 => ?_⟩
    split at h1
    · rename_i E1 hE
      exact tg_read ((er.ext sr.mv e1).o _) r1 hE fun σ' er' _ => post_ok h1 s1 σ' er'
    · exact h1.elim
theorem set_dict (hu : X.A.units + 1 < cLine) : PSet X (fun o k v H Q => ∃ a H4, o = .ref a ∧ DPut H a k v H4 ∧ Q H4) := by
  rintro pins s σ H o k v ov kv u Q I ro rk rv ⟨a, H4, rfl, g, q⟩
  cases ro
  exact d_setItem hu I g rk rv fun s' I' => ⟨H4, I', q⟩
theorem pset_or {t t' : TSet} (h : PSet X t) (h' : PSet X t') : PSet X (fun o k v H Q => t o k v H Q ∨ t' o k v H Q) :=
  fun pins s σ H o k v ov kv u Q I a b d q => q.elim (h pins s σ H o k v ov kv u Q I a b d) (h' pins s σ H o k v ov kv u Q I a b d)
theorem put_len (k v : PV) (kvs : List (PV × PV)) : True := trivial
theorem s_seti (hu : X.A.units + 200 < cLine) {po : Pos} (he : SE X W c e me) (ho : SE X W c o mo) (hi : SE X W c i mi)
    (ha : ∀ v, assign (.Subscript o i po) X.env v = (do
      let ov ← holding [v] (eval o X.env)
      let iv ← holding [v, ov] (eval i X.env)
      standAt po
      holding [v, ov, iv] (setItem ov iv v)
      release [v, ov, iv] [])) (hs : swapsWithSole [.Subscript o i po] e pos.line X.env = pure false) (hw : swappedStores [.Subscript o i po] e X.env = pure none)
    (h1 : (assignEach [.Subscript o i po] X.env).map (·.2) = [assign (.Subscript o i po) X.env]) : SS X W c (.Assign [.Subscript o i po] e pos) (.seti mo mi me) :=
  ps_imp (ps_asg he (pg_sub ho hi (pset_or set_list (set_dict (by omega))) ha) hs hw h1) fun D σ H h => by
    obtain ⟨ρ, E, M, er, sr, h⟩ := h
    refine ⟨ρ, E, M, er, sr, post_imp (post_bind h) fun ρ1 H1 v M1 e1 s1 h1 v1 r1 => ?_⟩
    have er1 := er.ext sr.mv e1
    refine ⟨ρ1, E, M1, er1, s1, post_imp (post_bind h1) fun ρ2 H2 x M2 e2 s2 h2 v2 r2 => ?_⟩
    have er2 := er1.ext s1.mv e2
    refine ⟨ρ2, E, M2, er2, s2, post_imp (post_bind h2) fun ρ3 H3 k M3 e3 s3 h3 v3 r3 => ?_⟩
    have er3 := er2.ext s2.mv e3
    have r1 := (r1.ext s1.mv e2).ext s2.mv e3
    have r2 := r2.ext s2.mv e3
    cases r2 with
    | @loc n a ha =>
      dsimp only at h3
      split at h3
      · rename_i xs hm
        obtain ⟨vs, g1, g2⟩ := s3.lst ha hm
        cases r3 with
        | int j =>
          dsimp only at h3
          split at h3
          · rename_i q hq
            refine Or.inl ⟨a, vs, j, q, rfl, rfl, g1, by rw [← g2.length]; exact hq, ?_⟩
            have ep := ext_put (H := H3) (o := .lst (vs.set q v1)) (List.mem_of_getElem? ha)
            exact h3 _ _ ep (s3.put ha ⟨_, upd_same, (g2.set q r1).ext s3.mv ep⟩) σ (er3.ext s3.mv ep)
          · exact h3.elim
        | _ => exact h3.elim
      · rename_i kvs hm
        obtain ⟨us, g1, g2⟩ := s3.dic ha hm
        split at h3
        · rename_i hk
          obtain ⟨k1, k2⟩ := Bool.and_eq_true_iff.mp hk
          obtain ⟨q, hq, rfl⟩ := key_rel r3 k1
          refine Or.inr ⟨a, _, rfl, DPut.k g1 (by rw [← g2.length]; exact lt_big (of_decide_eq_true k2)), ?_⟩
          have ep := ext_put (H := H3) (o := .dK (putK us q v1)) (List.mem_of_getElem? ha)
          exact h3 _ _ ep (s3.put ha ⟨_, upd_same, (g2.put hq r1).ext s3.mv ep⟩) σ (er3.ext s3.mv ep)
        · exact h3.elim
      · exact h3.elim
    | _ => exact h3.elim
theorem s_ex (he : SE X W c e me) (hs : swapsWith e none pos.line X.env = pure false) : SS X W c (.Expr e pos) (.ex me) :=
  ps_imp (ps_expr he hs) fun D σ H h => by
    obtain ⟨ρ, E, M, er, sr, h⟩ := h
    exact ⟨ρ, E, M, er, sr, post_imp (post_bind h) fun ρ1 H1 x M1 e1 s1 h1 v1 r1 => post_ok h1 s1 _ (er.ext sr.mv e1)⟩
theorem s_ret (he : SE X W c e me) : SS X W c (.Return (some e) pos) (.ret me) :=
  ps_imp (ps_ret he) fun D σ H h => by
    obtain ⟨ρ, E, M, er, sr, h⟩ := h
    exact ⟨ρ, E, M, er, sr, post_imp (post_bind h) fun ρ1 H1 x M1 e1 s1 h1 v1 r1 => post_ok h1 s1 _ r1⟩
theorem s_retN : SS X W c (.Return none pos) .retN := ps_imp ps_retN fun D σ H ⟨ρ, E, M, er, sr, h⟩ => post_ok h sr _ .non
theorem s_pass : SS X W c (.Pass pos) .pass := ps_imp ps_pass fun D σ H ⟨ρ, E, M, er, sr, h⟩ => post_ok h sr σ er
theorem s_brk : SS X W c (.Break pos) .brk := ps_imp ps_break fun D σ H ⟨ρ, E, M, er, sr, h⟩ => post_ok h sr σ er
theorem s_cont : SS X W c (.Continue pos) .cont := ps_imp ps_continue fun D σ H ⟨ρ, E, M, er, sr, h⟩ => post_ok h sr σ er
theorem s_ifs {t : Expr} {mt : Ex} {a b : List Stmt} {ma mb : Ss} (ht : ST X W c t mt) (ha : SSs X W c a ma) (hb : SSs X W c b mb) : SS X W c (.If t a b pos) (.ifs mt ma mb) :=
  ps_imp (ps_if ht ha hb) fun D σ H h => by
    obtain ⟨ρ, E, M, er, sr, h⟩ := h
    refine ⟨ρ, E, M, er, sr, post_imp (post_bind h) fun ρ1 H1 k M1 e1 s1 h1 => ?_⟩
    cases k with
    | true => exact iteT ⟨ρ1, E, M1, er.ext sr.mv e1, s1, h1⟩
    | false => exact iteF ⟨ρ1, E, M1, er.ext sr.mv e1, s1, h1⟩
theorem s_for (hW : W.flat) {tg iter : Expr} {body : List Stmt} {g : Tg} {it : Ix} {mb : Ss} (hp : PassesOwn (model X.prog X.w) X.A X.env X.xe) (hc : X.calm = true) (hi : SI X W c tg iter it) (hg : PG X tg (tgG X.K g)) (hb : SSs X W c body mb)
    (hs : ∀ x, foldedSetIterable iter X.env x = pure x) : SS X W c (.For tg iter body [] pos) (.for_ g it mb) :=
  ps_imp (ps_for hp hc hi hg hb hs) fun D σ H h => by
    obtain ⟨ρ, E, M, er, sr, h⟩ := h
    refine ⟨ρ, E, M, er, sr, post_imp (post_bind h) fun ρ1 H1 w M1 e1 s1 h1 J Src iR hSrc => ?_⟩
    obtain ⟨xs, wt⟩ := w
    have er1 := er.ext sr.mv e1
    have h1 : post X.K X.mg W σ H1 ρ1 (forGo wt (fun x E M => match setTg g x E with
      | some E1 => evSs c mb E1 M
      | none => .bad) xs E M1) (gFl X.K D) := h1
    dsimp only at iR
    refine ⟨fun i m σ H => m = xs.length - i ∧ i ≤ xs.length ∧ ∃ ρ E M, ER X.K H ρ E σ ∧ SR X.K X.mg H ρ M ∧ Src ρ H ∧ post X.K X.mg W σ H ρ (forGo wt (fun x E M => match setTg g x E with
      | some E1 => evSs c mb E1 M
      | none => .bad) (xs.drop i) E M) (gFl X.K D), ⟨xs.length, rfl, Nat.zero_le _, ρ1, E, M1, er1, s1, hSrc, h1⟩, fun i m σ H hW' => ?_⟩
    obtain ⟨rfl, hle, ρ, E, M, er, sr, hS, hp⟩ := hW'
    by_cases hlt : i < xs.length
    · refine Or.inr ?_
      rw [List.drop_eq_getElem_cons hlt, forGo] at hp
      split at hp
      · rename_i hw
        refine ⟨iR.go _ _ _ _ sr hS hw hlt, fun σ' H' => ∃ ρ E M, ER X.K H' ρ E σ' ∧ SR X.K X.mg H' ρ M ∧ Src ρ H' ∧ post X.K X.mg W σ' H' ρ (forGo wt (fun x E M => match setTg g x E with
            | some E1 => evSs c mb E1 M
            | none => .bad) (xs.drop (i + 1)) E M) (gFl X.K D), fun σ' H' hN => ⟨xs.length - (i + 1), by omega, rfl, hlt, hN⟩, fun x H' hy => ?_⟩
        obtain ⟨p, hp1, e2, sr2, rp⟩ := iR.yld _ _ _ _ _ _ sr hS hw hlt hy
        rw [List.getElem?_eq_getElem hlt] at hp1
        cases hp1
        have k2 := e2.kp sr.mv
        have er2 := er.kp k2
        have hS2 := iR.stay _ _ _ _ k2 hS
        have hp := post_ext e2 hp
        cases hE : setTg g xs[i] E with
        | none => rw [hE] at hp; exact hp.elim
        | some E1 =>
          rw [hE] at hp
          refine tg_read (er2.o _) rp hE fun σ2 er3 _ => ⟨ρ, E1, M, er3, sr2, post_imp (post_bind (post_slot hW hp)) fun ρ4 H4 fl M4 e4 s4 h4 => ?_⟩
          have hS4 := iR.stay _ _ _ _ (e4.kp sr2.mv) hS2
          cases fl with
          | nx E5 => exact fun σ' er' => ⟨ρ4, E5, M4, er', s4, hS4, post_slot hW h4⟩
          | ct E5 => exact fun σ' er' => ⟨ρ4, E5, M4, er', s4, hS4, post_slot hW h4⟩
          | bk E5 => (have q := post_ok (show post X.K X.mg W σ2 H4 ρ4 (.ok (.nx E5) M4) (gFl X.K D) from h4) s4; exact q)
          | rt v => (have q := post_ok (show post X.K X.mg W σ2 H4 ρ4 (.ok (.rt v) M4) (gFl X.K D) from h4) s4; exact q)
      · exact hp.elim
    · refine Or.inl ?_
      have hi' : i = xs.length := by omega
      subst hi'
      rw [List.drop_length, forGo] at hp
      split at hp
      · rename_i hw
        exact ⟨iR.stop _ _ _ _ sr hS hw (Nat.le_refl _), post_ok hp sr σ er⟩
      · exact hp.elim
theorem s_whl (hW : W.flat) {t : Expr} {mt : Ex} {body : List Stmt} {mb : Ss} (hp : PassesOwn (model X.prog X.w) X.A X.env X.xe) (ht : ST X W c t mt) (hb : SSs X W c body mb) : SS X W c (.While t body [] pos) (.whl mt mb) :=
  ps_imp (ps_while hp ht hb) fun D σ H h => by
    obtain ⟨ρ, E, M, er, sr, h⟩ := h
    have h : post X.K X.mg W σ H ρ (whileGo (fun E M => evT c mt E M) (fun E M => evSs c mb E M) c.wf E M) (gFl X.K D) := h
    refine ⟨fun m σ H => ∃ ρ E M, ER X.K H ρ E σ ∧ SR X.K X.mg H ρ M ∧ post X.K X.mg W σ H ρ (whileGo (fun E M => evT c mt E M) (fun E M => evSs c mb E M) m E M) (gFl X.K D), ⟨c.wf, ρ, E, M, er, sr, h⟩, fun m σ H hI => ?_⟩
    obtain ⟨ρ, E, M, er, sr, h⟩ := hI
    cases m with
    | zero => exact h.elim
    | succ m =>
      rw [whileGo] at h
      refine ⟨ρ, E, M, er, sr, post_imp (post_bind h) fun ρ1 H1 k M1 e1 s1 h1 => ?_⟩
      have er1 := er.ext sr.mv e1
      cases k with
      | false => exact iteF (post_ok h1 s1 σ er1)
      | true =>
        refine iteT ⟨fun σ' H' => ∃ ρ E M, ER X.K H' ρ E σ' ∧ SR X.K X.mg H' ρ M ∧ post X.K X.mg W σ' H' ρ (whileGo (fun E M => evT c mt E M) (fun E M => evSs c mb E M) m E M) (gFl X.K D), fun σ' H' hN => ⟨m, Nat.lt_succ_self m, hN⟩, ?_⟩
        refine ⟨ρ1, E, M1, er1, s1, post_imp (post_bind h1) fun ρ4 H4 fl M4 e4 s4 h4 => ?_⟩
        cases fl with
        | nx E5 => exact fun σ' er' => ⟨ρ4, E5, M4, er', s4, post_slot hW h4⟩
        | ct E5 => exact fun σ' er' => ⟨ρ4, E5, M4, er', s4, post_slot hW h4⟩
        | bk E5 => (have q := post_ok (show post X.K X.mg W σ H4 ρ4 (.ok (.nx E5) M4) (gFl X.K D) from h4) s4; exact q)
        | rt v => (have q := post_ok (show post X.K X.mg W σ H4 ρ4 (.ok (.rt v) M4) (gFl X.K D) from h4) s4; exact q)
end
end Wn
end
section
/-! So12: what must be seen of the text; calls of own defs; dict displays. -/
namespace Wn
open PySem PySem.Spec PyProof.Rows L2

/-! ### forms of the text -/
def isStar : Expr → Bool
  | .Starred _ _ => true
  | _ => false
theorem star_cons {e : Expr} {es : List Expr} {env : PySem.Env} (h : isStar e = false) : starEach (e :: es) env = (false, eval e env) :: starEach es env := by
  cases e <;> first | (cases h; done) | rfl
theorem star_all : ∀ {es : List Expr} {env : PySem.Env}, es.all (fun e => !isStar e) = true → starEach es env = es.map fun e => (false, eval e env)
  | [], _, _ => rfl
  | e :: es, env, h => by
    simp only [List.all_cons, Bool.and_eq_true, Bool.not_eq_true'] at h
    rw [star_cons h.1, star_all h.2]; rfl
theorem star_any {es : List Expr} {env : PySem.Env} {pos : Pos} (h : es.all (fun e => !isStar e) = true) : (backTo pos (starEach es env)).any (·.1) = false := by
  rw [star_all h, List.any_eq_false]
  intro x hx
  simp only [backTo, List.map_map, List.mem_map] at hx
  obtain ⟨e, _, rfl⟩ := hx
  simp
theorem star_few {es : List Expr} {env : PySem.Env} {pos : Pos} (h : es.all (fun e => !isStar e) = true) (hl : es.length < 30) : ((backTo pos (starEach es env)).all (fun x => !x.1) && (backToKw pos (keywordEach [] env)).all (fun x => x.1.isSome)
      && decide (es.length + ([] : List Keyword).length + (if ([] : List Keyword).isEmpty then 0 else 1) < 30)) = true := by
  have a : (backTo pos (starEach es env)).all (fun x => !x.1) = true := by
    rw [star_all h, List.all_eq_true]
    intro x hx
    simp only [backTo, List.map_map, List.mem_map] at hx
    obtain ⟨e, _, rfl⟩ := hx
    rfl
  have b : (backToKw pos (keywordEach [] env)).all (fun x => x.1.isSome) = true := by
    have : keywordEach [] env = [] := by rw [keywordEach]
    rw [this]; rfl
  rw [a, b]
  have d : decide (es.length + ([] : List Keyword).length + (if ([] : List Keyword).isEmpty then 0 else 1) < 30) = true := decide_eq_true (by show es.length + 0 + 0 < 30; omega)
  rw [d]; rfl
def baseOk : Expr → Bool
  | .Call (.Name _ _) [] [] _ => false
  | _ => true
theorem base_ok {o : Expr} {m : Str} {env : PySem.Env} {w : Sem Value} (h : baseOk o = true) : attributeBase o m env w = w := by
  unfold attributeBase
  split
  · cases h
  · rfl
def notComp : Expr → Bool
  | .ListComp .. => false
  | .SetComp .. => false
  | .DictComp .. => false
  | _ => true
theorem swap_no {e : Expr} {t : Option Expr} {l : Nat} {env : PySem.Env} (h : notComp e = true) : swapsWith e t l env = pure false := by
  cases e <;> first | (cases h; done) | rfl
def notTup : Expr → Bool
  | .Tuple .. => false
  | _ => true
theorem stores_no {ts : List Expr} {k : Nat} {p : Pos} {e : Expr} {env : PySem.Env} (h : notTup e = true) : swappedStores [.Tuple ts k p] e env = pure none := by
  cases e <;> first | (cases h; done) | rfl
theorem stores_sub {o i : Expr} {p : Pos} {e : Expr} {env : PySem.Env} : swappedStores [.Subscript o i p] e env = pure none := by
  cases e <;> rfl
def notSet : Expr → Bool
  | .Set .. => false
  | _ => true
theorem folded_no {e : Expr} {env : PySem.Env} (h : notSet e = true) (x : Value) : foldedSetIterable e env x = pure x := by
  cases e <;> first | (cases h; done) | rfl
theorem marks_no {op : CmpOp} {e : Expr} (h : notSet e = true) : behindInMarks op e = false := by
  cases e <;> first | (cases h; done) | rfl
def notSlice : Expr → Bool
  | .Slice .. => false
  | _ => true
theorem plain_ix {e : Expr} (h : notSlice e = true) : PlainIx e := by
  intro o i
  cases e <;> first | (cases h; done) | rfl
def truthOk : Expr → Bool
  | .UnaryOp .. => false
  | .BoolOp .. => false
  | .IfExp .. => false
  | .Compare .. => false
  | _ => true
theorem truth_of {e : Expr} {env : PySem.Env} (h : truthOk e = true) (w : Sem Value) : isTrue e env w = (do let v ← w; standAt e.pos; holding [v] (truthy v)) := by
  cases e <;> first | (cases h; done) | rfl
theorem asg_sub {o i : Expr} {p : Pos} {env : PySem.Env} (h : notSlice i = true) (v : Value) : assign (.Subscript o i p) env v = (do
      let ov ← holding [v] (eval o env)
      let iv ← holding [v, ov] (eval i env)
      standAt p
      holding [v, ov, iv] (setItem ov iv v)
      release [v, ov, iv] []) := by
  cases i <;> first | (cases h; done) | rfl

/-! ### names -/
def visB (sc : Scope) (x : Str) : Bool := match sc.names.lookup x with
  | some .local => true
  | some .cell => true
  | some .free => true
  | _ => false
theorem vis_of {sc : Scope} {x : Str} (h : visB sc x = true) : Vis sc x := by
  unfold visB at h
  split at h
  · exact Or.inl ‹_›
  · exact Or.inr (Or.inl ‹_›)
  · exact Or.inr (Or.inr ‹_›)
  · cases h
def globB (sc : Scope) (x : Str) : Bool := decide (sc.names.lookup x = some .globalImplicit)
def plainName (x : Str) : Bool := !(x == ("__debug__" : Str)) && !(x == ("__classdict__" : Str)) && !(x == ("__name__" : Str))
/-- a name that may be stored -/
def locB (sc : Scope) (fn : Str → Bool) (x : Str) : Bool := match sc.names.lookup x with
  | some .local => true
  | some .cell => fn x
  | _ => false
section
variable {X : Cx} {pos : Pos}
theorem pg_of {i : Nat} {x : Str} {sc : Scope} {fn : Str → Bool} (hN : X.N.Nodup) (hsc : X.env.scope = sc) (hfn : X.fn = fn) (hi : X.N[i]? = some x) (h : locB sc fn x = true) : PG X (.Name x pos) (gName i) := by
  subst hsc hfn
  unfold locB at h
  split at h
  · exact pg_name hN hi (Or.inl ‹_›) (Or.inr ‹_›)
  · exact pg_name hN hi (Or.inr ‹_›) (Or.inl h)
  · cases h
/-- the names of a target -/
def tgNames : List Nat → List Expr → List Str → Scope → (Str → Bool) → Bool
  | [], [], _, _, _ => true
  | i :: is, .Name x _ :: es, N, sc, fn => decide (N[i]? = some x) && locB sc fn x && tgNames is es N sc fn
  | _, _, _, _, _ => false
theorem tgNames_star {N : List Str} {sc : Scope} {fn : Str → Bool} : ∀ {is : List Nat} {es : List Expr}, tgNames is es N sc fn = true → es.length = is.length ∧ ∀ {env : PySem.Env}, assignEach es env = es.map fun e => (false, assign e env)
  | [], [], _ => ⟨rfl, rfl⟩
  | [], e :: es, h => by cases e <;> cases h
  | i :: is, [], h => by cases h
  | i :: is, e :: es, h => by
    cases e <;> first | (cases h; done) | skip
    simp only [tgNames, Bool.and_eq_true] at h
    obtain ⟨q1, q2⟩ := tgNames_star h.2
    refine ⟨by rw [List.length_cons, List.length_cons, q1], ?_⟩
    intro env
    rw [assignEach, q2]
    · rfl
    · intro t p z; cases z
theorem pgs_of {sc : Scope} {fn : Str → Bool} (hN : X.N.Nodup) (hsc : X.env.scope = sc) (hfn : X.fn = fn) : ∀ {is : List Nat} {es : List Expr}, tgNames is es X.N sc fn = true → PGs X es (gAll is)
  | [], [], _ => pgs_nil
  | [], e :: es, h => by cases e <;> cases h
  | i :: is, [], h => by cases h
  | i :: is, e :: es, h => by
    cases e <;> first | (cases h; done) | skip
    have h0 := h
    simp only [tgNames, Bool.and_eq_true, decide_eq_true_eq] at h
    refine pgs_cons (pg_of hN hsc hfn h.1.1 h.1.2) (pgs_of hN hsc hfn h.2) ?_
    rw [(tgNames_star h0).2, (tgNames_star h.2).2]; rfl
theorem pg_tgt {is : List Nat} {es : List Expr} {k : Nat} {sc : Scope} {fn : Str → Bool} (hc : X.calm = true) (hN : X.N.Nodup) (hsc : X.env.scope = sc) (hfn : X.fn = fn) (h : tgNames is es X.N sc fn = true) : PG X (.Tuple es k pos) (tgG X.K (.tup is)) := by
  obtain ⟨q1, q2⟩ := tgNames_star h
  refine pg_tup hc (pgs_of hN hsc hfn h) ?_ ?_
  · rw [q2, List.length_map, q1]
  · rw [q2, List.findIdx?_eq_none_iff]
    intro x hx
    simp only [List.mem_map] at hx
    obtain ⟨e, _, rfl⟩ := hx
    rfl
end

/-! ### errors of own classes -/
def XRel (K : PySem.W.Frag) (mg : Str → Option Value) (H : Hp) (ρ : List Addr) (x : Exn) (cls : Value) (d : Option Addr) : Prop :=
  ∃ C, mg x.cls = some (.ref C) ∧ cls = .ref C ∧ ((x.fs = [] ∧ d = none) ∨ ∃ da us, d = some da ∧ H da = some (.xd us) ∧ RFs K H ρ x.fs us)
def EWx (K : PySem.W.Frag) (mg : Str → Option Value) (Wx : WX) : EW :=
  ⟨fun σ H ρ x M => ∀ ρ' H' cls d, Ext ρ H ρ' H' → SR K mg H' ρ' M → XRel K mg H' ρ' x cls d → Wx cls d σ H', fun e h ρ' H' cls d e' => h ρ' H' cls d (e.trans e')⟩
/-- what a def promises: the evaluator's answer -/
def spF (K : PySem.W.Frag) (mg : Str → Option Value) (r : List PV → Store → Res PV) : Sp := fun vs H Q E => ∃ ρ args M, SR K mg H ρ M ∧ RPs K H ρ args vs ∧ post K mg (EWx K mg fun cls d _ H => E cls d H) [] H ρ (r args M) (gE K Q)
theorem post_w {α : Type} {K : PySem.W.Frag} {mg : Str → Option Value} {W W' : EW} {σ σ' : L2.St} {H : Hp} {ρ : List Addr} {r : Res α} {G : List Addr → Hp → α → Store → Prop} (hw : ∀ x M, W.p σ H ρ x M → W'.p σ' H ρ x M) (h : post K mg W σ H ρ r G) : post K mg W' σ' H ρ r G := by
  cases r with
  | ok a M => exact h
  | err x M => exact hw x M h
  | bad => exact h
section
variable {X : Cx} {Wx : WX} {c : Ctx} {e : Expr} {es : List Expr} {ms : Exs} {pos p : Pos} {f : Str} {k : Nat} {fa : Addr} {fd : FuncData} {ps : List Str}
theorem call_read {r : List PV → Store → Res PV} {m : Ex} (hm : ∀ E M, evE c m E M = (evEs c ms E M).bind fun xs M1 => r xs M1) {σ : L2.St} {H : Hp} {Q : VK} (h : tE X.K X.mg (EWx X.K X.mg Wx) (evE c m) σ H Q) :
    tA X.K X.mg (EWx X.K X.mg Wx) (evEs c ms) σ H fun vs H1 => spF X.K X.mg r vs H1 Q (WE Wx σ) := by
  obtain ⟨ρ, E, M, er, sr, h⟩ := h
  rw [hm] at h
  exact ⟨ρ, E, M, er, sr, post_imp (post_bind h) fun ρ1 H1 xs M1 e1 s1 h1 vs rs => ⟨ρ1, xs, M1, s1, rs, post_w (fun _ _ q => q) h1⟩⟩
theorem e_call (F : FnOk X.prog X.w X.K X.mg X.base (L2.CX X.prog X.w) k fa fd ps (spF X.K X.mg (c.call f))) (hr : Room k X.A) (hg : Gl X f) (hm : X.mg f = some (.ref fa)) (hk : PySem.W.keepIn X.K (.ref fa) = true) (hb : Binds X.K fd ps []) (tk : Takes X Wx)
    (ha : SA X (EWx X.K X.mg Wx) c (e :: es) ms) (hdb : (f == ("__debug__" : Str)) = false) (he : (e :: es).all (fun e => !isStar e) = true) : SE X (EWx X.K X.mg Wx) c (.Call (.Name f p) (e :: es) [] pos) (.call f ms) := by
  have h1 : isStar e = false ∧ es.all (fun e => !isStar e) = true := by simpa using he
  exact pe_imp (pe_callS F hr hg hm hk hb (fun σ => passAt tk σ) ha hdb (star_cons h1.1) (star_any h1.2)) fun σ H Q h => call_read (fun _ _ => rfl) h
theorem e_call0 (F : FnOk X.prog X.w X.K X.mg X.base (L2.CX X.prog X.w) k fa fd ps (spF X.K X.mg (c.call f))) (hr : Room k X.A) (hg : Gl X f) (hm : X.mg f = some (.ref fa)) (hk : PySem.W.keepIn X.K (.ref fa) = true) (hb : Binds X.K fd ps []) (tk : Takes X Wx)
    (hdb : (f == ("__debug__" : Str)) = false) : SE X (EWx X.K X.mg Wx) c (.Call (.Name f p) [] [] pos) (.call f .nil) := by
  have r : PE X (.Call (.Name f p) [] [] pos) (fun σ H Q => spF X.K X.mg (c.call f) [] H Q (WE Wx σ)) := by
    refine ⟨fun pins s σ H Q I h => ?_⟩
    refine wpAny_Call_Name_kw (ld_glob I hg hm ?_ hdb)
    exact PySem.W.callWith_K0 I.kIn hk (run_fnS (us := []) F hr hb (passAt tk σ) I .nil h)
  refine pe_imp r fun σ H Q h => ?_
  obtain ⟨ρ, E, M, er, sr, h⟩ := call_read (ms := .nil) (fun _ _ => rfl) h
  exact post_ok h sr _ .nil
end
/-! ### {k: v, ..} -/
section
variable {K : PySem.W.Frag} {mg : Str → Option Value} {H H' : Hp} {ρ ρ' : List Addr} {M : Store}
/-- a thing that stands already becomes one of ours -/
theorem SR.shownO {D : Addr} {m : MO} (S : SR K mg H ρ M) (hD : D ∉ ρ) (or : OR K mg H (ρ ++ [D]) D m) : SR K mg H (ρ ++ [D]) (M ++ [m]) := by
  have k : Kp ρ H (ρ ++ [D]) H := ⟨fun _ _ h => h, fun _ _ _ h => h, fun n a h => by rw [List.getElem?_append_left (List.getElem?_eq_some_iff.mp h).1]; exact h⟩
  refine ⟨by rw [List.length_append, List.length_append, S.len]; rfl, ?_, fun n a q h1 h2 => ?_⟩
  · exact List.nodup_append.mpr ⟨S.nd, (List.nodup_cons.mpr ⟨(fun z => nomatch z), List.nodup_nil⟩), fun x hx y hy => by cases List.mem_singleton.mp hy; exact fun z => hD (z ▸ hx)⟩
  · by_cases hn : n < ρ.length
    · rw [List.getElem?_append_left hn] at h1
      rw [List.getElem?_append_left (by rw [← S.len]; exact hn)] at h2
      exact (S.obj n a q h1 h2).kp k rfl
    · rw [List.getElem?_append_right (by omega)] at h1
      rw [List.getElem?_append_right (by have := S.len; omega)] at h2
      have hk : n - ρ.length = 0 := by
        have := (List.getElem?_eq_some_iff.mp h1).1
        simp at this; omega
      rw [hk] at h1
      rw [← S.len, hk] at h2
      simp at h1 h2
      subst h1 h2
      exact or
theorem ext_late {p : Addr} {o u : HO} (hp : H p = none) (hn : p ∉ ρ) (e : Ext ρ (upd H p o) ρ' H') : Ext ρ H (ρ' ++ [p]) (upd H' p u) := by
  obtain ⟨τ, e1, f1⟩ := e.pre
  refine ⟨⟨τ ++ [p], by rw [e1, List.append_assoc], fun a ha => ?_⟩, fun a q ha h => ?_⟩
  · rcases List.mem_append.mp ha with h | h
    · refine ⟨(f1 a h).1, ?_⟩
      have q := (f1 a h).2
      have : a ≠ p := fun z => by rw [z, upd_same] at q; cases q
      rw [upd_ne this] at q; exact q
    · cases List.mem_singleton.mp h; exact ⟨hn, hp⟩
  · have : a ≠ p := fun z => by rw [z, hp] at h; cases h
    rw [upd_ne this]
    exact e.keep a q ha (by rw [upd_ne this]; exact h)
theorem kp_dict {D : Addr} {l l' : List (Key × V)} (h : H D = some (.dK l)) : Kp ρ H ρ (upd H D (.dK l')) :=
  ⟨fun a xs e => by rw [upd_ne (fun z => by rw [z, h] at e; cases e)]; exact e, fun a o u e => by rw [upd_ne (fun z => by rw [z, h] at e; cases e)]; exact e, fun _ _ h => h⟩
end
section
variable {X : Cx} {W : EW} {c : Ctx} {pos : Pos}
def trsOf (K : PySem.W.Frag) (mg : Str → Option Value) (W : EW) (c : Ctx) : Exs → List (TE × TE)
  | .cons k (.cons v r) => (tE K mg W (evE c k), tE K mg W (evE c v)) :: trsOf K mg W c r
  | _ => []
def evenEs : Exs → Bool
  | .nil => true
  | .cons _ (.cons _ r) => evenEs r
  | _ => false
def pairUp : List V → List (V × V)
  | a :: b :: r => (a, b) :: pairUp r
  | _ => []
theorem pairs_read {K : PySem.W.Frag} {mg : Str → Option Value} {σ : L2.St} {E : Env} : ∀ {ms : Exs} {M M' : Store} {ps : List PV} {H : Hp} {ρ : List Addr} {Q : List (V × V) → Hp → Prop}, evenEs ms = true → evEs c ms E M = .ok ps M' → ER K H ρ E σ → SR K mg H ρ M →
    (∀ ρ' H' vs, Ext ρ H ρ' H' → SR K mg H' ρ' M' → RPs K H' ρ' ps vs → Q (pairUp vs) H') → tPairs (trsOf K mg W c ms) σ H Q
  | .nil, M, M', ps, H, ρ, Q, _, he, er, sr, q => by
    cases he
    exact q ρ H [] (Ext.refl _ _) sr .nil
  | .cons k (.cons v r), M, M', ps, H, ρ, Q, ho, he, er, sr, q => by
    simp only [evEs] at he
    cases h1 : evE c k E M with
    | bad => rw [h1] at he; cases he
    | err x M1 => rw [h1] at he; cases he
    | ok x M1 =>
      rw [h1, Res.bind_ok] at he
      cases h2 : evE c v E M1 with
      | bad => rw [h2] at he; cases he
      | err x M1 => rw [h2] at he; cases he
      | ok y M2 =>
        rw [h2, Res.bind_ok] at he
        cases h3 : evEs c r E M2 with
        | bad => rw [h3] at he; cases he
        | err x M1 => rw [h3] at he; cases he
        | ok zs M3 =>
          rw [h3] at he
          simp only [Res.bind_ok] at he
          injection he with g1 g2
          subst g1 g2
          refine ⟨ρ, E, M, er, sr, ?_⟩
          rw [h1]
          intro ρ1 H1 e1 s1 v1 r1
          have er1 := er.ext sr.mv e1
          refine ⟨ρ1, E, M1, er1, s1, ?_⟩
          rw [h2]
          intro ρ2 H2 e2 s2 v2 r2
          have er2 := er1.ext s1.mv e2
          exact pairs_read (ms := r) ho h3 er2 s2 fun ρ' H' vs e3 s3 r3 => q ρ' H' (v1 :: v2 :: vs) ((e1.trans e2).trans e3) s3 (.cons ((r1.ext s1.mv e2).ext s2.mv e3) (.cons (r2.ext s2.mv e3) r3))
  | .cons k .nil, _, _, _, _, _, _, ho, _, _, _, _ => by cases ho
theorem flat_rel {H : Hp} {ρ : List Addr} : ∀ {xs : List PV} {vs : List V} {qs : List (PV × PV)}, RPs X.K H ρ xs vs → flatPairs xs = some qs → ∃ kvs : List (Key × V), pairUp vs = kvs.map (fun kv => (kV kv.1, kv.2)) ∧ RKV X.K H ρ qs kvs
  | [], _, _, .nil, h => by cases h; exact ⟨[], rfl, .nil⟩
  | [x], _, _, .cons _ .nil, h => by cases h
  | x :: y :: xs, _, _, .cons r1 (.cons r2 rs), h => by
    simp only [flatPairs] at h
    split at h
    · rename_i hk
      simp only [Option.map_eq_some_iff] at h
      obtain ⟨ps, h1, rfl⟩ := h
      obtain ⟨q, hq, rfl⟩ := key_rel r1 hk
      obtain ⟨kvs, e1, e2⟩ := flat_rel rs h1
      exact ⟨(q, _) :: kvs, by rw [pairUp, e1]; rfl, .cons hq r2 e2⟩
    · cases h
theorem e_dic {keys : List (Option Expr)} {values : List Expr} {ms : Exs} (h : PPs X pos keys values (trsOf X.K X.mg W c ms)) (hev : evenEs ms = true) (hall : keys.all (·.isSome) = true) (hl : keys.length = values.length) (h0 : keys ≠ []) (h15 : keys.length ≤ 15) :
    SE X W c (.Dict keys values pos) (.dic ms) :=
  pe_imp (pe_disp h hall hl h0 h15) fun σ H Q h p hp => by
    obtain ⟨ρ, E, M, er, sr, h⟩ := h
    have hn := sr.notin hp
    have k0 : Kp ρ H ρ (upd H p (.dK [])) := (ext_new hp).kp sr.mv
    simp only [evE] at h
    split at h
    · rename_i xs M1 he
      split at h
      · rename_i qs hq
        split at h
        · rename_i h15
          refine pairs_read hev he (er.kp k0) (sr.new hp) fun ρ' H' vs e1 s1 r1 => ?_
          obtain ⟨kvs, g1, g2⟩ := flat_rel r1 hq
          have hp' : H' p = some (.dK []) := e1.keep p _ hn upd_same
          have hn' : p ∉ ρ' := by
            obtain ⟨τ, t1, t2⟩ := e1.pre
            rw [t1]; intro z
            rcases List.mem_append.mp z with z | z
            · exact hn z
            · have := (t2 p z).2; rw [upd_same] at this; cases this
          refine ⟨hp', kvs, g1, by rw [← g2.length]; exact h15, ?_⟩
          have kk : Kp ρ' H' ρ' (upd H' p (.dK (mergeK [] kvs))) := kp_dict hp'
          have s2 : SR X.K X.mg (upd H' p (.dK (mergeK [] kvs))) ρ' M1 := s1.kp kk fun a ha => upd_ne (fun z => hn' (z ▸ ha))
          have kl : Kp ρ' (upd H' p (.dK (mergeK [] kvs))) (ρ' ++ [p]) (upd H' p (.dK (mergeK [] kvs))) := ⟨fun _ _ h => h, fun _ _ _ h => h, fun n a h => by rw [List.getElem?_append_left (List.getElem?_eq_some_iff.mp h).1]; exact h⟩
          refine h _ _ (ext_late hp hn e1) (s2.shownO hn' ⟨_, upd_same, ((g2.merge .nil).kp kk).kp kl⟩) _ (loc_new s1)
        · exact h.elim
      · exact h.elim
    · exact h.elim
theorem e_dic0 : SE X W c (.Dict [] [] pos) (.dic .nil) :=
  pe_imp pe_dnewK fun σ H Q h p hp => by
    obtain ⟨ρ, E, M, er, sr, h⟩ := h
    exact lay_dic sr .nil h hp
end
end Wn
end
section
/-! So13: products. -/
namespace Wn
open PySem PySem.Spec PyProof.Rows L2
theorem foldl_cat : ∀ (k : Nat) (a : Array Nat) (acc : Array Nat), (List.replicate k a).foldl (· ++ ·) acc = acc ++ (List.replicate k a.toList).flatten.toArray
  | 0, a, acc => by simp
  | k + 1, a, acc => by
    rw [List.replicate_succ, List.foldl_cons, foldl_cat k a, List.replicate_succ, List.flatten_cons]
    apply Array.ext'
    simp [Array.append_assoc]
theorem flat_nil (k : Nat) : (List.replicate k ([] : List Nat)).flatten = [] := by
  induction k with
  | zero => rfl
  | succ k ih => rw [List.replicate_succ, List.flatten_cons, ih]; rfl
theorem mul_eq (x : Str) (k : Int) : Txt.mul x k = ⟨(List.replicate k.toNat x.cps.toList).flatten.toArray⟩ := by
  unfold Txt.mul
  split
  · rename_i h
    have : k.toNat = 0 := by omega
    rw [this]; rfl
  · split
    · rename_i h1 h2
      rcases Bool.or_eq_true_iff.mp h2 with h | h
      · have : k = 1 := by simpa using h
        subst this
        obtain ⟨⟨l⟩⟩ := x
        simp
      · have h : x.length = 0 := by simpa using h
        obtain ⟨⟨l⟩⟩ := x
        have : l = [] := List.length_eq_zero_iff.mp h
        subst this
        rw [flat_nil]
    · rw [foldl_cat]
      congr 1
      apply Array.ext'
      simp
section
variable {X : Cx}
theorem op_mulS : OpR X (binaryOp .Mult) (fun x y H Q => ∃ z k, x = .str z ∧ y = .int k ∧ z.length ≤ 1000 ∧ -1000 < k ∧ k < 1000 ∧ Q (.str ⟨(List.replicate k.toNat z.cps.toList).flatten.toArray⟩) H) := by
  rintro pins s σ H x y v u Q I rx ry ⟨z, k, rfl, rfl, h1, h2, h3, q⟩
  obtain ⟨t, rfl⟩ := rx
  obtain ⟨t', rfl⟩ := ry
  refine SB.mul (mulOk_of 1000 1000 h1 (by omega) (by omega) (by decide) (by decide)) fun t2 n => ?_
  exact ⟨.str _, H, I.tok n, ⟨t2, by rw [mul_eq]⟩, q⟩
theorem op_doMul : OpR X (binaryOp .Mult) (r2 X.K X.mg fun M p q => doBin M .mul p q) := by
  refine opr_imp ((op_mul.or op_rep).or op_mulS) ?_
  rintro x y H Q ⟨ρ, M, p, q, sr, rx, ry, h⟩
  have h := h []
  cases rx with
  | int i => cases ry with
    | int j =>
      simp only [doBin] at h
      split at h
      · exact Or.inl (Or.inl ⟨i, j, rfl, rfl, mul_ok ‹_›, post_ok h sr _ (.int _)⟩)
      · exact h.elim
    | _ => exact h.elim
  | str z => cases ry with
    | int k =>
      simp only [doBin] at h
      split at h
      · rename_i hc
        exact Or.inr ⟨z, k, rfl, rfl, hc.2.2, hc.2.1, hc.1, post_ok h sr _ (.str _)⟩
      · exact h.elim
    | _ => exact h.elim
  | @loc n a ha => cases ry with
    | int k =>
      simp only [doBin] at h
      split at h
      · rename_i xs hm
        obtain ⟨vs, e1, r1⟩ := sr.lst ha hm
        split at h
        · rename_i hc
          refine Or.inl (Or.inr ⟨a, k, vs, rfl, rfl, e1, by omega, by omega, ?_, fun p hp => lay_lst sr (r1.flat _) h hp⟩)
          have h1 : vs.length ≤ 1000 := by rw [← r1.length]; exact hc.2.2
          have h2 : k.toNat ≤ 1000 := by omega
          exact Nat.le_trans (Nat.mul_le_mul h1 h2) (by decide)
        · exact h.elim
      · exact h.elim
    | _ => exact h.elim
  | _ => exact h.elim
def opOf : BOp → Operator
  | .add => .Add
  | .sub => .Sub
  | .mul => .Mult
  | .fdiv => .FloorDiv
  | .mod => .Mod
  | .pow => .Pow
theorem op_all (o : BOp) : OpR X (binaryOp (opOf o)) (r2 X.K X.mg fun M p q => doBin M o p q) := by
  cases o
  · exact op_doAdd
  · exact op_doSub
  · exact op_doMul
  · exact op_doFdiv
  · exact op_doMod
  · exact op_doPow
def cmpOf : COp → CmpOp
  | .eq => .Eq
  | .ne => .NotEq
  | .lt => .Lt
  | .le => .LtE
  | .gt => .Gt
  | .ge => .GtE
  | .isin => .In
  | .notin => .NotIn
  | .is_ => .Is
  | .isnot => .IsNot
theorem cmp_all (hu : X.A.units + 200 < cLine) (o : COp) : OpR X (compareOp (cmpOf o)) (rC X o) := by
  cases o
  · exact op_doEq hu
  · exact op_doNe hu
  · exact op_doLt
  · exact op_doLe
  · exact op_doGt
  · exact op_doGe
  · exact op_doIn hu
  · exact op_doNotin hu
  · exact op_doIs
  · exact op_doIsnot
end
end Wn
end
section
/-! So14: a text and its term: the look, and that the term tells what the text does. -/
namespace Wn
open PySem PySem.Spec PyProof.Rows L2

def biName : Bi → String
  | .len => "len" | .list => "list" | .tuple => "tuple" | .dict => "dict" | .set => "set" | .int => "int" | .max => "max" | .min => "min" | .sum => "sum" | .all => "all" | .any => "any" | .sorted => "sorted" | .str => "str" | .repr => "repr"
def biSup : Bi → Bool
  | .set => false | .sorted => false | .str => false | .repr => false
  | _ => true
def biIsTy : Bi → Bool
  | .list => true | .tuple => true | .dict => true | .int => true
  | _ => false
def bmName : Bm → String
  | .append => "append" | .extend => "extend" | .pop => "pop" | .clear => "clear"
  | _ => ""
def bmSup : Bm → Bool
  | .append => true | .extend => true | .pop => true | .clear => true
  | _ => false
/-- the built-in names that are leant on -/
def biNames : List Str := ["len", "list", "tuple", "dict", "int", "max", "min", "sum", "all", "any", "isinstance", "str", "bool", "range", "enumerate", "zip", "sorted", "set", "repr"]
def nameOf : Expr → Str
  | .Name x _ => x
  | _ => Str.empty
def tgOwn : Tg → Expr → List (Str × Nat)
  | .nm i, .Name x _ => [(x, i)]
  | .tup is, .Tuple es _ _ => (es.map nameOf).zip is
  | _, _ => []
def tgB (N : List Str) (sc : Scope) (fn : Str → Bool) : Tg → Expr → Bool
  | .nm i, e => (match e with
    | .Name x _ => decide (N[i]? = some x) && locB sc fn x
    | _ => false)
  | .tup is, e => (match e with
    | .Tuple es _ _ => tgNames is es N sc fn
    | _ => false)
def isTupE : Expr → Bool
  | .Tuple .. => true
  | _ => false

mutual
def cE (T : Tbl) (N : List Str) (sc : Scope) (fn : Str → Bool) : Ex → Expr → Bool
  | .var i, e => (match e with
    | .Name x _ => decide (N[i]? = some x) && visB sc x && plainName x
    | _ => false)
  | .int i, e => (match e with
    | .Constant (.int j) _ _ => decide (j = i)
    | _ => false)
  | .str i, e => (match e with
    | .Constant (.str j) _ _ => decide (j = i)
    | _ => false)
  | .bl i, e => (match e with
    | .Constant (.bool j) _ _ => decide (j = i)
    | _ => false)
  | .non, e => (match e with
    | .Constant .none _ _ => true
    | _ => false)
  | .glo x, e => (match e with
    | .Name y _ => decide (y = x) && globB sc y && plainName y
    | _ => false)
  | .bin o a b, e => (match e with
    | .BinOp l op r _ => decide (op = opOf o) && cE T N sc fn a l && cE T N sc fn b r
    | _ => false)
  | .neg a, e => (match e with
    | .UnaryOp .USub x _ => cE T N sc fn a x
    | _ => false)
  | .cmp o a b, e => (match e with
    | .Compare l [op] [r] _ => decide (op = cmpOf o) && notSet r && cE T N sc fn a l && cE T N sc fn b r
    | _ => false)
  | .chain o p a b d, e => (match e with
    | .Compare l [op, op'] [r, s] _ => decide (op = cmpOf o) && decide (op' = cmpOf p) && notSet s && cE T N sc fn a l && cE T N sc fn b r && cE T N sc fn d s
    | _ => false)
  | .and_ a b, e => (match e with
    | .BoolOp .And (x :: y :: rest) pos => cE T N sc fn a x && (match rest with
      | [] => cE T N sc fn b y
      | _ => cE T N sc fn b (.BoolOp .And (y :: rest) pos))
    | _ => false)
  | .or_ a b, e => (match e with
    | .BoolOp .Or (x :: y :: rest) pos => cE T N sc fn a x && (match rest with
      | [] => cE T N sc fn b y
      | _ => cE T N sc fn b (.BoolOp .Or (y :: rest) pos))
    | _ => false)
  | .not_ a, e => (match e with
    | .UnaryOp .Not x _ => cE T N sc fn a x
    | _ => false)
  | .ite t a b, e => (match e with
    | .IfExp d x y _ => cT T N sc fn t d && cE T N sc fn a x && cE T N sc fn b y
    | _ => false)
  | .tup es, e => (match e with
    | .Tuple xs _ _ => cEs T N sc fn es xs
    | _ => false)
  | .lst es, e => (match e with
    | .List xs _ => cEs T N sc fn es xs
    | _ => false)
  | .dic es, e => (match e with
    | .Dict ks vs _ => cKV T N sc fn es ks vs && decide (ks.length ≤ 15)
    | _ => false)
  | .idx a b, e => (match e with
    | .Subscript x y _ => notSlice y && cE T N sc fn a x && cE T N sc fn b y
    | _ => false)
  | .slice a lo hi, e => (match e with
    | .Subscript x (.Slice l h none _) _ => cE T N sc fn a x && cO T N sc fn lo l && cO T N sc fn hi h
    | _ => false)
  | .call f es, e => (match e with
    | .Call (.Name x _) args [] _ => decide (x = f) && globB sc f && plainName f && (T.fn.lookup f).isSome && cEs T N sc fn es args
    | _ => false)
  | .bi f es, e => (match e with
    | .Call (.Name x _) args [] _ => decide (x = (biName f : Str)) && biSup f && globB sc x && cEs T N sc fn es args && !args.isEmpty
    | _ => false)
  | .bm m o es, e => (match e with
    | .Call (.Attribute x name apos) args [] cpos => decide (name = (bmName m : Str)) && bmSup m && baseOk x && (apos.endLine == cpos.line) && decide (args.length < 30) && cE T N sc fn o x && cEs T N sc fn es args
    | _ => false)
  | .isi a t, e => (match e with
    | .Call (.Name x _) [y, .Name z _] [] _ => decide (x = "isinstance") && decide (z = (tyName t : Str)) && !isOwn t && globB sc "isinstance" && globB sc (tyName t) && !isStar y && cE T N sc fn a y
    | _ => false)
  | .lc elt g it cond, e => (match e with
    | .ListComp el [⟨tg, iter, ifs, as⟩] scope _ => decide (as = 0) && blkC N sc scope (tgOwn g tg) && notSet iter && tgB N (relS scope sc) (fun x => scope.names.lookup x == some .cell) g tg && cI T N sc fn it tg iter &&
        cE T N (relS scope sc) (fun x => scope.names.lookup x == some .cell) elt el && cC T N (relS scope sc) (fun x => scope.names.lookup x == some .cell) cond ifs
    | _ => false)
  | _, _ => false
def cT (T : Tbl) (N : List Str) (sc : Scope) (fn : Str → Bool) : Ex → Expr → Bool
  | .and_ a b, e => (match e with
    | .BoolOp .And (x :: y :: rest) pos => cT T N sc fn a x && (match rest with
      | [] => cT T N sc fn b y
      | _ => (match b with
        | .and_ _ _ => cT T N sc fn b (.BoolOp .And (y :: rest) pos)
        | _ => false))
    | _ => false)
  | .or_ a b, e => (match e with
    | .BoolOp .Or (x :: y :: rest) pos => cT T N sc fn a x && (match rest with
      | [] => cT T N sc fn b y
      | _ => (match b with
        | .or_ _ _ => cT T N sc fn b (.BoolOp .Or (y :: rest) pos)
        | _ => false))
    | _ => false)
  | .not_ a, e => (match e with
    | .UnaryOp .Not x _ => cT T N sc fn a x
    | _ => false)
  | .cmp o a b, e => (match e with
    | .Compare l [op] [r] _ => decide (op = cmpOf o) && notSet r && cE T N sc fn a l && cE T N sc fn b r
    | _ => false)
  | .chain o p a b d, e => (match e with
    | .Compare l [op, op'] [r, s] _ => decide (op = cmpOf o) && decide (op' = cmpOf p) && notSet s && cE T N sc fn a l && cE T N sc fn b r && cE T N sc fn d s
    | _ => false)
  | .var i, e => (match e with
    | .Name x _ => decide (N[i]? = some x) && visB sc x && plainName x
    | _ => false)
  | .call f es, e => (match e with
    | .Call (.Name x _) args [] _ => decide (x = f) && globB sc f && plainName f && (T.fn.lookup f).isSome && cEs T N sc fn es args
    | _ => false)
  | .bi f es, e => (match e with
    | .Call (.Name x _) args [] _ => decide (x = (biName f : Str)) && biSup f && globB sc x && cEs T N sc fn es args && !args.isEmpty
    | _ => false)
  | .isi a t, e => (match e with
    | .Call (.Name x _) [y, .Name z _] [] _ => decide (x = "isinstance") && decide (z = (tyName t : Str)) && !isOwn t && globB sc "isinstance" && globB sc (tyName t) && !isStar y && cE T N sc fn a y
    | _ => false)
  | _, _ => false
def cEs (T : Tbl) (N : List Str) (sc : Scope) (fn : Str → Bool) : Exs → List Expr → Bool
  | .nil, es => es.isEmpty
  | .cons m ms, es => (match es with
    | e :: r => !isStar e && cE T N sc fn m e && cEs T N sc fn ms r
    | [] => false)
/-- the pairs of a display -/
def cKV (T : Tbl) (N : List Str) (sc : Scope) (fn : Str → Bool) : Exs → List (Option Expr) → List Expr → Bool
  | .nil, ks, vs => ks.isEmpty && vs.isEmpty
  | .cons m ms, ks, vs => (match ks, vs with
    | some k :: kr, v :: vr => cE T N sc fn m k && cV T N sc fn ms v kr vr
    | _, _ => false)
def cV (T : Tbl) (N : List Str) (sc : Scope) (fn : Str → Bool) : Exs → Expr → List (Option Expr) → List Expr → Bool
  | .nil, _, _, _ => false
  | .cons m ms, v, ks, vs => cE T N sc fn m v && cKV T N sc fn ms ks vs
def cO (T : Tbl) (N : List Str) (sc : Scope) (fn : Str → Bool) : Ox → Option Expr → Bool
  | .none, e => e.isNone
  | .some m, e => (match e with
    | some e => cE T N sc fn m e
    | none => false)
def cC (T : Tbl) (N : List Str) (sc : Scope) (fn : Str → Bool) : Ox → List Expr → Bool
  | .none, es => es.isEmpty
  | .some m, es => (match es with
    | [e] => cT T N sc fn m e
    | _ => false)
def cI (T : Tbl) (N : List Str) (sc : Scope) (fn : Str → Bool) : Ix → Expr → Expr → Bool
  | .of m, _, e => cE T N sc fn m e
  | .rng1 a, _, e => (match e with
    | .Call (.Name x _) [y] [] _ => decide (x = "range") && globB sc "range" && !isStar y && cE T N sc fn a y
    | _ => false)
  | .rng2 a b, _, e => (match e with
    | .Call (.Name x _) [y, z] [] _ => decide (x = "range") && globB sc "range" && !isStar y && !isStar z && cE T N sc fn a y && cE T N sc fn b z
    | _ => false)
  | .enum a, tg, e => (match e with
    | .Call (.Name x _) [y] [] _ => decide (x = "enumerate") && globB sc "enumerate" && isTupE tg && !isStar y && cE T N sc fn a y
    | _ => false)
  | .zip _ _, _, _ => false
end

mutual
def cS (T : Tbl) (N : List Str) (sc : Scope) (fn : Str → Bool) : S → Stmt → Bool
  | .asg i m, s => (match s with
    | .Assign [.Name x py] e pos => decide (N[i]? = some x) && locB sc fn x && cE T N sc fn m e && (notComp e || (match e with
      | .ListComp _ _ scope p => (match sc.names.lookup x with
        | some .local => (match sc.kind with
          | .function => (py.line == p.line) && !(scope.names.any fun (n, k) => n == x && (k == .local || k == .cell))
          | _ => false)
        | _ => false)
      | _ => false))
    | _ => false)
  | .unp is m, s => (match s with
    | .Assign [.Tuple ts _ _] e _ => tgNames is ts N sc fn && notTup e && notComp e && cE T N sc fn m e
    | _ => false)
  | .seti o i m, s => (match s with
    | .Assign [.Subscript a b _] e _ => notSlice b && notComp e && cE T N sc fn o a && cE T N sc fn i b && cE T N sc fn m e
    | _ => false)
  | .nev, _ => true
  | .ex m, s => (match s with
    | .Expr e _ => notComp e && cE T N sc fn m e
    | _ => false)
  | .ret m, s => (match s with
    | .Return (some e) _ => cE T N sc fn m e
    | _ => false)
  | .retN, s => (match s with
    | .Return none _ => true
    | _ => false)
  | .pass, s => (match s with
    | .Pass _ => true
    | _ => false)
  | .brk, s => (match s with
    | .Break _ => true
    | _ => false)
  | .cont, s => (match s with
    | .Continue _ => true
    | _ => false)
  | .ifs t a b, s => (match s with
    | .If e x y _ => cT T N sc fn t e && cSs T N sc fn a x && cSs T N sc fn b y
    | _ => false)
  | .whl t b, s => (match s with
    | .While e x [] _ => cT T N sc fn t e && cSs T N sc fn b x
    | _ => false)
  | .for_ g it b, s => (match s with
    | .For tg iter x [] _ => tgB N sc fn g tg && notSet iter && cI T N sc fn it tg iter && cSs T N sc fn b x
    | _ => false)
  | .setf _ _ _, _ => false
def cSs (T : Tbl) (N : List Str) (sc : Scope) (fn : Str → Bool) : Ss → List Stmt → Bool
  | .nil, ss => ss.isEmpty
  | .cons m ms, ss => (match ss with
    | s :: r => cS T N sc fn m s && cSs T N sc fn ms r
    | [] => false)
end

/-- what is known of the program's own things at level k -/
structure Link (P : Program) (w : World) (K : PySem.W.Frag) (mg : Str → Option Value) (base : Heap) (T : Tbl) (c : Ctx) (k : Nat) : Prop where
  fn : ∀ f d, T.fn.lookup f = some d → ∃ fa fd, mg f = some (.ref fa) ∧ PySem.W.keepIn K (.ref fa) = true ∧ Binds K fd (d.names.take d.np) [] ∧ FnOk P w K mg base (L2.CX P w) k fa fd (d.names.take d.np) (spF K mg (c.call f))
  glo : ∀ x p, c.glo x = some p → ∃ u v, mg x = some u ∧ RelV v u ∧ ∀ H ρ, RP K H ρ p v
  free : ∀ x ∈ biNames, mg x = none
structure Good (T : Tbl) (c : Ctx) (k : Nat) (X : Cx) (N : List Str) (sc : Scope) (fn : Str → Bool) : Prop where
  hN : X.N = N
  nd : X.N.Nodup
  hsc : X.env.scope = sc
  hfn : X.fn = fn
  calm : X.calm = true
  room : Room k X.A
  lk : Link X.prog X.w X.K X.mg X.base T c k
theorem Good.hu {T : Tbl} {c : Ctx} {k : Nat} {X : Cx} {N : List Str} {sc : Scope} {fn : Str → Bool} (G : Good T c k X N sc fn) : X.A.units + 200 < cLine := by
  have := G.room.un; omega
theorem Good.blk {T : Tbl} {c : Ctx} {k : Nat} {X : Cx} {N : List Str} {sc : Scope} {fn : Str → Bool} (G : Good T c k X N sc fn) (s : Shared) (H : Hp) (scope : Scope) (cl : List (Str × Addr)) (C : Addr) (fp : List Addr) :
    Good T c k (X.blk s H scope (compEnvC scope cl C X.env) fp) N (relS scope sc) (fun x => scope.names.lookup x == some .cell) where
  hN := G.hN
  nd := G.nd
  hsc := by rw [← G.hsc]; rfl
  hfn := rfl
  calm := G.calm
  room := G.room
  lk := G.lk
theorem glob_of {X : Cx} {sc : Scope} {x : Str} (hsc : X.env.scope = sc) (h : globB sc x = true) : Gl X x := by
  subst hsc
  have q : X.env.scope.names.lookup x = some .globalImplicit := of_decide_eq_true h
  exact q
theorem plain_of {x : Str} (h : plainName x = true) : (x == ("__debug__" : Str)) = false ∧ (x == ("__classdict__" : Str)) = false ∧ x ≠ "__name__" := by
  simp only [plainName, Bool.and_eq_true, Bool.not_eq_true'] at h
  exact ⟨h.1.1, h.1.2, fun z => by rw [z] at h; exact absurd h.2 (by decide)⟩
theorem tgNames_own {N : List Str} {sc : Scope} {fn : Str → Bool} : ∀ {is : List Nat} {es : List Expr}, tgNames is es N sc fn = true → ((es.map nameOf).zip is).map (·.2) = is
  | [], [], _ => rfl
  | [], e :: es, h => by cases e <;> cases h
  | i :: is, [], h => by cases h
  | i :: is, e :: es, h => by
    cases e <;> first | (cases h; done) | skip
    simp only [tgNames, Bool.and_eq_true] at h
    rw [List.map_cons, List.zip_cons_cons, List.map_cons, tgNames_own h.2]
theorem tg_own {N : List Str} {sc : Scope} {fn : Str → Bool} {g : Tg} {tg : Expr} (h : tgB N sc fn g tg = true) : (tgOwn g tg).map (·.2) = tgIx g := by
  cases g with
  | nm i =>
    simp only [tgB] at h
    split at h
    · rfl
    · cases h
  | tup is =>
    simp only [tgB] at h
    split at h
    · exact tgNames_own h
    · cases h
theorem tg_pg {T : Tbl} {c : Ctx} {k : Nat} {X : Cx} {N : List Str} {sc : Scope} {fn : Str → Bool} (G : Good T c k X N sc fn) {g : Tg} {tg : Expr} (h : tgB N sc fn g tg = true) : PG X tg (tgG X.K g) := by
  have hN := G.hN
  subst hN
  cases g with
  | nm i =>
    simp only [tgB] at h
    split at h
    · simp only [Bool.and_eq_true, decide_eq_true_eq] at h
      exact pg_of G.nd G.hsc G.hfn h.1 h.2
    · cases h
  | tup is =>
    simp only [tgB] at h
    split at h
    · exact pg_tgt G.calm G.nd G.hsc G.hfn h
    · cases h
theorem cEs_star {T : Tbl} {N : List Str} {sc : Scope} {fn : Str → Bool} : ∀ {ms : Exs} {es : List Expr}, cEs T N sc fn ms es = true → es.all (fun e => !isStar e) = true
  | .nil, es, h => by cases es with
    | nil => rfl
    | cons _ _ => simp [cEs] at h
  | .cons m ms, es, h => by
    cases es with
    | nil => simp [cEs] at h
    | cons e es =>
      simp only [cEs, Bool.and_eq_true] at h
      rw [List.all_cons, h.1.1, cEs_star h.2]; rfl
theorem bi_free {x : Str} {f : Bi} (h : x = (biName f : Str)) (hs : biSup f = true) : x ∈ biNames := by
  subst h
  cases f <;> first | (cases hs; done) | decide
end Wn
end
section
/-! So15: the term tells what the text does. -/
namespace Wn
open PySem PySem.Spec PyProof.Rows L2

theorem Res.bind_assoc {α β γ : Type} (r : Res α) (f : α → Store → Res β) (g : β → Store → Res γ) : (r.bind f).bind g = r.bind fun a M => (f a M).bind g := by cases r <;> rfl
theorem call_bi {X : Cx} {f : Bi} {T : Tbl} {c : Ctx} {k : Nat} {N : List Str} {sc : Scope} {fn : Str → Bool} {Wx : WX} {x : Str} {p pos : Pos} {e : Expr} {es : List Expr} {ms : Exs} (G : Good T c k X N sc fn) (hx : x = (biName f : Str)) (hs : biSup f = true) (hg : globB sc x = true)
    (ha : SA X (EWx X.K X.mg Wx) c (e :: es) ms) (hst : (e :: es).all (fun e => !isStar e) = true) : SE X (EWx X.K X.mg Wx) c (.Call (.Name x p) (e :: es) [] pos) (.bi f ms) := by
  have h1 : isStar e = false ∧ es.all (fun e => !isStar e) = true := by simpa using hst
  have hm := G.lk.free x (bi_free hx hs)
  have gl := glob_of G.hsc hg
  have hn : x ≠ "__name__" := by subst hx; cases f <;> decide
  have hd : (x == ("__debug__" : Str)) = false := by subst hx; cases f <;> decide
  cases f <;> first | (cases hs; done) | skip
  · exact e_biB c_len gl hm (by rw [hx]; decide +kernel) ha hn hd (star_cons h1.1) (star_any h1.2)
  · exact e_biT c_list gl hm (by rw [hx]; decide +kernel) ha hn hd (star_cons h1.1) (star_any h1.2)
  · exact e_biT c_tuple gl hm (by rw [hx]; decide +kernel) ha hn hd (star_cons h1.1) (star_any h1.2)
  · exact e_biT (c_dict G.calm) gl hm (by rw [hx]; decide +kernel) ha hn hd (star_cons h1.1) (star_any h1.2)
  · exact e_biT c_int gl hm (by rw [hx]; decide +kernel) ha hn hd (star_cons h1.1) (star_any h1.2)
  · exact e_biB (c_max G.calm) gl hm (by rw [hx]; decide +kernel) ha hn hd (star_cons h1.1) (star_any h1.2)
  · exact e_biB (c_min G.calm) gl hm (by rw [hx]; decide +kernel) ha hn hd (star_cons h1.1) (star_any h1.2)
  · exact e_biB (c_sum G.calm) gl hm (by rw [hx]; decide +kernel) ha hn hd (star_cons h1.1) (star_any h1.2)
  · exact e_biB (c_all G.calm) gl hm (by rw [hx]; decide +kernel) ha hn hd (star_cons h1.1) (star_any h1.2)
  · exact e_biB (c_any G.calm) gl hm (by rw [hx]; decide +kernel) ha hn hd (star_cons h1.1) (star_any h1.2)
theorem call_isi {X : Cx} {t : Ty} {T : Tbl} {c : Ctx} {k : Nat} {N : List Str} {sc : Scope} {fn : Str → Bool} {Wx : WX} {p pos q2 : Pos} {e : Expr} {ea : Ex} (G : Good T c k X N sc fn) (ho : isOwn t = false) (hg : globB sc "isinstance" = true) (hg2 : globB sc (tyName t) = true)
    (hst : isStar e = false) (ha : SE X (EWx X.K X.mg Wx) c e ea) : SE X (EWx X.K X.mg Wx) c (.Call (.Name "isinstance" p) [e, .Name (tyName t) q2] [] pos) (.isi ea t) := by
  refine e_isi ho ha (glob_of G.hsc hg) (G.lk.free _ (by decide)) (glob_of G.hsc hg2) (G.lk.free _ ?_) ?_ ?_ ?_ (star_cons hst)
  · cases t <;> first | (cases ho; done) | decide
  · cases t <;> first | (cases ho; done) | decide +kernel
  · cases t <;> first | (cases ho; done) | decide
  · cases t <;> first | (cases ho; done) | decide
theorem call_bm {X : Cx} {m : Bm} {W : EW} {c : Ctx} {o : Expr} {eo : Ex} {es : List Expr} {ms : Exs} {name : Str} {apos cpos : Pos} (hm : name = (bmName m : Str)) (hs : bmSup m = true) (hb : baseOk o = true) (hl : (apos.endLine == cpos.line) = true) (h30 : es.length < 30)
    (ho : SE X W c o eo) (ha : SA X W c es ms) (hn : es = [] → ms = .nil) (hst : es.all (fun e => !isStar e) = true) : SE X W c (.Call (.Attribute o name apos) es [] cpos) (.bm m eo ms) := by
  have hk : m ≠ .get ∧ m ≠ .dpop := by cases m <;> first | (cases hs; done) | exact ⟨by decide, by decide⟩
  cases es with
  | nil =>
    rw [hn rfl]
    cases m <;> first | (cases hs; done) | skip
    · exact e_bm0 hk (hm ▸ PySem.F.slot_list_append) PySem.F.type_list_append m_append ho (base_ok hb) hl
    · exact e_bm0 hk (hm ▸ PySem.F.slot_list_extend) PySem.F.type_list_extend m_extend ho (base_ok hb) hl
    · exact e_bm0 hk (hm ▸ PySem.F.slot_list_pop) PySem.F.type_list_pop m_pop ho (base_ok hb) hl
    · exact e_bm0 hk (hm ▸ PySem.F.slot_list_clear) PySem.F.type_list_clear m_clear ho (base_ok hb) hl
  | cons e es =>
    have h1 : isStar e = false ∧ es.all (fun e => !isStar e) = true := by simpa using hst
    cases m <;> first | (cases hs; done) | skip
    · exact e_bm hk (hm ▸ PySem.F.slot_list_append) PySem.F.type_list_append m_append ho ha (base_ok hb) (star_few hst h30) hl (star_cons h1.1) (star_any h1.2)
    · exact e_bm hk (hm ▸ PySem.F.slot_list_extend) PySem.F.type_list_extend m_extend ho ha (base_ok hb) (star_few hst h30) hl (star_cons h1.1) (star_any h1.2)
    · exact e_bm hk (hm ▸ PySem.F.slot_list_pop) PySem.F.type_list_pop m_pop ho ha (base_ok hb) (star_few hst h30) hl (star_cons h1.1) (star_any h1.2)
    · exact e_bm hk (hm ▸ PySem.F.slot_list_clear) PySem.F.type_list_clear m_clear ho ha (base_ok hb) (star_few hst h30) hl (star_cons h1.1) (star_any h1.2)
theorem sole_no {t e : Expr} {l : Nat} {env : PySem.Env} (h : notComp e = true) : swapsWithSole [t] e l env = pure false := swap_no h
theorem star1 {e : Expr} {env : PySem.Env} (h : isStar e = false) : starEach [e] env = [(false, eval e env)] := star_cons h
theorem star2 {e d : Expr} {env : PySem.Env} (h : isStar e = false) (h' : isStar d = false) : starEach [e, d] env = [(false, eval e env), (false, eval d env)] := by rw [star_cons h, star1 h']
/-- a call of an own def -/
theorem call_own {X : Cx} {T : Tbl} {c : Ctx} {k : Nat} {N : List Str} {sc : Scope} {fn : Str → Bool} {Wx : WX} (G : Good T c k X N sc fn) (tk : Takes X Wx) {f : Str} {p pos : Pos} {es : List Expr} {ms : Exs} (hg : globB sc f = true) (hp : plainName f = true) (hf : (T.fn.lookup f).isSome = true)
    (ha : SA X (EWx X.K X.mg Wx) c es ms) (hn : es = [] → ms = .nil) (hst : es.all (fun e => !isStar e) = true) : SE X (EWx X.K X.mg Wx) c (.Call (.Name f p) es [] pos) (.call f ms) := by
  obtain ⟨d, hd⟩ := Option.isSome_iff_exists.mp hf
  obtain ⟨fa, fd, h1, h2, h3, h4⟩ := G.lk.fn f d hd
  cases es with
  | nil => rw [hn rfl]; exact e_call0 h4 G.room (glob_of G.hsc hg) h1 h2 h3 tk (plain_of hp).1
  | cons e es => exact e_call h4 G.room (glob_of G.hsc hg) h1 h2 h3 tk ha (plain_of hp).1 hst
theorem cEs_nil {T : Tbl} {N : List Str} {sc : Scope} {fn : Str → Bool} {ms : Exs} {es : List Expr} (h : cEs T N sc fn ms es = true) (he : es = []) : ms = .nil := by
  subst he
  cases ms with
  | nil => rfl
  | cons _ _ => simp [cEs] at h

def boolM : Ex → Bool
  | .and_ _ _ => true
  | .or_ _ _ => true
  | _ => false
mutual
theorem sE {T : Tbl} {c : Ctx} {k : Nat} : ∀ (m : Ex) {X : Cx} {N : List Str} {sc : Scope} {fn : Str → Bool} {Wx : WX} (G : Good T c k X N sc fn) (tk : Takes X Wx) {e : Expr}, cE T N sc fn m e = true → SE X (EWx X.K X.mg Wx) c e m
  | .var i, X, N, sc, fn, Wx, G, tk, e, h => by
    simp only [cE] at h
    split at h
    · simp only [Bool.and_eq_true, decide_eq_true_eq] at h
      obtain ⟨⟨h1, h2⟩, h3⟩ := h
      obtain ⟨p1, p2, _⟩ := plain_of h3
      exact e_var (by rw [G.hN]; exact h1) (G.hsc ▸ vis_of h2) p1 p2 c
    · cases h
  | .int i, X, N, sc, fn, Wx, G, tk, e, h => by
    simp only [cE] at h
    split at h
    · cases of_decide_eq_true h; exact e_int c
    · cases h
  | .str i, X, N, sc, fn, Wx, G, tk, e, h => by
    simp only [cE] at h
    split at h
    · cases of_decide_eq_true h; exact e_str c
    · cases h
  | .bl i, X, N, sc, fn, Wx, G, tk, e, h => by
    simp only [cE] at h
    split at h
    · cases of_decide_eq_true h; exact e_bl c
    · cases h
  | .non, X, N, sc, fn, Wx, G, tk, e, h => by
    simp only [cE] at h
    split at h
    · exact e_non c
    · cases h
  | .glo x, X, N, sc, fn, Wx, G, tk, e, h => by
    simp only [cE] at h
    split at h
    · rename_i y pos
      simp only [Bool.and_eq_true, decide_eq_true_eq] at h
      obtain ⟨⟨h1, h2⟩, h3⟩ := h
      subst h1
      cases hg : c.glo y with
      | none =>
        refine ⟨fun pins s σ H Q I h => ?_⟩
        obtain ⟨ρ, E, M, er, sr, h⟩ := h
        simp only [evE, hg] at h
        exact h.elim
      | some p =>
        obtain ⟨u, v, q1, q2, q3⟩ := G.lk.glo _ p hg
        exact e_glo (glob_of G.hsc h2) q1 q2 hg q3 (plain_of h3).1
    · cases h
  | .bin o a b, X, N, sc, fn, Wx, G, tk, e, h => by
    simp only [cE] at h
    split at h
    · simp only [Bool.and_eq_true, decide_eq_true_eq] at h
      obtain ⟨⟨h1, h2⟩, h3⟩ := h
      subst h1
      exact e_bin (op_all o) (fun M p q => noErr_bin M o p q) (sE a G tk h2) (sE b G tk h3)
    · cases h
  | .neg a, X, N, sc, fn, Wx, G, tk, e, h => by
    simp only [cE] at h
    split at h
    · exact e_neg (sE a G tk h)
    · cases h
  | .cmp o a b, X, N, sc, fn, Wx, G, tk, e, h => by
    simp only [cE] at h
    split at h
    · simp only [Bool.and_eq_true, decide_eq_true_eq] at h
      obtain ⟨⟨⟨h1, h2⟩, h3⟩, h4⟩ := h
      subst h1
      exact e_cmp (cmp_all G.hu o) (sE a G tk h3) (sE b G tk h4) (marks_no h2)
    · cases h
  | .chain o p a b d, X, N, sc, fn, Wx, G, tk, e, h => by
    simp only [cE] at h
    split at h
    · simp only [Bool.and_eq_true, decide_eq_true_eq] at h
      obtain ⟨⟨⟨⟨⟨h1, h1'⟩, h2⟩, h3⟩, h4⟩, h5⟩ := h
      subst h1 h1'
      exact e_chain (cmp_all G.hu o) (cmp_all G.hu p) (sE a G tk h3) (sE b G tk h4) (sE d G tk h5) (marks_no h2)
    · cases h
  | .and_ a b, X, N, sc, fn, Wx, G, tk, e, h => by
    simp only [cE] at h
    split at h
    · simp only [Bool.and_eq_true] at h
      obtain ⟨h1, h2⟩ := h
      split at h2
      · exact e_and (sE a G tk h1) (e_one (sE b G tk h2))
      · exact e_and (sE a G tk h1) (sE b G tk h2)
    · cases h
  | .or_ a b, X, N, sc, fn, Wx, G, tk, e, h => by
    simp only [cE] at h
    split at h
    · simp only [Bool.and_eq_true] at h
      obtain ⟨h1, h2⟩ := h
      split at h2
      · exact e_or (sE a G tk h1) (e_one (sE b G tk h2))
      · exact e_or (sE a G tk h1) (sE b G tk h2)
    · cases h
  | .not_ a, X, N, sc, fn, Wx, G, tk, e, h => by
    simp only [cE] at h
    split at h
    · exact e_not (sE a G tk h)
    · cases h
  | .ite t a b, X, N, sc, fn, Wx, G, tk, e, h => by
    simp only [cE] at h
    split at h
    · simp only [Bool.and_eq_true] at h
      exact e_ite (sT t G tk h.1.1).1 (sE a G tk h.1.2) (sE b G tk h.2)
    · cases h
  | .tup es, X, N, sc, fn, Wx, G, tk, e, h => by
    simp only [cE] at h
    split at h
    · exact e_tup (sEs es G tk h)
    · cases h
  | .lst es, X, N, sc, fn, Wx, G, tk, e, h => by
    simp only [cE] at h
    split at h
    · exact e_lst (sEs es G tk h)
    · cases h
  | .dic es, X, N, sc, fn, Wx, G, tk, e, h => by
    simp only [cE] at h
    split at h
    · rename_i ks vs pos
      simp only [Bool.and_eq_true, decide_eq_true_eq] at h
      obtain ⟨h1, h2⟩ := h
      cases ks with
      | nil =>
        cases es with
        | nil =>
          cases vs with
          | nil => exact e_dic0
          | cons _ _ => simp [cKV] at h1
        | cons _ _ => simp [cKV] at h1
      | cons k0 kr =>
        obtain ⟨q1, q2, q3, q4⟩ := sKV es G tk (pos := pos) h1
        exact e_dic q1 q2 q3 q4 (fun z => nomatch z) h2
    · cases h
  | .idx a b, X, N, sc, fn, Wx, G, tk, e, h => by
    simp only [cE] at h
    split at h
    · simp only [Bool.and_eq_true] at h
      exact e_idx G.hu (sE a G tk h.1.2) (sE b G tk h.2) (plain_ix h.1.1)
    · cases h
  | .slice a lo hi, X, N, sc, fn, Wx, G, tk, e, h => by
    simp only [cE] at h
    split at h
    · simp only [Bool.and_eq_true] at h
      exact e_slice (sE a G tk h.1.1) (sO lo G tk h.1.2) (sO hi G tk h.2)
    · cases h
  | .call f es, X, N, sc, fn, Wx, G, tk, e, h => by
    simp only [cE] at h
    split at h
    · simp only [Bool.and_eq_true, decide_eq_true_eq] at h
      obtain ⟨⟨⟨⟨h1, h2⟩, h3⟩, h4⟩, h5⟩ := h
      subst h1
      exact call_own G tk h2 h3 h4 (sEs es G tk h5) (cEs_nil h5) (cEs_star h5)
    · cases h
  | .bi f es, X, N, sc, fn, Wx, G, tk, e, h => by
    simp only [cE] at h
    split at h
    · rename_i x p args pos
      simp only [Bool.and_eq_true, decide_eq_true_eq] at h
      obtain ⟨⟨⟨⟨h1, h2⟩, h3⟩, h4⟩, h5⟩ := h
      cases args with
      | nil => cases h5
      | cons a0 ar => exact call_bi G h1 h2 h3 (sEs es G tk h4) (cEs_star h4)
    · cases h
  | .bm m o es, X, N, sc, fn, Wx, G, tk, e, h => by
    simp only [cE] at h
    split at h
    · simp only [Bool.and_eq_true, decide_eq_true_eq] at h
      obtain ⟨⟨⟨⟨⟨⟨h1, h2⟩, h3⟩, h4⟩, h5⟩, h6⟩, h7⟩ := h
      exact call_bm h1 h2 h3 h4 h5 (sE o G tk h6) (sEs es G tk h7) (cEs_nil h7) (cEs_star h7)
    · cases h
  | .isi a t, X, N, sc, fn, Wx, G, tk, e, h => by
    simp only [cE] at h
    split at h
    · simp only [Bool.and_eq_true, decide_eq_true_eq, Bool.not_eq_true'] at h
      obtain ⟨⟨⟨⟨⟨⟨h1, h2⟩, h3⟩, h4⟩, h5⟩, h6⟩, h7⟩ := h
      subst h1 h2
      exact call_isi G h3 h4 h5 h6 (sE a G tk h7)
    · cases h
  | .lc elt g it cond, X, N, sc, fn, Wx, G, tk, e, h => by
    simp only [cE] at h
    split at h
    · rename_i el tg iter ifs as scope pos
      simp only [Bool.and_eq_true, decide_eq_true_eq] at h
      obtain ⟨⟨⟨⟨⟨⟨h1, h2⟩, h3⟩, h4⟩, h5⟩, h6⟩, h7⟩ := h
      subst h1
      refine e_lc (W' := EWx X.K X.mg fun _ _ _ _ => False) G.calm G.nd (sI it G tk h5) ?_ (tg_own h4) (fun s H C cl fp => tg_pg (G.blk s H scope cl C fp) h4) (fun s H C cl fp => sC cond (G.blk s H scope cl C fp) takes0 h7) (fun s H C cl fp => sE elt (G.blk s H scope cl C fp) takes0 h6) (folded_no h3)
      rw [G.hN, G.hsc]
      exact blkOk_by h2
    · cases h
  | .rev _, X, N, sc, fn, Wx, G, tk, e, h => by cases h
  | .fld _ _, X, N, sc, fn, Wx, G, tk, e, h => by cases h
  | .mk _ _, X, N, sc, fn, Wx, G, tk, e, h => by cases h
  | .meth _ _ _, X, N, sc, fn, Wx, G, tk, e, h => by cases h
theorem sT {T : Tbl} {c : Ctx} {k : Nat} : ∀ (m : Ex) {X : Cx} {N : List Str} {sc : Scope} {fn : Str → Bool} {Wx : WX} (G : Good T c k X N sc fn) (tk : Takes X Wx) {e : Expr}, cT T N sc fn m e = true → ST X (EWx X.K X.mg Wx) c e m ∧ (boolM m = true → SW X (EWx X.K X.mg Wx) c e m)
  | .and_ a b, X, N, sc, fn, Wx, G, tk, e, h => by
    have w : SW X (EWx X.K X.mg Wx) c e (.and_ a b) := by
      simp only [cT] at h
      split at h
      · simp only [Bool.and_eq_true] at h
        obtain ⟨h1, h2⟩ := h
        split at h2
        · exact w_and (sT a G tk h1).1 (w_and1 (sT b G tk h2).1)
        · split at h2
          · exact w_and (sT a G tk h1).1 ((sT _ G tk h2).2 rfl)
          · cases h2
      · cases h
    exact ⟨w.pt, fun _ => w⟩
  | .or_ a b, X, N, sc, fn, Wx, G, tk, e, h => by
    have w : SW X (EWx X.K X.mg Wx) c e (.or_ a b) := by
      simp only [cT] at h
      split at h
      · simp only [Bool.and_eq_true] at h
        obtain ⟨h1, h2⟩ := h
        split at h2
        · exact w_or (sT a G tk h1).1 (w_or1 (sT b G tk h2).1)
        · split at h2
          · exact w_or (sT a G tk h1).1 ((sT _ G tk h2).2 rfl)
          · cases h2
      · cases h
    exact ⟨w.pt, fun _ => w⟩
  | .not_ a, X, N, sc, fn, Wx, G, tk, e, h => by
    simp only [cT] at h
    split at h
    · exact ⟨t_not (sT a G tk h).1, fun z => nomatch z⟩
    · cases h
  | .cmp o a b, X, N, sc, fn, Wx, G, tk, e, h => by
    simp only [cT] at h
    split at h
    · simp only [Bool.and_eq_true, decide_eq_true_eq] at h
      obtain ⟨⟨⟨h1, h2⟩, h3⟩, h4⟩ := h
      subst h1
      exact ⟨t_cmp (cmp_all G.hu o) (sE a G tk h3) (sE b G tk h4) (marks_no h2), fun z => nomatch z⟩
    · cases h
  | .chain o p a b d, X, N, sc, fn, Wx, G, tk, e, h => by
    simp only [cT] at h
    split at h
    · simp only [Bool.and_eq_true, decide_eq_true_eq] at h
      obtain ⟨⟨⟨⟨⟨h1, h1'⟩, h2⟩, h3⟩, h4⟩, h5⟩ := h
      subst h1 h1'
      exact ⟨t_chain (cmp_all G.hu o) (cmp_all G.hu p) (sE a G tk h3) (sE b G tk h4) (sE d G tk h5) (marks_no h2), fun z => nomatch z⟩
    · cases h
  | .var i, X, N, sc, fn, Wx, G, tk, e, h => by
    simp only [cT] at h
    split at h
    · simp only [Bool.and_eq_true, decide_eq_true_eq] at h
      obtain ⟨⟨h1, h2⟩, h3⟩ := h
      obtain ⟨p1, p2, _⟩ := plain_of h3
      refine ⟨t_truth (e_var (by rw [G.hN]; exact h1) (G.hsc ▸ vis_of h2) p1 p2 c) (fun w => truth_of rfl w) (fun E M => ?_), fun z => nomatch z⟩
      simp only [evT, evE]
      split <;> rfl
    · cases h
  | .call f es, X, N, sc, fn, Wx, G, tk, e, h => by
    simp only [cT] at h
    split at h
    · simp only [Bool.and_eq_true, decide_eq_true_eq] at h
      obtain ⟨⟨⟨⟨h1, h2⟩, h3⟩, h4⟩, h5⟩ := h
      subst h1
      refine ⟨t_truth (call_own G tk h2 h3 h4 (sEs es G tk h5) (cEs_nil h5) (cEs_star h5)) (fun w => truth_of rfl w) (fun E M => ?_), fun z => nomatch z⟩
      simp only [evT, evE, Res.bind_assoc]
    · cases h
  | .bi f es, X, N, sc, fn, Wx, G, tk, e, h => by
    simp only [cT] at h
    split at h
    · rename_i x p args pos
      simp only [Bool.and_eq_true, decide_eq_true_eq] at h
      obtain ⟨⟨⟨⟨h1, h2⟩, h3⟩, h4⟩, h5⟩ := h
      cases args with
      | nil => cases h5
      | cons a0 ar =>
        refine ⟨t_truth (call_bi G h1 h2 h3 (sEs es G tk h4) (cEs_star h4)) (fun w => truth_of rfl w) (fun E M => ?_), fun z => nomatch z⟩
        simp only [evT, evE, Res.bind_assoc]
    · cases h
  | .isi a t, X, N, sc, fn, Wx, G, tk, e, h => by
    simp only [cT] at h
    split at h
    · simp only [Bool.and_eq_true, decide_eq_true_eq, Bool.not_eq_true'] at h
      obtain ⟨⟨⟨⟨⟨⟨h1, h2⟩, h3⟩, h4⟩, h5⟩, h6⟩, h7⟩ := h
      subst h1 h2
      refine ⟨t_truth (call_isi G h3 h4 h5 h6 (sE a G tk h7)) (fun w => truth_of rfl w) (fun E M => ?_), fun z => nomatch z⟩
      simp only [evT, evE, Res.bind_assoc]
      congr 1
      funext x M1
      cases isTy M1 x t <;> rfl
    · cases h
  | .int _, X, N, sc, fn, Wx, G, tk, e, h => by cases h
  | .str _, X, N, sc, fn, Wx, G, tk, e, h => by cases h
  | .bl _, X, N, sc, fn, Wx, G, tk, e, h => by cases h
  | .non, X, N, sc, fn, Wx, G, tk, e, h => by cases h
  | .glo _, X, N, sc, fn, Wx, G, tk, e, h => by cases h
  | .bin _ _ _, X, N, sc, fn, Wx, G, tk, e, h => by cases h
  | .neg _, X, N, sc, fn, Wx, G, tk, e, h => by cases h
  | .ite _ _ _, X, N, sc, fn, Wx, G, tk, e, h => by cases h
  | .tup _, X, N, sc, fn, Wx, G, tk, e, h => by cases h
  | .lst _, X, N, sc, fn, Wx, G, tk, e, h => by cases h
  | .dic _, X, N, sc, fn, Wx, G, tk, e, h => by cases h
  | .idx _ _, X, N, sc, fn, Wx, G, tk, e, h => by cases h
  | .slice _ _ _, X, N, sc, fn, Wx, G, tk, e, h => by cases h
  | .rev _, X, N, sc, fn, Wx, G, tk, e, h => by cases h
  | .fld _ _, X, N, sc, fn, Wx, G, tk, e, h => by cases h
  | .mk _ _, X, N, sc, fn, Wx, G, tk, e, h => by cases h
  | .meth _ _ _, X, N, sc, fn, Wx, G, tk, e, h => by cases h
  | .bm _ _ _, X, N, sc, fn, Wx, G, tk, e, h => by cases h
  | .lc _ _ _ _, X, N, sc, fn, Wx, G, tk, e, h => by cases h
theorem sEs {T : Tbl} {c : Ctx} {k : Nat} : ∀ (ms : Exs) {X : Cx} {N : List Str} {sc : Scope} {fn : Str → Bool} {Wx : WX} (G : Good T c k X N sc fn) (tk : Takes X Wx) {es : List Expr}, cEs T N sc fn ms es = true → SA X (EWx X.K X.mg Wx) c es ms
  | .nil, X, N, sc, fn, Wx, G, tk, es, h => by
    cases es with
    | nil => exact a_nil
    | cons _ _ => simp [cEs] at h
  | .cons m ms, X, N, sc, fn, Wx, G, tk, es, h => by
    cases es with
    | nil => simp [cEs] at h
    | cons e es =>
      simp only [cEs, Bool.and_eq_true, Bool.not_eq_true'] at h
      exact a_cons (sE m G tk h.1.2) (sEs ms G tk h.2) (star_cons h.1.1)
theorem sKV {T : Tbl} {c : Ctx} {k : Nat} : ∀ (ms : Exs) {X : Cx} {N : List Str} {sc : Scope} {fn : Str → Bool} {Wx : WX} (G : Good T c k X N sc fn) (tk : Takes X Wx) {pos : Pos} {ks : List (Option Expr)} {vs : List Expr}, cKV T N sc fn ms ks vs = true →
    PPs X pos ks vs (trsOf X.K X.mg (EWx X.K X.mg Wx) c ms) ∧ evenEs ms = true ∧ ks.all (·.isSome) = true ∧ ks.length = vs.length
  | .nil, X, N, sc, fn, Wx, G, tk, pos, ks, vs, h => by
    cases ks with
    | nil =>
      cases vs with
      | nil => exact ⟨pps_nil, rfl, rfl, rfl⟩
      | cons _ _ => simp [cKV] at h
    | cons _ _ => simp [cKV] at h
  | .cons m .nil, X, N, sc, fn, Wx, G, tk, pos, ks, vs, h => by
    simp only [cKV] at h
    split at h
    · simp [cV] at h
    · cases h
  | .cons m (.cons m2 ms), X, N, sc, fn, Wx, G, tk, pos, ks, vs, h => by
    simp only [cKV] at h
    split at h
    · simp only [cV, Bool.and_eq_true] at h
      obtain ⟨h1, h2, h3⟩ := h
      obtain ⟨q1, q2, q3, q4⟩ := sKV ms G tk (pos := pos) h3
      exact ⟨pps_cons (sE m G tk h1) (sE m2 G tk h2) q1, q2, by simpa using q3, by rw [List.length_cons, List.length_cons, q4]⟩
    · cases h
theorem sO {T : Tbl} {c : Ctx} {k : Nat} : ∀ (m : Ox) {X : Cx} {N : List Str} {sc : Scope} {fn : Str → Bool} {Wx : WX} (G : Good T c k X N sc fn) (tk : Takes X Wx) {e : Option Expr}, cO T N sc fn m e = true → SO X (EWx X.K X.mg Wx) c e m
  | .none, X, N, sc, fn, Wx, G, tk, e, h => by
    cases e with
    | none => exact o_none
    | some _ => simp [cO] at h
  | .some m, X, N, sc, fn, Wx, G, tk, e, h => by
    cases e with
    | none => simp [cO] at h
    | some e => simp only [cO] at h; exact o_some (sE m G tk h)
theorem sC {T : Tbl} {c : Ctx} {k : Nat} : ∀ (m : Ox) {X : Cx} {N : List Str} {sc : Scope} {fn : Str → Bool} {Wx : WX} (G : Good T c k X N sc fn) (tk : Takes X Wx) {es : List Expr}, cC T N sc fn m es = true → PTs X es (tT X.K X.mg (EWx X.K X.mg Wx) (evC c m))
  | .none, X, N, sc, fn, Wx, G, tk, es, h => by
    cases es with
    | nil => exact ⟨fun pins s σ H Q I ⟨ρ, E, M, er, sr, q⟩ => pts_nil.run pins s σ H Q I (post_ok q sr)⟩
    | cons _ _ => simp [cC] at h
  | .some m, X, N, sc, fn, Wx, G, tk, es, h => by
    simp only [cC] at h
    split at h
    · exact pts_one (sT m G tk h).1
    · cases h
theorem sI {T : Tbl} {c : Ctx} {k : Nat} : ∀ (m : Ix) {X : Cx} {N : List Str} {sc : Scope} {fn : Str → Bool} {Wx : WX} (G : Good T c k X N sc fn) (tk : Takes X Wx) {tg e : Expr}, cI T N sc fn m tg e = true → SI X (EWx X.K X.mg Wx) c tg e m
  | .of m, X, N, sc, fn, Wx, G, tk, tg, e, h => by
    simp only [cI] at h
    exact i_of (sE m G tk h)
  | .rng1 a, X, N, sc, fn, Wx, G, tk, tg, e, h => by
    simp only [cI] at h
    split at h
    · simp only [Bool.and_eq_true, decide_eq_true_eq, Bool.not_eq_true'] at h
      obtain ⟨⟨⟨h1, h2⟩, h3⟩, h4⟩ := h
      subst h1
      exact i_rng1 (glob_of G.hsc h2) (G.lk.free _ (by decide)) (sE a G tk h4) (star1 h3)
    · cases h
  | .rng2 a b, X, N, sc, fn, Wx, G, tk, tg, e, h => by
    simp only [cI] at h
    split at h
    · simp only [Bool.and_eq_true, decide_eq_true_eq, Bool.not_eq_true'] at h
      obtain ⟨⟨⟨⟨⟨h1, h2⟩, h3⟩, h3'⟩, h4⟩, h5⟩ := h
      subst h1
      exact i_rng2 (glob_of G.hsc h2) (G.lk.free _ (by decide)) (sE a G tk h4) (sE b G tk h5) (star2 h3 h3') (star1 h3')
    · cases h
  | .enum a, X, N, sc, fn, Wx, G, tk, tg, e, h => by
    simp only [cI] at h
    split at h
    · simp only [Bool.and_eq_true, decide_eq_true_eq, Bool.not_eq_true'] at h
      obtain ⟨⟨⟨⟨h1, h2⟩, h2'⟩, h3⟩, h4⟩ := h
      subst h1
      cases tg <;> first | (cases h2'; done) | skip
      exact i_enum (glob_of G.hsc h2) (G.lk.free _ (by decide)) (sE a G tk h4) (star1 h3)
    · cases h
  | .zip _ _, X, N, sc, fn, Wx, G, tk, tg, e, h => by cases h
end

/-! ### statements -/
theorem ew_flat {K : PySem.W.Frag} {mg : Str → Option Value} {E : XK} : (EWx K mg fun cls d _ H => E cls d H).flat := fun _ _ _ _ _ _ h => h
mutual
theorem sS {T : Tbl} {c : Ctx} {k : Nat} : ∀ (m : S) {X : Cx} {N : List Str} {sc : Scope} {fn : Str → Bool} {E : XK} (G : Good T c k X N sc fn) (tk : Takes X (fun cls d _ H => E cls d H)) (hp : PassesOwn (model X.prog X.w) X.A X.env X.xe) {s : Stmt}, cS T N sc fn m s = true → SS X (EWx X.K X.mg fun cls d _ H => E cls d H) c s m
  | .asg i m, X, N, sc, fn, E, G, tk, hp, s, h => by
    simp only [cS] at h
    split at h
    · rename_i x py e pos
      simp only [Bool.and_eq_true, decide_eq_true_eq] at h
      obtain ⟨⟨⟨h1, h2⟩, h3⟩, h4⟩ := h
      have hN : X.N[i]? = some x := by rw [G.hN]; exact h1
      rcases Bool.or_eq_true_iff.mp h4 with h4 | h4
      · have l : Loc X.env.scope x ∧ (X.fn x = true ∨ X.env.scope.names.lookup x = some .local) := by
          rw [G.hsc, G.hfn]
          unfold locB at h2
          split at h2
          · exact ⟨Or.inl ‹_›, Or.inr ‹_›⟩
          · exact ⟨Or.inr ‹_›, Or.inl h2⟩
          · cases h2
        exact s_asg G.nd hN l.1 (sE m G tk h3) (swap_no h4) l.2
      · split at h4
        · rename_i el gens scope p
          split at h4
          · rename_i hl
            split at h4
            · rename_i hk
              simp only [Bool.and_eq_true, Bool.not_eq_true'] at h4
              cases m <;> first | (simp [cE] at h3; done) | skip
              rename_i elt g it cond
              simp only [cE] at h3
              split at h3
              · rename_i tg iter ifs as scope' pos'  hh
                cases hh
                simp only [Bool.and_eq_true, decide_eq_true_eq] at h3
                obtain ⟨⟨⟨⟨⟨⟨h1', h2'⟩, h3'⟩, h4'⟩, h5'⟩, h6'⟩, h7'⟩ := h3
                subst h1'
                refine s_asgLc (W' := EWx X.K X.mg fun _ _ _ _ => False) G.calm G.nd hN (by rw [G.hsc]; exact hl) ?_ (sI it G tk h5') ?_ (tg_own h4') (fun s H C cl fp => tg_pg (G.blk s H _ cl C fp) h4') (fun s H C cl fp => sC cond (G.blk s H _ cl C fp) takes0 h7') (fun s H C cl fp => sE elt (G.blk s H _ cl C fp) takes0 h6') (folded_no h3')
                · exact sw_true (by rw [G.hsc]; exact hk) (by rw [G.hsc]; exact hl) h4.1 h4.2
                · rw [G.hN, G.hsc]
                  exact blkOk_by h2'
              · cases h3
            · cases h4
          · cases h4
        · cases h4
    · cases h
  | .unp is m, X, N, sc, fn, E, G, tk, hp, s, h => by
    simp only [cS] at h
    split at h
    · simp only [Bool.and_eq_true] at h
      obtain ⟨⟨⟨h1, h2⟩, h3⟩, h4⟩ := h
      have hN := G.hN
      subst hN
      exact s_unp (sE m G tk h4) (pg_tgt G.calm G.nd G.hsc G.hfn h1) (sole_no h3) (stores_no h2) rfl
    · cases h
  | .seti o i m, X, N, sc, fn, E, G, tk, hp, s, h => by
    simp only [cS] at h
    split at h
    · simp only [Bool.and_eq_true] at h
      obtain ⟨⟨⟨⟨h1, h2⟩, h3⟩, h4⟩, h5⟩ := h
      exact s_seti G.hu (sE m G tk h5) (sE o G tk h3) (sE i G tk h4) (fun v => asg_sub h1 v) (sole_no h2) stores_sub rfl
    · cases h
  | .nev, X, N, sc, fn, E, G, tk, hp, s, h => ps_imp ps_never fun D σ H ⟨_, _, _, _, _, h⟩ => h
  | .ex m, X, N, sc, fn, E, G, tk, hp, s, h => by
    simp only [cS] at h
    split at h
    · simp only [Bool.and_eq_true] at h
      exact s_ex (sE m G tk h.2) (swap_no h.1)
    · cases h
  | .ret m, X, N, sc, fn, E, G, tk, hp, s, h => by
    simp only [cS] at h
    split at h
    · exact s_ret (sE m G tk h)
    · cases h
  | .retN, X, N, sc, fn, E, G, tk, hp, s, h => by
    simp only [cS] at h
    split at h
    · exact s_retN
    · cases h
  | .pass, X, N, sc, fn, E, G, tk, hp, s, h => by
    simp only [cS] at h
    split at h
    · exact s_pass
    · cases h
  | .brk, X, N, sc, fn, E, G, tk, hp, s, h => by
    simp only [cS] at h
    split at h
    · exact s_brk
    · cases h
  | .cont, X, N, sc, fn, E, G, tk, hp, s, h => by
    simp only [cS] at h
    split at h
    · exact s_cont
    · cases h
  | .ifs t a b, X, N, sc, fn, E, G, tk, hp, s, h => by
    simp only [cS] at h
    split at h
    · simp only [Bool.and_eq_true] at h
      exact s_ifs (sT t G tk h.1.1).1 (sSs a G tk hp h.1.2) (sSs b G tk hp h.2)
    · cases h
  | .whl t b, X, N, sc, fn, E, G, tk, hp, s, h => by
    simp only [cS] at h
    split at h
    · simp only [Bool.and_eq_true] at h
      exact s_whl ew_flat hp (sT t G tk h.1).1 (sSs b G tk hp h.2)
    · cases h
  | .for_ g it b, X, N, sc, fn, E, G, tk, hp, s, h => by
    simp only [cS] at h
    split at h
    · simp only [Bool.and_eq_true] at h
      obtain ⟨⟨⟨h1, h2⟩, h3⟩, h4⟩ := h
      exact s_for ew_flat hp G.calm (sI it G tk h3) (tg_pg G h1) (sSs b G tk hp h4) (folded_no h2)
    · cases h
  | .setf _ _ _, X, N, sc, fn, E, G, tk, hp, s, h => by cases h
theorem sSs {T : Tbl} {c : Ctx} {k : Nat} : ∀ (m : Ss) {X : Cx} {N : List Str} {sc : Scope} {fn : Str → Bool} {E : XK} (G : Good T c k X N sc fn) (tk : Takes X (fun cls d _ H => E cls d H)) (hp : PassesOwn (model X.prog X.w) X.A X.env X.xe) {s : List Stmt}, cSs T N sc fn m s = true → SSs X (EWx X.K X.mg fun cls d _ H => E cls d H) c s m
  | .nil, X, N, sc, fn, E, G, tk, hp, s, h => by
    cases s with
    | nil => exact ss_nil
    | cons _ _ => simp [cSs] at h
  | .cons m ms, X, N, sc, fn, E, G, tk, hp, s, h => by
    cases s with
    | nil => simp [cSs] at h
    | cons s ss =>
      simp only [cSs, Bool.and_eq_true] at h
      exact ss_cons ew_flat (sS m G tk hp h.1) (sSs ms G tk hp h.2)
end
end Wn
end
section
/-! So16: the defs of a program keep what the evaluator tells. -/
namespace Wn
open PySem PySem.Spec PyProof.Rows L2
/-! ### how plain parameters bind -/
def argsOf (as : List Arg) : Arguments := { posonlyargs := [], args := as, vararg := none, kwonlyargs := [], kw_defaults := [], kwarg := none, defaults := [] }
theorem zip_some {β : Type} : ∀ (ns : List Str) (us : List β), us.length = ns.length → ∀ n ∈ ns, ((ns.zip us).lookup n).isSome = true
  | [], _, _, n, h => nomatch h
  | m :: ns, [], hl, _, _ => by simp at hl
  | m :: ns, u :: us, hl, n, h => by
    rw [List.zip_cons_cons, List.lookup_cons]
    by_cases e : n = m
    · simp [e]
    · have : (n == m) = false := by simpa using e
      rw [this]
      rcases List.mem_cons.mp h with h | h
      · exact absurd h e
      · exact zip_some ns us (by simpa using hl) n h
theorem zip_back {β : Type} : ∀ (ns : List Str) (us : List β), ns.Nodup → us.length = ns.length → (ns.filterMap fun n => ((ns.zip us).lookup n).map fun v => (n, v)) = ns.zip us
  | [], us, _, _ => by simp
  | m :: ns, [], _, hl => by simp at hl
  | m :: ns, u :: us, nd, hl => by
    obtain ⟨h1, h2⟩ := List.nodup_cons.mp nd
    have ih := zip_back ns us h2 (by simpa using hl)
    have e0 : ((m :: ns).zip (u :: us)).lookup m = some u := by rw [List.zip_cons_cons, List.lookup_cons]; simp
    rw [List.filterMap_cons, e0]
    simp only [Option.map_some]
    rw [List.zip_cons_cons]
    congr 1
    have cg : ∀ (ls : List Str), (∀ n ∈ ls, n ≠ m) → (ls.filterMap fun n => (((m, u) :: ns.zip us).lookup n).map fun v => (n, v)) = ls.filterMap fun n => ((ns.zip us).lookup n).map fun v => (n, v) := by
      intro ls
      induction ls with
      | nil => intro _; rfl
      | cons n ls il =>
        intro hn
        have e : (n == m) = false := by simpa using hn n (by simp)
        rw [List.filterMap_cons, List.filterMap_cons, List.lookup_cons, e, il fun k hk => hn k (by simp [hk])]
    rw [cg ns (fun n hn z => h1 (z ▸ hn))]
    exact ih
theorem bind_gen {x q : Str} {body : List Stmt} {sc : Scope} {kV doc pm : Value} {an : Option Addr} {cdv ct : Value} (as : List Arg) (nd : (as.map (·.arg)).Nodup) (us : List Value) (h : us.length = as.length) :
    bindArgs (PySem.W.fnOf x q (argsOf as) body sc .none kV doc pm an cdv ct) ⟨us, []⟩ = pure ((as.map (·.arg)).zip us) := by
  have key : ∀ n, (((as.map (·.arg)).take n).filter fun m => (((as.map (·.arg)).zip us).lookup m).isNone) = [] := by
    intro n
    rw [List.filter_eq_nil_iff]
    intro m hm
    have := zip_some (as.map (·.arg)) us (by simpa using h) m (List.mem_of_mem_take hm)
    rw [Option.isNone_iff_eq_none]
    intro z; rw [z] at this; cases this
  unfold bindArgs
  simp only [PySem.W.fnOf, argsOf, List.map_nil, List.nil_append, List.forIn_nil, pure_bind, seqItems?]
  have n0 : notAStandIn Value.none = pure () := rfl
  have c0 : (decide (us.length > (as.map (·.arg)).length) && (none : Option Arg).isNone) = false := by
    rw [List.length_map, decide_eq_false (by omega)]; rfl
  simp only [n0, pure_bind, Option.getD_none, c0, key]
  have zb := zip_back (as.map (·.arg)) us nd (by simpa using h)
  simp only [List.isEmpty_nil, Bool.not_true, Bool.false_eq_true, if_false, List.drop_nil, List.length_nil, Nat.sub_zero, List.drop_length, List.zip_nil_right, List.forIn_nil, pure_bind, List.append_nil, List.nil_append]
  rw [zb]

/-! ### one def -/
/-- a def of the text and its term -/
structure Df where
  name : Str
  d : Fn
  st : Stmt
def argsPlain (a : Arguments) (ps : List Str) : Bool := a.posonlyargs.isEmpty && decide (a.args.map (·.arg) = ps) && a.vararg.isNone && a.kwonlyargs.isEmpty && a.kw_defaults.isEmpty && a.kwarg.isNone && a.defaults.isEmpty
theorem args_plain {a : Arguments} {ps : List Str} (h : argsPlain a ps = true) : a = argsOf a.args ∧ a.args.map (·.arg) = ps := by
  simp only [argsPlain, Bool.and_eq_true, decide_eq_true_eq, List.isEmpty_iff, Option.isNone_iff_eq_none] at h
  obtain ⟨⟨⟨⟨⟨⟨h1, h2⟩, h3⟩, h4⟩, h5⟩, h6⟩, h7⟩ := h
  refine ⟨?_, h2⟩
  cases a
  simp only at h1 h3 h4 h5 h6 h7
  subst h1 h3 h4 h5 h6 h7
  rfl
def scopeB (N ps : List Str) (sc : Scope) : Bool := decide (sc.kind = .function) && !sc.isCoroutine && !sc.isGenerator && decide N.Nodup && decide (N.take ps.length = ps) && (ps.all fun x => match sc.names.lookup x with
  | some .local => true
  | some .cell => true
  | _ => false) && (sc.names.all fun y => match y.2 with
  | .free => false
  | _ => true)
theorem scope_ok {N ps : List Str} {sc : Scope} (h : scopeB N ps sc = true) : FnScope N ps sc := by
  simp only [scopeB, Bool.and_eq_true, decide_eq_true_eq, Bool.not_eq_true', List.all_eq_true] at h
  obtain ⟨⟨⟨⟨⟨⟨h1, h2⟩, h3⟩, h4⟩, h5⟩, h6⟩, h7⟩ := h
  refine ⟨h1, h2, h3, h4, h5, fun x hx => ?_, fun y hy z => ?_⟩
  · have := h6 x hx
    split at this
    · exact Or.inl ‹_›
    · exact Or.inr ‹_›
    · cases this
  · have := h7 y hy
    rw [z] at this
    cases this
def Df.ps (a : Df) : List Str := a.d.names.take a.d.np
def Df.ok (T : Tbl) (a : Df) : Bool := scopeB a.d.names a.ps (defScope a.st) && argsPlain (defArgs a.st) a.ps && decide (a.d.np ≤ a.d.names.length) && cSs T a.d.names (defScope a.st) (fun _ => true) a.d.body (defBody a.st)

section
variable {P : Program} {w : World} {K : PySem.W.Frag} {mg : Str → Option Value} {base : Heap} {T : Tbl} {wf : Nat}
theorem no_fn {r : List PV → Store → Res PV} (h : ∀ a M, r a M = .bad) {CX : CXT} {k : Nat} {f : Addr} {fd : FuncData} {ps : List Str} : FnOk P w K mg base CX k f fd ps (spF K mg r) := by
  have no : ∀ vs H Q E, ¬ spF K mg r vs H Q E := fun vs H Q E ⟨_, _, _, _, _, q⟩ => by rw [h] at q; exact q
  exact ⟨fun vs H Q E q => absurd q (no vs H Q E), fun _ _ _ _ _ _ _ _ _ _ _ _ _ q => absurd q (no _ _ _ _)⟩
theorem start_er {H : Hp} {ρ : List Addr} {args : List PV} {vs : List V} (N : List Str) (r : RPs K H ρ args vs) : ER K H ρ (args.map some ++ List.replicate (N.length - args.length) none) (L2.start N vs) := by
  have hl := r.length
  refine ⟨by simp [L2.start, hl], fun i p e => ?_⟩
  by_cases hi : i < args.length
  · rw [List.getElem?_append_left (by simpa using hi), List.getElem?_map] at e
    simp only [Option.map_eq_some_iff] at e
    obtain ⟨q, h1, h2⟩ := e
    cases h2
    obtain ⟨v, h3, h4⟩ := r.get h1
    refine ⟨v, ?_, h4⟩
    unfold L2.start
    rw [List.getElem?_append_left (by simp; omega), List.getElem?_map, h3]; rfl
  · rw [List.getElem?_append_right (by simp; omega)] at e
    have := List.mem_of_getElem? e
    simp at this
theorem one_fn {k : Nat} {a : Df} {fa : Addr} {fd : FuncData} (hT : T.fn.lookup a.name = some a.d) (ok : a.ok T = true) (F : FunD K a.name a.name (defArgs a.st) (defBody a.st) (defScope a.st) [] [] fa fd)
    (lk : Link P w K mg base T (ctx T wf k) k) : FnOk P w K mg base (L2.CX P w) (k + 1) fa fd a.ps (spF K mg ((ctx T wf (k + 1)).call a.name)) := by
  simp only [Df.ok, Bool.and_eq_true, decide_eq_true_eq] at ok
  obtain ⟨⟨⟨o1, o2⟩, o3⟩, o4⟩ := ok
  have call : ∀ args M, (ctx T wf (k + 1)).call a.name args M = runFn (ctx T wf k) a.d args M := fun args M => by
    show (match T.fn.lookup a.name with
      | some fn => runFn (ctx T wf k) fn args M
      | none => .bad) = _
    rw [hT]
  refine F.ok (scope_ok o1) (fun vs H Q E h => ?_) (fun cdv A outer s H vs Q E hr h => ?_)
  · obtain ⟨ρ, args, M, sr, rs, h⟩ := h
    rw [call] at h
    unfold runFn at h
    split at h
    · rename_i hl
      rw [← rs.length, hl]
      unfold Df.ps
      rw [List.length_take]; omega
    · exact h.elim
  · refine ⟨_, sSs (T := T) (c := ctx T wf k) (k := k) (E := E) a.d.body (N := a.d.names) (sc := defScope a.st) (fn := fun _ => true) ⟨rfl, (scope_ok o1).nd, rfl, rfl, rfl, hr, lk⟩ (takes_of rfl rfl rfl rfl) (passes_of rfl) o4, ?_⟩
    obtain ⟨ρ, args, M, sr, rs, h⟩ := h
    rw [call] at h
    unfold runFn at h
    split at h
    · refine ⟨ρ, _, M, start_er a.d.names rs, sr, post_imp (post_bind (post_slot ew_flat h)) fun ρ1 H1 fl M1 e1 s1 h1 => ?_⟩
      cases fl with
      | nx E1 => exact fun σ' _ => post_ok (show post K mg _ _ H1 ρ1 (.ok .non M1) (gE K Q) from h1) s1 _ .non
      | bk E1 => exact h1.elim
      | ct E1 => exact h1.elim
      | rt v => exact fun u ru => post_ok (show post K mg _ _ H1 ρ1 (.ok v M1) (gE K Q) from h1) s1 u ru
    · exact h.elim
/-! ### all of them -/
/-- what the head tells -/
structure Told (K : PySem.W.Frag) (mg : Str → Option Value) (T : Tbl) (ds : List Df) : Prop where
  fn : ∀ f d, T.fn.lookup f = some d → ∃ a ∈ ds, a.name = f ∧ a.d = d
  at_ : ∀ a ∈ ds, T.fn.lookup a.name = some a.d ∧ a.ok T = true ∧ ∃ fa fd, mg a.name = some (.ref fa) ∧ FunD K a.name a.name (defArgs a.st) (defBody a.st) (defScope a.st) [] [] fa fd
  glo : ∀ x p, T.glo.lookup x = some p → ∃ u v, mg x = some u ∧ RelV v u ∧ ∀ H ρ, RP K H ρ p v
  free : ∀ x ∈ biNames, mg x = none
theorem binds_of {a : Df} {fa : Addr} {fd : FuncData} (ok : a.ok T = true) (F : FunD K a.name a.name (defArgs a.st) (defBody a.st) (defScope a.st) [] [] fa fd) : (∀ (s : Shared) (us : List Value), us.length = a.ps.length → BindsTo s fd ⟨us, []⟩ (a.ps.zip us)) ∧ Binds K fd a.ps [] := by
  simp only [Df.ok, Bool.and_eq_true, decide_eq_true_eq] at ok
  obtain ⟨⟨⟨o1, o2⟩, o3⟩, o4⟩ := ok
  obtain ⟨e1, e2⟩ := args_plain o2
  have nd : ((defArgs a.st).args.map (·.arg)).Nodup := by
    rw [e2]
    exact (scope_ok o1).nd.sublist (List.take_sublist _ _)
  have b : ∀ (kV doc pm : Value) (an : Option Addr) (cdv ct : Value) (us : List Value), us.length = a.ps.length → bindArgs (PySem.W.fnOf a.name a.name (defArgs a.st) (defBody a.st) (defScope a.st) .none kV doc pm an cdv ct) ⟨us, []⟩ = pure (a.ps.zip us) := by
    intro kV doc pm an cdv ct us hl
    rw [e1, bind_gen _ nd us (by rw [hl, ← e2, List.length_map]), e2]
  exact ⟨fun s us hl => FunD.bindsA F b s us hl, F.bindsN b⟩
theorem links {ds : List Df} (t : Told K mg T ds) : ∀ k, Link P w K mg base T (ctx T wf k) k
  | 0 => ⟨fun f d h => by
      obtain ⟨a, ha, rfl, rfl⟩ := t.fn f d h
      obtain ⟨h1, h2, fa, fd, h3, F⟩ := t.at_ a ha
      exact ⟨fa, fd, h3, F.kp, (binds_of h2 F).2, no_fn fun _ _ => rfl⟩, t.glo, t.free⟩
  | k + 1 => ⟨fun f d h => by
      obtain ⟨a, ha, rfl, rfl⟩ := t.fn f d h
      obtain ⟨h1, h2, fa, fd, h3, F⟩ := t.at_ a ha
      exact ⟨fa, fd, h3, F.kp, (binds_of h2 F).2, one_fn h1 h2 F (links t k)⟩, t.glo, t.free⟩
end
end Wn
end
section
/-! So17: what the head must tell, and the end of a law. -/
namespace Wn
open PySem PySem.Spec PyProof.Rows L2
/-! ### constants of the module -/
mutual
def pvB (K : PySem.W.Frag) : PV → Value → Bool
  | .non, u => (match u with
    | .none => true
    | _ => false)
  | .bl b, u => (match u with
    | .bool d => b == d
    | _ => false)
  | .int i, u => (match u with
    | .int j _ => decide (i = j)
    | _ => false)
  | .str x, u => (match u with
    | .str y _ => decide (x = y)
    | _ => false)
  | .tup xs, u => (match u with
    | .ref a => (match K.lookup a with
      | some o => (match o.data with
        | .seq its _ => decide (o.cls = .type "tuple") && decide (its.size ≤ sizeLine) && pvBs K xs its.toList
        | _ => false)
      | none => false)
    | _ => false)
  | .loc _, _ => false
  | .fl _, _ => false
def pvBs (K : PySem.W.Frag) : List PV → List Value → Bool
  | [], us => us.isEmpty
  | x :: xs, us => (match us with
    | u :: r => pvB K x u && pvBs K xs r
    | [] => false)
end
mutual
theorem pvB_ok {K : PySem.W.Frag} : ∀ {p : PV} {u : Value}, pvB K p u = true → ∃ v, RelV v u ∧ ∀ H ρ, RP K H ρ p v
  | .non, u, h => by
    simp only [pvB] at h
    split at h
    · exact ⟨.non, rfl, fun _ _ => .non⟩
    · cases h
  | .bl b, u, h => by
    simp only [pvB] at h
    split at h
    · cases eq_of_beq h; exact ⟨.bl b, rfl, fun _ _ => .bl b⟩
    · cases h
  | .int i, u, h => by
    simp only [pvB] at h
    split at h
    · cases of_decide_eq_true h; exact ⟨.int i, ⟨_, rfl⟩, fun _ _ => .int i⟩
    · cases h
  | .str i, u, h => by
    simp only [pvB] at h
    split at h
    · cases of_decide_eq_true h; exact ⟨.str i, ⟨_, rfl⟩, fun _ _ => .str i⟩
    · cases h
  | .tup xs, u, h => by
    simp only [pvB] at h
    split at h
    · rename_i a
      split at h
      · rename_i o ho
        split at h
        · rename_i its n hd
          simp only [Bool.and_eq_true, decide_eq_true_eq] at h
          obtain ⟨⟨h1, h2⟩, h3⟩ := h
          obtain ⟨vs, q1, q2⟩ := pvBs_ok h3
          exact ⟨.ref a, rfl, fun H ρ => .tup (Or.inr ⟨o, its, n, ho, h1, hd, h2, q1⟩) (q2 H ρ)⟩
        · cases h
      · cases h
    · cases h
  | .loc _, _, h => by cases h
  | .fl _, _, h => by cases h
theorem pvBs_ok {K : PySem.W.Frag} : ∀ {ps : List PV} {us : List Value}, pvBs K ps us = true → ∃ vs, Vals vs us ∧ ∀ H ρ, RPs K H ρ ps vs
  | [], us, h => by
    cases us with
    | nil => exact ⟨[], .nil, fun _ _ => .nil⟩
    | cons _ _ => simp [pvBs] at h
  | p :: ps, us, h => by
    cases us with
    | nil => simp [pvBs] at h
    | cons u us =>
      simp only [pvBs, Bool.and_eq_true] at h
      obtain ⟨v, q1, q2⟩ := pvB_ok h.1
      obtain ⟨vs, q3, q4⟩ := pvBs_ok h.2
      exact ⟨v :: vs, .cons q1 q3, fun H ρ => .cons (q2 H ρ) (q4 H ρ)⟩
end
def constB (K : PySem.W.Frag) (c : Str × PV) : Bool := match PySem.W.nsIn K mainGlobals c.1 with
  | some (some u) => pvB K c.2 u
  | _ => false

/-! ### the hook -/
def dOf (a : Df) : He.DefD := ⟨(a.name, none), a.name, a.name, defArgs a.st, defBody a.st, defScope a.st, [], []⟩
abbrev AlW : Type := Bool × List He.FnW
def obsW (ds : List Df) (cs : List (Str × PV)) (K : PySem.W.Frag) : AlW :=
  ((ds.all fun a => (He.Fa.glo a.name).ok K && (dOf a).ok K) && (biNames.all fun x => (He.Fa.free x).ok K) && cs.all (constB K), ds.map fun a => He.fnW K (dOf a).at_)
def valW (ds : List Df) : AlW := (true, ds.map fun a => (dOf a).val)
def SaysW (ds : List Df) (cs : List (Str × PV)) (K : PySem.W.Frag) : Prop := obsW ds cs K = valW ds
def obsWG (n : Nat) (ds : List Df) (cs : List (Str × PV)) (g : Addr → Option Obj) : AlW := obsW ds cs (He.frG g (He.asD g n))
def hookW (n : Nat) (ds : List Df) (cs : List (Str × PV)) : PySem.W.Hook where
  α := AlW
  obs := fun s => obsWG n ds cs s.heap.get?
  val := fun _ => valW ds
  says := fun _ h => ∃ K : PySem.W.Frag, K.In h ∧ SaysW ds cs K
  of := fun _ _ e => ⟨_, He.frG_in, e⟩
  keeps := fun _ _ _ ⟨K, hK, q⟩ k => ⟨K, PySem.W.Frag.In.keeps hK k, q⟩
theorem obsWG_eq {n : Nat} {ds : List Df} {cs : List (Str × PV)} {g : Addr → Option Obj} {s : Shared} (h : ∀ a, g a = s.heap.get? a) : obsWG n ds cs g = (hookW n ds cs).obs s := by
  have e : g = s.heap.get? := funext h
  rw [e]; rfl
/-- the table and the text's defs are one -/
def tblB (T : Tbl) (ds : List Df) : Bool := decide (T.fn.map (·.1) = ds.map (·.name)) && decide ((T.fn.map (·.1)).Nodup) && ds.all (fun a => a.ok T)
theorem lookup_mem {α : Type} : ∀ {l : List (Str × α)} {f : Str} {d : α}, l.lookup f = some d → (f, d) ∈ l
  | [], _, _, h => by cases h
  | (g, e) :: l, f, d, h => by
    rw [List.lookup_cons] at h
    by_cases q : f = g
    · subst q; simp at h; subst h; exact List.mem_cons_self
    · have : (f == g) = false := by simpa using q
      rw [this] at h
      exact List.mem_cons_of_mem _ (lookup_mem h)
theorem SaysW.told {ds : List Df} {cs : List (Str × PV)} {K : PySem.W.Frag} {h : Heap} {mg : Str → Option Value} (X : K.In h) (G : h.Ns mainGlobals mg) (c : SaysW ds cs K) {T : Tbl} (hf : T.fn = ds.map fun a => (a.name, a.d)) (hg : T.glo = cs) (nd : (ds.map (·.name)).Nodup) (ok : ds.all (fun a => a.ok T) = true) : Told K mg T ds := by
  unfold SaysW obsW valW at c
  injection c with c1 c2
  simp only [Bool.and_eq_true, List.all_eq_true] at c1
  obtain ⟨⟨c3, c4⟩, c5⟩ := c1
  have look : ∀ {l : List Df}, (l.map (·.name)).Nodup → ∀ a ∈ l, (l.map fun a => (a.name, a.d)).lookup a.name = some a.d := by
    intro l
    induction l with
    | nil => intro _ a ha; cases ha
    | cons b l ih =>
      intro nd a ha
      rw [List.map_cons] at nd
      obtain ⟨n1, n2⟩ := List.nodup_cons.mp nd
      rw [List.map_cons, List.lookup_cons]
      rcases List.mem_cons.mp ha with rfl | ha
      · simp
      · have : (a.name == b.name) = false := by
          simp
          intro z
          exact n1 (by rw [← z]; exact List.mem_map_of_mem ha)
        rw [this]
        exact ih n2 a ha
  refine ⟨fun f d q => ?_, fun a ha => ⟨?_, List.all_eq_true.mp ok a ha, ?_⟩, fun x p q => ?_, fun x hx => He.free_ok X G (c4 x hx)⟩
  · have := lookup_mem q
    rw [hf, List.mem_map] at this
    obtain ⟨a, ha, e⟩ := this
    cases e
    exact ⟨a, ha, rfl, rfl⟩
  · rw [hf]; exact look nd a ha
  · obtain ⟨d1, d2⟩ := c3 a ha
    have d3 : He.fnW K (dOf a).at_ = (dOf a).val := by
      have : ∀ {l : List Df}, (l.map fun a => He.fnW K (dOf a).at_) = (l.map fun a => (dOf a).val) → ∀ a ∈ l, He.fnW K (dOf a).at_ = (dOf a).val := by
        intro l
        induction l with
        | nil => intro _ a ha; cases ha
        | cons b l ih =>
          intro e a ha
          rw [List.map_cons, List.map_cons] at e
          injection e with e1 e2
          rcases List.mem_cons.mp ha with rfl | ha
          · exact e1
          · exact ih e2 a ha
      exact this c2 a ha
    obtain ⟨fd, F⟩ := He.DefD.funD d3 d2
    exact ⟨He.fAd K (dOf a).at_, fd, He.glo_ok X G d1, F⟩
  · rw [hg] at q
    have := c5 (x, p) (lookup_mem q)
    unfold constB at this
    split at this
    · rename_i u hu
      obtain ⟨v, q1, q2⟩ := pvB_ok this
      exact ⟨u, v, PySem.W.mg_of X G hu, q1, q2⟩
    · cases this
/-! ### the end of a law -/
abbrev Slim (ns : List Int) : Prop := ∀ z ∈ ns, Builtin.Int.intBits z ≤ 1048576
theorem law_sp {K : PySem.W.Frag} {mg : Str → Option Value} {r : List PV → Store → Res PV} {n : Nat} (hr : ∀ ns : List Int, ns.length ≤ n → Slim ns → ∃ M', r [.fl ns] [] = .ok (.bl true) M') (H : Hp) (a : Addr) (ns : List Int) (hl : ns.length ≤ n) (hb : Slim ns) (hO : Only H) (hS : SqL K H a (ns.map V.int)) :
    spF K mg r [.ref a] H (fun v _ => v = .bl true) fun _ _ _ => False := by
  obtain ⟨M', e⟩ := hr ns hl hb
  have st : Still K H a (ns.map V.int) := by
    rcases hS with (h | ⟨o, h⟩) | h
    · rcases hO a with q | ⟨o, xs, q⟩
      · rw [q] at h; cases h
      · rw [q] at h; cases h
    · exact Or.inl ⟨o, h⟩
    · exact Or.inr fun H' => Or.inr h
  refine ⟨[], [.fl ns], [], ⟨rfl, List.nodup_nil, fun n a o h => by simp at h⟩, .cons (.fl st) .nil, ?_⟩
  rw [e]
  intro ρ' H' _ _ v rv
  cases rv
  rfl
theorem law_end {l : PySem.W.OpenLaw} {w : World} {K : PySem.W.Frag} {mg : Str → Option Value} {h : Heap} {f : Addr} {ds : List Df} {cs : List (Str × PV)} {T : Tbl} {wf k : Nat} {a : Df} {x : Str} (X : K.In h) (G : h.Ns mainGlobals mg) (hfa : mg ("law" : Str) = some (.ref f)) (c : SaysW ds cs K)
    (hf : T.fn = ds.map fun a => (a.name, a.d)) (hg : T.glo = cs) (nd : (ds.map (·.name)).Nodup) (ok : ds.all (fun a => a.ok T) = true) (ha : a ∈ ds) (hn : a.name = ("law" : Str)) (hp : a.ps = [x]) :
    ∃ fd : FuncData, (∀ (s : Shared) (v : Value), BindsTo s fd ⟨[v], []⟩ [(x, v)]) ∧ ∀ base : Heap, K.In base → base.Ns mainGlobals mg → FnOk l.prog w K mg base (L2.CX l.prog w) (k + 1) f fd [x] (spF K mg (calls T wf (k + 1) "law")) := by
  have t := c.told X G hf hg nd ok
  obtain ⟨h1, h2, fa, fd, h3, F⟩ := t.at_ a ha
  rw [hn] at h3
  have e := hfa.symm.trans h3
  cases e
  have b := (binds_of h2 F).1
  rw [hp] at b
  refine ⟨fd, fun s v => b s [v] rfl, fun base _ _ => ?_⟩
  have q := one_fn (P := l.prog) (w := w) (mg := mg) (base := base) (wf := wf) (k := k) h1 h2 F (links t k)
  rw [hp, hn] at q
  exact q
/-- the walk of a law, from its def's promise -/
theorem walk_end {l : PySem.W.OpenLaw} {most k : Nat} {q : Program} {loose : List Str} {XP : (Str → Option Value) → Heap → Prop} {YP : World → Heap → Prop} {d : DefRec} {cx : World → CXT} {x : Str} (hm : l.most = some most) (hz : most ≤ sizeLine) (hd : d.params.defaults = []) (room : Room k callerA)
    (told : ∀ (w : World) (mg : Str → Option Value) (fa : Addr) (h : Heap), YP w h → h.Ns mainGlobals mg → mg d.name = some (.ref fa) → ∃ (K : PySem.W.Frag) (fd : FuncData) (sp : Sp), K.In h ∧ (∀ (s : Shared) (u : Value), BindsTo s fd ⟨[u], []⟩ [(x, u)]) ∧
      (∀ (H : Hp) (a : Addr) (ns : List Int), ns.length ≤ most → Slim ns → Only H → SqL K H a (ns.map V.int) → sp [.ref a] H (fun v _ => v = .bl true) fun _ _ _ => False) ∧ ∀ base : Heap, K.In base → base.Ns mainGlobals mg → FnOk l.prog w K mg base (cx w) k fa fd [x] sp)
    (none_out : ∀ (w : World) (H : Hp) (s : Shared) (e : Value) (s' : Shared), cx w [] H s (fun _ _ _ => False) e s' → False) : PySem.W.WalkO q loose XP YP l.row.toRowW d [] (fun f vs => PySem.call f vs) := by
  refine Att.attach_callB hm hd fun w _ st mg _ fa _ _ _ _ a _ ns Gr Yh _ _ _ atF isL areI len bits gens0 => ?_
  obtain ⟨K, fd, sp, inK, bind, keeps, fine⟩ := told w mg fa _ Yh Gr.T.g atF
  exact law_call inK Gr.T.g Gr.T.b Gr.T.builtins Gr.T.nolimit gens0 isL areI (Nat.le_trans len hz) room fine bind (fun H o h => keeps H a ns len bits o h) fun H e s' => none_out w H st e s'
theorem noCX {P : Program} {w : World} (H : Hp) (s : Shared) (e : Value) (s' : Shared) (h : L2.CX P w [] H s (fun _ _ _ => False) e s') : False := by
  obtain ⟨_, _, _, _, _, _, _, _, _, _, _, _, q⟩ := h
  exact q
end Wn
end
section
/-! G0: how plain programs are walked: rules for simp, loops, what stays in the store. -/
namespace Wn
open PySem

@[simp] theorem ofString_inj (a b : String) : (Str.ofString a = Str.ofString b) = (a = b) := by
  refine propext ⟨fun h => ?_, fun h => by rw [h]⟩
  rw [Str.ofString_eq_toList, Str.ofString_eq_toList] at h
  have h1 : (a.toList.map Char.toNat).toArray = (b.toList.map Char.toNat).toArray := congrArg Str.cps h
  have h2 : a.toList.map Char.toNat = b.toList.map Char.toNat := by simpa using h1
  have h3 : a.toList = b.toList := by
    refine List.map_inj_right (fun x y e => ?_) |>.1 h2
    exact Char.ext (UInt32.toNat_inj.1 e)
  exact String.toList_inj.1 h3
@[simp] theorem ofString_beq (a b : String) : (Str.ofString a == Str.ofString b) = (a == b) := by
  rw [Bool.eq_iff_iff]; simp only [beq_iff_eq, ofString_inj]

/-! the evaluator's equations, printed by mkev.py -/
@[simp] theorem evE_var (c : Ctx) (i : Nat) (E : Env) (M : Store) : evE c (.var i : Ex) E M = match E[i]? with
    | some (some v) => .ok v M
    | _ => .bad := id rfl
@[simp] theorem evE_int (c : Ctx) (i : Int) (E : Env) (M : Store) : evE c (.int i : Ex) E M = .ok (.int i) M := id rfl
@[simp] theorem evE_str (c : Ctx) (x : Str) (E : Env) (M : Store) : evE c (.str x : Ex) E M = .ok (.str x) M := id rfl
@[simp] theorem evE_bl (c : Ctx) (b : Bool) (E : Env) (M : Store) : evE c (.bl b : Ex) E M = .ok (.bl b) M := id rfl
@[simp] theorem evE_non (c : Ctx)  (E : Env) (M : Store) : evE c (.non : Ex) E M = .ok .non M := id rfl
@[simp] theorem evE_glo (c : Ctx) (x : Str) (E : Env) (M : Store) : evE c (.glo x : Ex) E M = match c.glo x with
    | some v => .ok v M
    | none => .bad := id rfl
@[simp] theorem evE_bin (c : Ctx) (op : BOp) (a b : Ex) (E : Env) (M : Store) : evE c (.bin op a b : Ex) E M = (evE c a E M).bind fun x M1 => (evE c b E M1).bind fun y M2 => doBin M2 op x y := id rfl
@[simp] theorem evE_neg (c : Ctx) (a : Ex) (E : Env) (M : Store) : evE c (.neg a : Ex) E M = (evE c a E M).bind fun x M1 => match x with
    | .int i => .ok (.int (-i)) M1
    | _ => .bad := id rfl
@[simp] theorem evE_cmp (c : Ctx) (op : COp) (a b : Ex) (E : Env) (M : Store) : evE c (.cmp op a b : Ex) E M = (evE c a E M).bind fun x M1 => (evE c b E M1).bind fun y M2 => liftB M2 (doCmp M2 op x y) := id rfl
@[simp] theorem evE_chain (c : Ctx) (o p : COp) (a b d : Ex) (E : Env) (M : Store) : evE c (.chain o p a b d : Ex) E M = (evE c a E M).bind fun x M1 => (evE c b E M1).bind fun y M2 => (lift M2 (doCmp M2 o x y)).bind fun k M3 =>
      if k = true then (evE c d E M3).bind fun z M4 => liftB M4 (doCmp M4 p y z) else .ok (.bl false) M3 := id rfl
@[simp] theorem evE_and_ (c : Ctx) (a b : Ex) (E : Env) (M : Store) : evE c (.and_ a b : Ex) E M = (evE c a E M).bind fun x M1 => match x with
    | .bl true => evE c b E M1
    | .bl false => .ok (.bl false) M1
    | _ => .bad := id rfl
@[simp] theorem evE_or_ (c : Ctx) (a b : Ex) (E : Env) (M : Store) : evE c (.or_ a b : Ex) E M = (evE c a E M).bind fun x M1 => match x with
    | .bl true => .ok (.bl true) M1
    | .bl false => evE c b E M1
    | _ => .bad := id rfl
@[simp] theorem evE_not_ (c : Ctx) (a : Ex) (E : Env) (M : Store) : evE c (.not_ a : Ex) E M = (evE c a E M).bind fun x M1 => match x with
    | .bl b => .ok (.bl (!b)) M1
    | _ => .bad := id rfl
@[simp] theorem evE_ite (c : Ctx) (t a b : Ex) (E : Env) (M : Store) : evE c (.ite t a b : Ex) E M = (evT c t E M).bind fun k M1 => if k = true then evE c a E M1 else evE c b E M1 := id rfl
@[simp] theorem evE_tup (c : Ctx) (es : Exs) (E : Env) (M : Store) : evE c (.tup es : Ex) E M = (evEs c es E M).bind fun xs M1 => if xs.length ≤ big then .ok (.tup xs) M1 else .bad := id rfl
@[simp] theorem evE_lst (c : Ctx) (es : Exs) (E : Env) (M : Store) : evE c (.lst es : Ex) E M = (evEs c es E M).bind fun xs M1 => if xs.length ≤ big then .ok (.loc M1.length) (M1 ++ [.lst xs]) else .bad := id rfl
@[simp] theorem evE_dic (c : Ctx) (es : Exs) (E : Env) (M : Store) : evE c (.dic es : Ex) E M = match evEs c es E M with
    | .ok xs M1 => (match flatPairs xs with
      | some ps => if ps.length ≤ 15 then .ok (.loc M1.length) (M1 ++ [.dic (mergeD [] ps)]) else .bad
      | none => .bad)
    | _ => .bad := id rfl
@[simp] theorem evE_idx (c : Ctx) (a b : Ex) (E : Env) (M : Store) : evE c (.idx a b : Ex) E M = (evE c a E M).bind fun x M1 => (evE c b E M1).bind fun y M2 => lift M2 (doIdx M2 x y) := id rfl
@[simp] theorem evE_slice (c : Ctx) (a : Ex) (lo hi : Ox) (E : Env) (M : Store) : evE c (.slice a lo hi : Ex) E M = (evE c a E M).bind fun x M1 => (evO c lo E M1).bind fun l M2 => (evO c hi E M2).bind fun h M3 => doSlice M3 x l h := id rfl
@[simp] theorem evE_rev (c : Ctx) (a : Ex) (E : Env) (M : Store) : evE c (.rev a : Ex) E M = (evE c a E M).bind fun x M1 => match x with
    | .tup xs => .ok (.tup xs.reverse) M1
    | .loc n => (match M1[n]? with
      | some (.lst xs) => .ok (.loc M1.length) (M1 ++ [.lst xs.reverse])
      | _ => .bad)
    | _ => .bad := id rfl
@[simp] theorem evE_fld (c : Ctx) (a : Ex) (f : Str) (E : Env) (M : Store) : evE c (.fld a f : Ex) E M = (evE c a E M).bind fun x M1 => match x with
    | .loc n => (match M1[n]? with
      | some (.ins _ fs) => lift M1 (fs.lookup f)
      | _ => .bad)
    | _ => .bad := id rfl
@[simp] theorem evE_call (c : Ctx) (f : Str) (es : Exs) (E : Env) (M : Store) : evE c (.call f es : Ex) E M = (evEs c es E M).bind fun xs M1 => c.call f xs M1 := id rfl
@[simp] theorem evE_mk (c : Ctx) (C : Str) (es : Exs) (E : Env) (M : Store) : evE c (.mk C es : Ex) E M = (evEs c es E M).bind fun xs M1 => c.make C xs M1 := id rfl
@[simp] theorem evE_meth (c : Ctx) (o : Ex) (m : Str) (es : Exs) (E : Env) (M : Store) : evE c (.meth o m es : Ex) E M = (evE c o E M).bind fun x M1 => match x with
    | .loc n => (match M1[n]? with
      | some (.ins C fs) => (match fs.lookup m with
        | none => (evEs c es E M1).bind fun xs M2 => c.meth C m (.loc n :: xs) M2
        | some _ => .bad)
      | _ => .bad)
    | _ => .bad := id rfl
@[simp] theorem evE_bi (c : Ctx) (f : Bi) (es : Exs) (E : Env) (M : Store) : evE c (.bi f es : Ex) E M = (evEs c es E M).bind fun xs M1 => doBi M1 f xs := id rfl
@[simp] theorem evE_bm (c : Ctx) (m : Bm) (o : Ex) (es : Exs) (E : Env) (M : Store) : evE c (.bm m o es : Ex) E M = (evE c o E M).bind fun x M1 => if bmOk M1 m x then (evEs c es E M1).bind fun xs M2 => doBm M2 m x xs else .bad := id rfl
@[simp] theorem evE_isi (c : Ctx) (a : Ex) (t : Ty) (E : Env) (M : Store) : evE c (.isi a t : Ex) E M = (evE c a E M).bind fun x M1 => liftB M1 (isTy M1 x t) := id rfl
@[simp] theorem evT_and_ (c : Ctx) (a b : Ex) (E : Env) (M : Store) : evT c (.and_ a b : Ex) E M = (evT c a E M).bind fun k M1 => if k = true then evT c b E M1 else .ok false M1 := id rfl
@[simp] theorem evT_or_ (c : Ctx) (a b : Ex) (E : Env) (M : Store) : evT c (.or_ a b : Ex) E M = (evT c a E M).bind fun k M1 => if k = true then .ok true M1 else evT c b E M1 := id rfl
@[simp] theorem evT_not_ (c : Ctx) (a : Ex) (E : Env) (M : Store) : evT c (.not_ a : Ex) E M = (evT c a E M).bind fun k M1 => .ok (!k) M1 := id rfl
@[simp] theorem evT_ite (c : Ctx) (t a b : Ex) (E : Env) (M : Store) : evT c (.ite t a b : Ex) E M = .bad := id rfl
@[simp] theorem evT_var (c : Ctx) (i : Nat) (E : Env) (M : Store) : evT c (.var i : Ex) E M = match E[i]? with
    | some (some v) => lift M (truth M v)
    | _ => .bad := id rfl
@[simp] theorem evT_cmp (c : Ctx) (op : COp) (a b : Ex) (E : Env) (M : Store) : evT c (.cmp op a b : Ex) E M = (evE c a E M).bind fun x M1 => (evE c b E M1).bind fun y M2 => lift M2 (doCmp M2 op x y) := id rfl
@[simp] theorem evT_chain (c : Ctx) (o p : COp) (a b d : Ex) (E : Env) (M : Store) : evT c (.chain o p a b d : Ex) E M = (evE c a E M).bind fun x M1 => (evE c b E M1).bind fun y M2 => (lift M2 (doCmp M2 o x y)).bind fun k M3 =>
      if k = true then (evE c d E M3).bind fun z M4 => lift M4 (doCmp M4 p y z) else .ok false M3 := id rfl
@[simp] theorem evT_call (c : Ctx) (f : Str) (es : Exs) (E : Env) (M : Store) : evT c (.call f es : Ex) E M = (evEs c es E M).bind fun xs M1 => (c.call f xs M1).bind fun x M2 => lift M2 (truth M2 x) := id rfl
@[simp] theorem evT_isi (c : Ctx) (a : Ex) (t : Ty) (E : Env) (M : Store) : evT c (.isi a t : Ex) E M = (evE c a E M).bind fun x M1 => lift M1 (isTy M1 x t) := id rfl
@[simp] theorem evT_bi (c : Ctx) (f : Bi) (es : Exs) (E : Env) (M : Store) : evT c (.bi f es : Ex) E M = (evEs c es E M).bind fun xs M1 => (doBi M1 f xs).bind fun x M2 => lift M2 (truth M2 x) := id rfl
@[simp] theorem evEs_nil (c : Ctx)  (E : Env) (M : Store) : evEs c (.nil : Exs) E M = .ok [] M := id rfl
@[simp] theorem evEs_cons (c : Ctx) (e : Ex) (es : Exs) (E : Env) (M : Store) : evEs c (.cons e es : Exs) E M = (evE c e E M).bind fun x M1 => (evEs c es E M1).bind fun xs M2 => .ok (x :: xs) M2 := id rfl
@[simp] theorem evO_none (c : Ctx)  (E : Env) (M : Store) : evO c (.none : Ox) E M = .ok none M := id rfl
@[simp] theorem evO_some (c : Ctx) (e : Ex) (E : Env) (M : Store) : evO c (.some e : Ox) E M = (evE c e E M).bind fun x M1 => match x with
    | .int i => .ok (some i) M1
    | _ => .bad := id rfl
@[simp] theorem evC_none (c : Ctx)  (E : Env) (M : Store) : evC c (.none : Ox) E M = .ok true M := id rfl
@[simp] theorem evC_some (c : Ctx) (e : Ex) (E : Env) (M : Store) : evC c (.some e : Ox) E M = evT c e E M := id rfl
@[simp] theorem evI_of (c : Ctx) (e : Ex) (E : Env) (M : Store) : evI c (.of e : Ix) E M = (evE c e E M).bind fun x M1 => lift M1 (walked M1 x) := id rfl
def rng1Of (x : PV) (M1 : Store) : Res (List PV × Watch) := match x with
    | .int i => if inBound i then .ok (rangeOf 0 i, none) M1 else .bad
    | _ => .bad
@[simp] theorem rng1Of_int {i : Int} (M : Store) (h : inBound i = true) : rng1Of (.int i) M = .ok (rangeOf 0 i, none) M := by simp only [rng1Of]; rw [if_pos h]
def rng2Of (x y : PV) (M2 : Store) : Res (List PV × Watch) := match x, y with
    | .int i, .int j => if inBound i && inBound j then .ok (rangeOf i j, none) M2 else .bad
    | _, _ => .bad
@[simp] theorem rng2Of_int {i j : Int} (M : Store) (h : inBound i = true) (g : inBound j = true) : rng2Of (.int i) (.int j) M = .ok (rangeOf i j, none) M := by simp only [rng2Of]; rw [if_pos (by rw [h, g]; rfl)]
@[simp] theorem evI_rng1 (c : Ctx) (a : Ex) (E : Env) (M : Store) : evI c (.rng1 a : Ix) E M = (evE c a E M).bind fun x M1 => rng1Of x M1 := id rfl
@[simp] theorem evI_rng2 (c : Ctx) (a b : Ex) (E : Env) (M : Store) : evI c (.rng2 a b : Ix) E M = (evE c a E M).bind fun x M1 => (evE c b E M1).bind fun y M2 => rng2Of x y M2 := id rfl
@[simp] theorem evI_enum (c : Ctx) (e : Ex) (E : Env) (M : Store) : evI c (.enum e : Ix) E M = (evE c e E M).bind fun x M1 => lift M1 (walkedE M1 x) := id rfl
@[simp] theorem evI_zip (c : Ctx) (a b : Ex) (E : Env) (M : Store) : evI c (.zip a b : Ix) E M = .bad := id rfl
@[simp] theorem evS_asg (c : Ctx) (i : Nat) (e : Ex) (E : Env) (M : Store) : evS c (.asg i e : S) E M = (evE c e E M).bind fun x M1 => .ok (.nx (E.set i (some x))) M1 := id rfl
@[simp] theorem evS_unp (c : Ctx) (is : List Nat) (e : Ex) (E : Env) (M : Store) : evS c (.unp is e : S) E M = (evE c e E M).bind fun x M1 => match setTg (.tup is) x E with
    | some E1 => .ok (.nx E1) M1
    | none => .bad := id rfl
@[simp] theorem evS_seti (c : Ctx) (o i e : Ex) (E : Env) (M : Store) : evS c (.seti o i e : S) E M = (evE c e E M).bind fun v M1 => (evE c o E M1).bind fun x M2 => (evE c i E M2).bind fun k M3 => match x with
    | .loc n => (match M3[n]? with
      | some (.lst xs) => (match k with
        | .int j => (match ixOf xs.length j with
          | some p => .ok (.nx E) (M3.set n (.lst (xs.set p v)))
          | none => .bad)
        | _ => .bad)
      | some (.dic kvs) => if isKey k && decide (kvs.length < big) then .ok (.nx E) (M3.set n (.dic (putD k v kvs))) else .bad
      | _ => .bad)
    | _ => .bad := id rfl
@[simp] theorem evS_setf (c : Ctx) (o : Ex) (f : Str) (e : Ex) (E : Env) (M : Store) : evS c (.setf o f e : S) E M = .bad := id rfl
@[simp] theorem evS_nev (c : Ctx)  (E : Env) (M : Store) : evS c (.nev : S) E M = .bad := id rfl
@[simp] theorem evS_ex (c : Ctx) (e : Ex) (E : Env) (M : Store) : evS c (.ex e : S) E M = (evE c e E M).bind fun _ M1 => .ok (.nx E) M1 := id rfl
@[simp] theorem evS_ret (c : Ctx) (e : Ex) (E : Env) (M : Store) : evS c (.ret e : S) E M = (evE c e E M).bind fun x M1 => .ok (.rt x) M1 := id rfl
@[simp] theorem evS_retN (c : Ctx)  (E : Env) (M : Store) : evS c (.retN : S) E M = .ok (.rt .non) M := id rfl
@[simp] theorem evS_pass (c : Ctx)  (E : Env) (M : Store) : evS c (.pass : S) E M = .ok (.nx E) M := id rfl
@[simp] theorem evS_brk (c : Ctx)  (E : Env) (M : Store) : evS c (.brk : S) E M = .ok (.bk E) M := id rfl
@[simp] theorem evS_cont (c : Ctx)  (E : Env) (M : Store) : evS c (.cont : S) E M = .ok (.ct E) M := id rfl
@[simp] theorem evS_ifs (c : Ctx) (t : Ex) (a b : Ss) (E : Env) (M : Store) : evS c (.ifs t a b : S) E M = (evT c t E M).bind fun k M1 => if k = true then evSs c a E M1 else evSs c b E M1 := id rfl
@[simp] theorem evSs_nil (c : Ctx)  (E : Env) (M : Store) : evSs c (.nil : Ss) E M = .ok (.nx E) M := id rfl
@[simp] theorem evSs_cons (c : Ctx) (s : S) (ss : Ss) (E : Env) (M : Store) : evSs c (.cons s ss : Ss) E M = (evS c s E M).bind fun fl M1 => match fl with
    | .nx E1 => evSs c ss E1 M1
    | fl => .ok fl M1 := id rfl
def forStep (c : Ctx) (g : Tg) (b : Ss) : PV → Env → Store → Res Fl := fun x E M => match setTg g x E with
  | some E1 => evSs c b E1 M
  | none => .bad
@[simp high] theorem evS_for (c : Ctx) (g : Tg) (it : Ix) (b : Ss) (E : Env) (M : Store) : evS c (.for_ g it b) E M = (evI c it E M).bind fun w M1 => forGo w.2 (forStep c g b) w.1 E M1 := id rfl
def lcTurn (c : Ctx) (elt : Ex) (g : Tg) (cond : Ox) (E : Env) : PV → Store → Res (Option PV) := fun x M => match setTg g x E with
  | some E1 => (evC c cond E1 M).bind fun k M2 => if k = true then (evE c elt E1 M2).bind fun y M3 => .ok (some y) M3 else .ok none M2
  | none => .bad
@[simp high] theorem evE_lc (c : Ctx) (elt : Ex) (g : Tg) (it : Ix) (cond : Ox) (E : Env) (M : Store) : evE c (.lc elt g it cond) E M = (evI c it E M).bind fun w M1 => (lcGo w.2 (lcTurn c elt g cond E) w.1 [] M1).bind fun ys M2 => .ok (.loc M2.length) (M2 ++ [.lst ys]) := id rfl

@[simp ↓] theorem bind_ok' {α β : Type} (a : α) (M : Store) (f : α → Store → Res β) : (Res.ok a M).bind f = f a M := id rfl
@[simp ↓] theorem bind_err' {α β : Type} (x : Exn) (M : Store) (f : α → Store → Res β) : (Res.err x M : Res α).bind f = .err x M := id rfl
theorem Res.bind_congr {α β : Type} {a b : Res α} {f : α → Store → Res β} (h : a = b) : a.bind f = b.bind f := by rw [h]
section ops
variable (M : Store)
@[simp] theorem doBin_add_int (a b : Int) : doBin M .add (.int a) (.int b) = .ok (.int (a + b)) M := id rfl
@[simp] theorem doBin_add_str (a b : Str) : doBin M .add (.str a) (.str b) = if a.length + b.length ≤ big then .ok (.str (a ++ b)) M else .bad := id rfl
@[simp] theorem doBin_add_tup (a b : List PV) : doBin M .add (.tup a) (.tup b) = if a.length + b.length ≤ big then .ok (.tup (a ++ b)) M else .bad := id rfl
theorem doBin_add_loc {M : Store} {a b : Nat} {xs ys : List PV} (h : M[a]? = some (.lst xs)) (g : M[b]? = some (.lst ys)) (hb : xs.length + ys.length ≤ big) : doBin M .add (.loc a) (.loc b) = .ok (.loc M.length) (M ++ [.lst (xs ++ ys)]) := by
  simp [doBin, h, g, hb]
@[simp] theorem doBin_sub_int (a b : Int) : doBin M .sub (.int a) (.int b) = .ok (.int (a - b)) M := id rfl
@[simp] theorem doBin_mul_int (a b : Int) : doBin M .mul (.int a) (.int b) = if mulOk a b then .ok (.int (a * b)) M else .bad := id rfl
theorem doBin_mul_loc {M : Store} {a : Nat} {k : Int} {xs : List PV} (h : M[a]? = some (.lst xs)) (hk : k < 1000 ∧ -1000 < k ∧ xs.length ≤ 1000) : doBin M .mul (.loc a) (.int k) = .ok (.loc M.length) (M ++ [.lst (List.replicate k.toNat xs).flatten]) := by
  simp [doBin, h, hk]
@[simp] theorem doBin_mul_str (x : Str) (k : Int) (h : k < 1000 ∧ -1000 < k ∧ x.length ≤ 1000) : doBin M .mul (.str x) (.int k) = .ok (.str ⟨(List.replicate k.toNat x.cps.toList).flatten.toArray⟩) M := if_pos h
@[simp] theorem doBin_fdiv_int (a b : Int) (h : 0 < b ∧ b ≤ 1000000000000000000000000000000000000000000000000000000000000) : doBin M .fdiv (.int a) (.int b) = .ok (.int (a / b)) M := if_pos h
@[simp] theorem doBin_mod_int (a b : Int) (h : 0 < b) : doBin M .mod (.int a) (.int b) = .ok (.int (a % b)) M := if_pos h
@[simp] theorem doBin_pow_int (a b : Int) : doBin M .pow (.int a) (.int b) = if 0 ≤ b ∧ b ≤ 1000000 ∧ a.natAbs < 2 ^ 64 then .ok (.int (a ^ b.toNat)) M else .bad := id rfl
@[simp] theorem doCmp_eq (a b : PV) : doCmp M .eq a b = doEq M a b := id rfl
@[simp] theorem doCmp_ne (a b : PV) : doCmp M .ne a b = (doEq M a b).map (!·) := id rfl
@[simp] theorem doCmp_lt (a b : Int) : doCmp M .lt (.int a) (.int b) = some (decide (a < b)) := id rfl
@[simp] theorem doCmp_le (a b : Int) : doCmp M .le (.int a) (.int b) = some (decide (a ≤ b)) := id rfl
@[simp] theorem doCmp_gt (a b : Int) : doCmp M .gt (.int a) (.int b) = some (decide (b < a)) := id rfl
@[simp] theorem doCmp_ge (a b : Int) : doCmp M .ge (.int a) (.int b) = some (decide (b ≤ a)) := id rfl
@[simp] theorem doCmp_in (a b : PV) : doCmp M .isin a b = doIn M a b := id rfl
@[simp] theorem doCmp_notin (a b : PV) : doCmp M .notin a b = (doIn M a b).map (!·) := id rfl
@[simp] theorem doCmp_is (a b : PV) : doCmp M .is_ a b = doIs a b := id rfl
@[simp] theorem doCmp_isnot (a b : PV) : doCmp M .isnot a b = (doIs a b).map (!·) := id rfl
@[simp] theorem doIdx_fl (xs : List Int) (i : Int) : doIdx M (.fl xs) (.int i) = (ixOf xs.length i).bind fun j => (xs[j]?).map .int := id rfl
@[simp] theorem doIdx_tup (xs : List PV) (i : Int) : doIdx M (.tup xs) (.int i) = (ixOf xs.length i).bind fun j => xs[j]? := id rfl
@[simp] theorem doIdx_str (x : Str) (i : Int) : doIdx M (.str x) (.int i) = if x.length ≤ big then (ixOf x.cps.toList.length i).bind fun j => (x.cps.toList[j]?).map fun c => .str ⟨#[c]⟩ else none := id rfl
theorem doIdx_lst {M : Store} {n : Nat} {xs : List PV} {i : Int} (h : M[n]? = some (.lst xs)) : doIdx M (.loc n) (.int i) = (ixOf xs.length i).bind fun j => xs[j]? := by
  simp [doIdx, h]
theorem doIdx_dic {M : Store} {n : Nat} {kvs : List (PV × PV)} {k : PV} (h : M[n]? = some (.dic kvs)) (hk : isKey k = true) : doIdx M (.loc n) k = kvs.lookup k := by
  simp [doIdx, h, hk]
@[simp] theorem doSlice_tup (xs : List PV) (lo hi : Option Int) : doSlice M (.tup xs) lo hi = .ok (.tup (cut xs lo hi)) M := id rfl
theorem doSlice_lst {M : Store} {n : Nat} {xs : List PV} {lo hi : Option Int} (h : M[n]? = some (.lst xs)) : doSlice M (.loc n) lo hi = .ok (.loc M.length) (M ++ [.lst (cut xs lo hi)]) := by
  simp [doSlice, h]
@[simp] theorem doBi_len_tup (xs : List PV) : doBi M .len [.tup xs] = .ok (.int xs.length) M := id rfl
@[simp] theorem doBi_len_fl (xs : List Int) : doBi M .len [.fl xs] = .ok (.int xs.length) M := id rfl
@[simp] theorem doBi_len_str (x : Str) : doBi M .len [.str x] = if x.length ≤ big then .ok (.int x.length) M else .bad := id rfl
theorem doBi_len_lst {M : Store} {n : Nat} {xs : List PV} (h : M[n]? = some (.lst xs)) : doBi M .len [.loc n] = .ok (.int xs.length) M := by simp [doBi, h]
theorem doBi_tuple_lst {M : Store} {n : Nat} {xs : List PV} (h : M[n]? = some (.lst xs)) : doBi M .tuple [.loc n] = .ok (.tup xs) M := by simp [doBi, items, h]
@[simp] theorem doBi_tuple_tup (xs : List PV) : doBi M .tuple [.tup xs] = .ok (.tup xs) M := id rfl
theorem doBi_list_lst {M : Store} {n : Nat} {xs : List PV} (h : M[n]? = some (.lst xs)) : doBi M .list [.loc n] = .ok (.loc M.length) (M ++ [.lst xs]) := by simp [doBi, items, h]
@[simp] theorem doBi_list_tup (xs : List PV) : doBi M .list [.tup xs] = .ok (.loc M.length) (M ++ [.lst xs]) := id rfl
@[simp] theorem doBi_int_int (i : Int) : doBi M .int [.int i] = .ok (.int i) M := id rfl
@[simp] theorem doBi_int_bl (b : Bool) : doBi M .int [.bl b] = .ok (.int (if b then 1 else 0)) M := id rfl
@[simp] theorem doBi_max (i j : Int) : doBi M .max [.int i, .int j] = .ok (.int (if j > i then j else i)) M := id rfl
@[simp] theorem doBi_min (i j : Int) : doBi M .min [.int i, .int j] = .ok (.int (if j < i then j else i)) M := id rfl
theorem bmOk_lst {M : Store} {n : Nat} {xs : List PV} {m : Bm} (h : M[n]? = some (.lst xs)) : bmOk M m (.loc n) = (m != .get && m != .dpop) := by simp [bmOk, h]
theorem doBm_append {M : Store} {n : Nat} {xs : List PV} {v : PV} (h : M[n]? = some (.lst xs)) (hb : xs.length < big) : doBm M .append (.loc n) [v] = .ok .non (M.set n (.lst (xs ++ [v]))) := by simp [doBm, h, hb]
theorem doBm_extend {M : Store} {n m : Nat} {xs ys : List PV} (h : M[n]? = some (.lst xs)) (g : M[m]? = some (.lst ys)) (hb : xs.length + ys.length ≤ big) : doBm M .extend (.loc n) [.loc m] = .ok .non (M.set n (.lst (xs ++ ys))) := by simp [doBm, h, g, hb]
theorem doBm_clear {M : Store} {n : Nat} {xs : List PV} (h : M[n]? = some (.lst xs)) : doBm M .clear (.loc n) [] = .ok .non (M.set n (.lst [])) := by simp [doBm, h]
theorem doBm_pop {M : Store} {n : Nat} {xs : List PV} {y : PV} (h : M[n]? = some (.lst (xs ++ [y]))) : doBm M .pop (.loc n) [] = .ok y (M.set n (.lst xs)) := by simp [doBm, h]
@[simp] theorem walked_tup (xs : List PV) : walked M (.tup xs) = some (xs, none) := id rfl
@[simp] theorem walked_str (x : Str) : walked M (.str x) = some (signs x, none) := id rfl
theorem walked_lst {M : Store} {n : Nat} {xs : List PV} (h : M[n]? = some (.lst xs)) : walked M (.loc n) = some (xs, some (n, xs)) := by simp [walked, h]
@[simp] theorem walkedE_tup (xs : List PV) : walkedE M (.tup xs) = some (enumFrom 0 xs, none) := id rfl
theorem walkedE_lst {M : Store} {n : Nat} {xs : List PV} (h : M[n]? = some (.lst xs)) : walkedE M (.loc n) = some (enumFrom 0 xs, some (n, xs)) := by simp [walkedE, h]
@[simp] theorem doIdx_loc (n : Nat) (k : PV) : doIdx M (.loc n) k = match M[n]? with
    | some (.lst xs) => (match k with
      | .int i => (ixOf xs.length i).bind fun j => xs[j]?
      | _ => none)
    | some (.dic kvs) => if isKey k then kvs.lookup k else none
    | _ => none := id rfl
@[simp] theorem isKey_int (i : Int) : isKey (.int i) = true := id rfl
@[simp] theorem isKey_str (i : Str) : isKey (.str i) = true := id rfl
@[simp] theorem ixOf_zero (n : Nat) : ixOf (n + 1) 0 = some 0 := by simp [ixOf]
@[simp] theorem ixOf_one (n : Nat) : ixOf (n + 2) 1 = some 1 := by simp [ixOf]; omega
@[simp] theorem ixOf_two (n : Nat) : ixOf (n + 3) 2 = some 2 := by simp [ixOf]; omega
theorem ixOf_nat {n i : Nat} (h : i < n) : ixOf n (i : Int) = some i := by simp [ixOf, h]
end ops

@[simp] theorem doEq_str (M : Store) (a b : Str) : doEq M (.str a) (.str b) = some (decide (a = b)) := by
  simp [doEq, rdM, rdW, DV.deep]
@[simp] theorem doEq_int (M : Store) (a b : Int) : doEq M (.int a) (.int b) = some (decide (a = b)) := by
  simp [doEq, rdM, rdW, DV.deep]

/-- lists of plain things -/
theorem doEq_nil {M : Store} {n m : Nat} {xs : List PV} {ds : List DV} (hn : M[n]? = some (.lst xs)) (hm : M[m]? = some (.lst [])) (hx : xs.mapM (rdM M 2) = some ds) : doEq M (.loc n) (.loc m) = some xs.isEmpty := by
  have h1 : rdM M 3 (.loc n) = some (.lst ds) := by
    rw [rdM]; simp only [rdW, hn, hx, Option.map_some]
  have h2 : rdM M 3 (.loc m) = some (.lst []) := by simp [rdM, rdW, hm]
  have hl : ds.isEmpty = xs.isEmpty := by
    cases xs with
    | nil => simp at hx; subst hx; rfl
    | cons x xs =>
      simp only [List.mapM_cons] at hx
      cases h : rdM M 2 x with
      | none => simp [h] at hx
      | some d => 
        cases h' : xs.mapM (rdM M 2) with
        | none => simp [h, h'] at hx
        | some es => simp [h, h'] at hx; subst hx; rfl
  have h3 : min (DV.lst ds).deep (DV.lst []).deep ≤ 190 := by
    have : (DV.lst []).deep = 1 := rfl
    omega
  simp only [doEq, h1, h2]
  rw [if_pos h3, ← hl]
  cases ds with
  | nil => simp
  | cons d ds => simp
theorem mapM_str (M : Store) (k : Nat) (xs : List Str) : (xs.map PV.str).mapM (rdM M k) = some (xs.map DV.str) := by
  induction xs with
  | nil => rfl
  | cons x xs ih => 
    have h : rdM M k (.str x) = some (.str x) := by cases k <;> simp [rdM, rdW]
    simp only [List.map_cons, List.mapM_cons, h, ih]; rfl

/-! loops -/
theorem forGo_run {w : Watch} {step : PV → Env → Store → Res Fl} (P : List PV → Env → Store → Prop)
    (hw : ∀ xs E M, P xs E M → w.ok M = true)
    (hs : ∀ x xs E M, P (x :: xs) E M → ∃ E1 M1, step x E M = .ok (.nx E1) M1 ∧ P xs E1 M1) :
    ∀ xs E M, P xs E M → ∃ E' M', forGo w step xs E M = .ok (.nx E') M' ∧ P [] E' M'
  | [], E, M, h => ⟨E, M, by simp [forGo, hw _ _ _ h], h⟩
  | x :: xs, E, M, h => by
    obtain ⟨E1, M1, e, h1⟩ := hs x xs E M h
    obtain ⟨E', M', e', h'⟩ := forGo_run P hw hs xs E1 M1 h1
    exact ⟨E', M', by simp [forGo, hw _ _ _ h, e, e'], h'⟩
theorem lcGo_run {w : Watch} {step : PV → Store → Res (Option PV)} (P : List PV → List PV → Store → Prop)
    (hw : ∀ xs acc M, P xs acc M → w.ok M = true) (hb : ∀ x xs acc M, P (x :: xs) acc M → acc.length < big)
    (hs : ∀ x xs acc M, P (x :: xs) acc M → (∃ y M1, step x M = .ok (some y) M1 ∧ P xs (acc ++ [y]) M1) ∨ ∃ M1, step x M = .ok none M1 ∧ P xs acc M1) :
    ∀ xs acc M, P xs acc M → ∃ ys M', lcGo w step xs acc M = .ok ys M' ∧ P [] ys M'
  | [], acc, M, h => ⟨acc, M, by simp [lcGo, hw _ _ _ h], h⟩
  | x :: xs, acc, M, h => by
    rcases hs x xs acc M h with ⟨y, M1, e, h1⟩ | ⟨M1, e, h1⟩
    · obtain ⟨ys, M', e', h'⟩ := lcGo_run P hw hb hs xs _ M1 h1
      exact ⟨ys, M', by simp [lcGo, hw _ _ _ h, hb _ _ _ _ h, e, e'], h'⟩
    · obtain ⟨ys, M', e', h'⟩ := lcGo_run P hw hb hs xs _ M1 h1
      exact ⟨ys, M', by simp [lcGo, hw _ _ _ h, hb _ _ _ _ h, e, e'], h'⟩
/-- a comprehension whose turns change nothing -/
theorem lcGo_map {w : Watch} {step : PV → Store → Res (Option PV)} {M : Store} (f : PV → PV) (hw : w.ok M = true) : ∀ (xs acc : List PV), acc.length + xs.length ≤ big → (∀ x ∈ xs, step x M = .ok (some (f x)) M) → lcGo w step xs acc M = .ok (acc ++ xs.map f) M
  | [], acc, _, _ => by simp [lcGo, hw]
  | x :: xs, acc, hb, h => by
    have hl : acc.length < big := by simp at hb; omega
    simp only [lcGo, hw, hl, decide_true, Bool.and_self, if_true, h x (List.mem_cons_self ..)]
    rw [lcGo_map f hw xs (acc ++ [f x]) (by simp at hb ⊢; omega) (fun y hy => h y (List.mem_cons_of_mem _ hy))]
    simp

/-! what stays -/
def Fr (S : List Nat) (M M' : Store) : Prop := M.length ≤ M'.length ∧ ∀ n, n < M.length → n ∉ S → M'[n]? = M[n]?
theorem Fr.refl (S : List Nat) (M : Store) : Fr S M M := ⟨Nat.le_refl _, fun _ _ _ => rfl⟩
theorem Fr.trans {S : List Nat} {M M1 M2 : Store} (h : Fr S M M1) (g : Fr S M1 M2) : Fr S M M2 :=
  ⟨Nat.le_trans h.1 g.1, fun n hn hs => (g.2 n (Nat.lt_of_lt_of_le hn h.1) hs).trans (h.2 n hn hs)⟩
theorem Fr.mono {S S' : List Nat} {M M1 : Store} (h : Fr S M M1) (hs : ∀ n, n < M.length → n ∈ S → n ∈ S') : Fr S' M M1 :=
  ⟨h.1, fun n hn ho => h.2 n hn (fun g => ho (hs n hn g))⟩
theorem Fr.set {S : List Nat} {M : Store} {n : Nat} {o : MO} (h : n ∈ S) : Fr S M (M.set n o) :=
  ⟨by simp, fun m hm hs => by rw [List.getElem?_set_ne]; intro e; subst e; exact hs h⟩
theorem Fr.app {S : List Nat} {M : Store} {o : List MO} : Fr S M (M ++ o) :=
  ⟨by simp, fun m hm hs => by rw [List.getElem?_append_left hm]⟩
theorem Fr.get {S : List Nat} {M M' : Store} {n : Nat} {o : MO} (h : Fr S M M') (g : M[n]? = some o) (hs : n ∉ S) : M'[n]? = some o := by
  rw [h.2 n (by obtain ⟨h1, _⟩ := List.getElem?_eq_some_iff.1 g; exact h1) hs, g]
theorem lt_of_get {M : Store} {n : Nat} {o : MO} (h : M[n]? = some o) : n < M.length := (List.getElem?_eq_some_iff.1 h).1
theorem set_get {M : Store} {n : Nat} {o p : MO} (h : M[n]? = some o) : (M.set n p)[n]? = some p := by
  rw [List.getElem?_set_self (lt_of_get h)]
theorem set_get_ne {M : Store} {n m : Nat} {p : MO} (h : n ≠ m) : (M.set n p)[m]? = M[m]? := List.getElem?_set_ne h
theorem app_get {M : Store} {n : Nat} {o : MO} {os : List MO} (h : M[n]? = some o) : (M ++ os)[n]? = some o := by
  rw [List.getElem?_append_left (lt_of_get h), h]
@[simp] theorem app_new {M : Store} {o : MO} : (M ++ [o])[M.length]? = some o := by simp
end Wn
end
section
namespace Wn
open PySem
def l1_is_word : Ex := (.cmp .isin (.var 1) (.glo "LETTERS"))
def f_is_word : Fn := ⟨["thing", "sign"], 1, (.cons (.ifs (.or_ (.not_ (.isi (.var 0) .str)) (.not_ (.chain .le .le (.int 1) (.bi .len (.cons (.var 0) .nil)) (.int 8)))) (.cons (.ret (.bl false)) .nil) .nil) (.cons (.ret (.and_ (.bi .all (.cons (.lc l1_is_word (.nm 1) (.of (.var 0)) .none) .nil)) (.cmp .notin (.var 0) (.glo "WORDS_OUT")))) .nil))⟩
def f_parts_of : Fn := ⟨["term"], 1, (.cons (.ifs (.or_ (.cmp .eq (.idx (.var 0) (.int 0)) (.str "number")) (.cmp .eq (.idx (.var 0) (.int 0)) (.str "name"))) (.cons (.ret (.tup .nil)) .nil) .nil) (.cons (.ifs (.cmp .eq (.idx (.var 0) (.int 0)) (.str "ask")) (.cons (.ret (.idx (.var 0) (.int 2))) .nil) .nil) (.cons (.ifs (.cmp .eq (.idx (.var 0) (.int 0)) (.str "let")) (.cons (.ret (.slice (.var 0) (.some (.int 2)) .none)) .nil) .nil) (.cons (.ret (.slice (.var 0) (.some (.int 1)) .none)) .nil))))⟩
def f_is_simple : Fn := ⟨["term"], 1, (.cons (.ifs (.or_ (.cmp .eq (.idx (.var 0) (.int 0)) (.str "plus")) (.cmp .eq (.idx (.var 0) (.int 0)) (.str "less"))) (.cons (.ret (.and_ (.call "is_simple" (.cons (.idx (.var 0) (.int 1)) .nil)) (.call "is_simple" (.cons (.idx (.var 0) (.int 2)) .nil)))) .nil) .nil) (.cons (.ret (.or_ (.cmp .eq (.idx (.var 0) (.int 0)) (.str "number")) (.cmp .eq (.idx (.var 0) (.int 0)) (.str "name")))) .nil))⟩
def b1_places_in : Ss := (.cons (.ex (.bm .extend (.var 2) (.cons (.call "places_in" (.cons (.var 4) (.cons (.bin .add (.var 1) (.tup (.cons (.var 3) .nil))) .nil))) .nil))) .nil)
def f_places_in : Fn := ⟨["term", "place", "found", "number", "part"], 2, (.cons (.asg 2 (.lst (.cons (.var 1) .nil))) (.cons (.for_ (.tup [3, 4]) (.enum (.call "parts_of" (.cons (.var 0) .nil))) b1_places_in) (.cons (.ret (.var 2)) .nil)))⟩
def b1_all_places : Ss := (.cons (.ex (.bm .extend (.var 1) (.cons (.call "places_in" (.cons (.var 4) (.cons (.tup (.cons (.var 2) .nil)) .nil))) .nil))) .nil)
def f_all_places : Fn := ⟨["book", "found", "name", "names", "body"], 1, (.cons (.asg 1 (.lst .nil)) (.cons (.for_ (.tup [2, 3, 4]) (.of (.var 0)) b1_all_places) (.cons (.ret (.var 1)) .nil)))⟩
def l1_term_at : Ex := (.idx (.var 3) (.int 2))
def q1_term_at : Ex := (.cmp .eq (.idx (.var 3) (.int 0)) (.idx (.var 1) (.int 0)))
def b1_term_at : Ss := (.cons (.asg 2 (.idx (.call "parts_of" (.cons (.var 2) .nil)) (.var 4))) .nil)
def f_term_at : Fn := ⟨["book", "place", "term", "errand", "number"], 2, (.cons (.asg 2 (.idx (.lc l1_term_at (.nm 3) (.of (.var 0)) (.some q1_term_at)) (.int 0))) (.cons (.for_ (.nm 4) (.of (.slice (.var 1) (.some (.int 1)) .none)) b1_term_at) (.cons (.ret (.var 2)) .nil)))⟩
def f__law_cell_at : Fn := ⟨["script", "k"], 2, (.cons (.ifs (.cmp .lt (.var 1) (.bi .len (.cons (.var 0) .nil))) (.cons (.ret (.idx (.var 0) (.var 1))) .nil) .nil) (.cons (.ret (.int 0)) .nil))⟩
def b1__law_tape : Ss := (.cons (.asg 4 (.bin .mod (.bin .add (.bin .add (.bin .add (.bin .mul (.var 4) (.var 4)) (.bin .mul (.int 40692) (.var 6))) (.var 2)) (.int 7)) (.var 3))) (.cons (.asg 5 (.bin .add (.bin .mul (.var 5) (.var 3)) (.var 4))) .nil))
def f__law_tape : Fn := ⟨["script", "k", "cell", "p", "one", "found", "turn"], 2, (.cons (.asg 2 (.call "_law_cell_at" (.cons (.var 0) (.cons (.var 1) .nil)))) (.cons (.ifs (.cmp .eq (.var 2) (.int 0)) (.cons (.ret (.lst (.cons (.int 0) .nil))) .nil) .nil) (.cons (.ifs (.cmp .ge (.var 2) (.bin .pow (.int 10) (.int 18))) (.cons (.ret (.lst (.cons (.bin .sub (.var 2) (.bin .pow (.int 10) (.int 18))) .nil))) .nil) .nil) (.cons (.asg 3 (.int 2305843009213693951)) (.cons (.asg 4 (.bin .mod (.bin .add (.bin .add (.bin .mul (.var 2) (.int 69621)) (.bin .mul (.int 40014) (.var 1))) (.int 17)) (.var 3))) (.cons (.asg 5 (.var 4)) (.cons (.for_ (.nm 6) (.rng1 (.int 20)) b1__law_tape) (.cons (.ret (.lst (.cons (.var 5) .nil))) .nil))))))))⟩
def f__law_digit : Fn := ⟨["tape", "many", "found"], 2, (.cons (.asg 2 (.bin .mod (.idx (.var 0) (.int 0)) (.var 1))) (.cons (.seti (.var 0) (.int 0) (.bin .fdiv (.idx (.var 0) (.int 0)) (.var 1))) (.cons (.ret (.var 2)) .nil)))⟩
def l1__law_words : Ex := (.bin .add (.idx (.var 2) (.bin .mod (.bin .add (.var 4) (.var 6)) (.int 26))) (.var 5))
def l2__law_words : Ex := (.bin .mul (.idx (.var 2) (.bin .mod (.bin .add (.var 4) (.bin .fdiv (.var 6) (.int 8))) (.int 26))) (.bin .add (.int 1) (.bin .mod (.var 6) (.int 8))))
def l3__law_words : Ex := (.idx (.var 7) (.bin .mod (.bin .add (.var 4) (.var 6)) (.int 18)))
def f__law_words : Fn := ⟨["tape", "many", "letters", "way", "turn", "ends", "k", "some"], 2, (.cons (.asg 2 (.str "abcdefghijklmnopqrstuvwxyz")) (.cons (.asg 3 (.call "_law_digit" (.cons (.var 0) (.cons (.int 3) .nil)))) (.cons (.asg 4 (.call "_law_digit" (.cons (.var 0) (.cons (.int 26) .nil)))) (.cons (.ifs (.cmp .eq (.var 3) (.int 0)) (.cons (.asg 5 (.idx (.lst (.cons (.str "") (.cons (.str "a") (.cons (.str "omelons") .nil)))) (.call "_law_digit" (.cons (.var 0) (.cons (.int 3) .nil))))) (.cons (.ret (.lc l1__law_words (.nm 6) (.rng1 (.var 1)) .none)) .nil)) .nil) (.cons (.ifs (.cmp .eq (.var 3) (.int 1)) (.cons (.ret (.lc l2__law_words (.nm 6) (.rng1 (.var 1)) .none)) .nil) .nil) (.cons (.asg 7 (.lst (.cons (.str "give") (.cons (.str "ask") (.cons (.str "post") (.cons (.str "plus") (.cons (.str "less") (.cons (.str "name") (.cons (.str "number") (.cons (.str "to") (.cons (.str "as") (.cons (.str "f") (.cons (.str "x") .nil))))))))))))) (.cons (.asg 7 (.bin .add (.var 7) (.lst (.cons (.str "aq") (.cons (.str "bq") (.cons (.str "lets") (.cons (.str "ifs") (.cons (.str "ina") (.cons (.str "homes") (.cons (.str "q") .nil)))))))))) (.cons (.ret (.lc l3__law_words (.nm 6) (.rng1 (.var 1)) .none)) .nil))))))))⟩
def f__law_number : Fn := ⟨["tape", "way"], 1, (.cons (.asg 1 (.call "_law_digit" (.cons (.var 0) (.cons (.int 6) .nil)))) (.cons (.ifs (.cmp .eq (.var 1) (.int 5)) (.cons (.ret (.call "_law_digit" (.cons (.var 0) (.cons (.int 1000) .nil)))) .nil) .nil) (.cons (.ret (.idx (.lst (.cons (.int 0) (.cons (.int 1) (.cons (.int 1) (.cons (.int 2) (.cons (.int 3) .nil)))))) (.var 1))) .nil)))⟩
def f__law_leaf : Fn := ⟨["tape", "known", "around"], 3, (.cons (.ifs (.and_ (.cmp .ne (.var 2) (.lst .nil)) (.cmp .gt (.call "_law_digit" (.cons (.var 0) (.cons (.int 3) .nil))) (.int 0))) (.cons (.ret (.tup (.cons (.str "name") (.cons (.idx (.var 2) (.call "_law_digit" (.cons (.var 0) (.cons (.bi .len (.cons (.var 2) .nil)) .nil)))) .nil)))) .nil) .nil) (.cons (.ret (.tup (.cons (.str "number") (.cons (.call "_law_number" (.cons (.var 0) .nil)) .nil)))) .nil))⟩
def b1__law_shares : Ss := (.cons (.asg 6 (.call "_law_digit" (.cons (.var 0) (.cons (.bin .add (.var 4) (.int 1)) .nil)))) (.cons (.seti (.var 3) (.var 5) (.bin .add (.idx (.var 3) (.var 5)) (.var 6))) (.cons (.asg 4 (.bin .sub (.var 4) (.var 6))) .nil)))
def f__law_shares : Fn := ⟨["tape", "room", "many", "found", "left", "k", "more"], 3, (.cons (.asg 3 (.bin .mul (.lst (.cons (.int 1) .nil)) (.var 2))) (.cons (.asg 4 (.bin .sub (.var 1) (.var 2))) (.cons (.for_ (.nm 5) (.rng1 (.var 2)) b1__law_shares) (.cons (.ret (.var 3)) .nil))))⟩
def f__law_less_one : Fn := ⟨["around"], 1, (.cons (.ifs (.cmp .eq (.var 0) (.lst .nil)) (.cons (.ret (.tup (.cons (.str "number") (.cons (.int 0) .nil)))) .nil) .nil) (.cons (.ret (.tup (.cons (.str "less") (.cons (.tup (.cons (.str "name") (.cons (.idx (.var 0) (.int 0)) .nil))) (.cons (.tup (.cons (.str "number") (.cons (.int 1) .nil))) .nil))))) .nil))⟩
def b1__law_ask : Ss := (.cons (.ifs (.and_ (.cmp .eq (.var 10) (.int 0)) (.cmp .gt (.var 8) (.int 0))) (.cons (.ex (.bm .append (.var 7) (.cons (.call "_law_less_one" (.cons (.var 2) .nil)) .nil))) .nil) (.cons (.ex (.bm .append (.var 7) (.cons (.call "_law_term" (.cons (.var 0) (.cons (.var 1) (.cons (.var 2) (.cons (.idx (.var 9) (.var 10)) (.cons (.bin .sub (.var 4) (.int 1)) .nil)))))) .nil))) .nil)) .nil)
def f__law_ask : Fn := ⟨["tape", "known", "around", "room", "deep", "f", "many", "some", "first", "shares", "k"], 5, (.cons (.asg 5 (.idx (.idx (.var 1) (.str "errands")) (.call "_law_digit" (.cons (.var 0) (.cons (.bi .len (.cons (.idx (.var 1) (.str "errands")) .nil)) .nil))))) (.cons (.asg 6 (.idx (.idx (.var 1) (.str "heads")) (.var 5))) (.cons (.ifs (.and_ (.cmp .gt (.bin .add (.var 6) (.int 3)) (.var 3)) (.cmp .gt (.var 6) (.int 0))) (.cons (.ret (.call "_law_leaf" (.cons (.var 0) (.cons (.var 1) (.cons (.var 2) .nil))))) .nil) .nil) (.cons (.asg 7 (.lst .nil)) (.cons (.asg 8 (.bin .mul (.call "_law_digit" (.cons (.var 0) (.cons (.int 4) .nil))) (.bi .int (.cons (.cmp .gt (.var 6) (.int 0)) .nil)))) (.cons (.asg 9 (.call "_law_shares" (.cons (.var 0) (.cons (.bi .max (.cons (.var 6) (.cons (.bin .sub (.var 3) (.idx (.lst (.cons (.int 1) (.cons (.int 3) .nil))) (.bi .int (.cons (.cmp .gt (.var 8) (.int 0)) .nil)))) .nil))) (.cons (.var 6) .nil))))) (.cons (.for_ (.nm 10) (.rng1 (.var 6)) b1__law_ask) (.cons (.ret (.tup (.cons (.str "ask") (.cons (.var 5) (.cons (.bi .tuple (.cons (.var 7) .nil)) .nil))))) .nil))))))))⟩
def l1__law_term : Ex := (.call "_law_term" (.cons (.var 0) (.cons (.var 1) (.cons (.var 2) (.cons (.var 11) (.cons (.bin .sub (.var 4) (.int 1)) .nil))))))
def f__law_term : Fn := ⟨["tape", "known", "around", "room", "deep", "words", "word", "x", "shares", "first", "some", "share"], 5, (.cons (.ifs (.or_ (.cmp .lt (.var 3) (.int 2)) (.cmp .eq (.var 4) (.int 0))) (.cons (.ret (.call "_law_leaf" (.cons (.var 0) (.cons (.var 1) (.cons (.var 2) .nil))))) .nil) .nil) (.cons (.asg 5 (.lst (.cons (.str "plus") (.cons (.str "less") (.cons (.str "tell") (.cons (.str "let") (.cons (.str "if") (.cons (.str "ask") (.cons (.str "ask") (.cons (.str "ask") (.cons (.str "plus") (.cons (.str "let") .nil)))))))))))) (.cons (.asg 6 (.idx (.var 5) (.call "_law_digit" (.cons (.var 0) (.cons (.int 10) .nil))))) (.cons (.ifs (.cmp .eq (.var 6) (.str "ask")) (.cons (.ret (.call "_law_ask" (.cons (.var 0) (.cons (.var 1) (.cons (.var 2) (.cons (.var 3) (.cons (.var 4) .nil))))))) .nil) .nil) (.cons (.ifs (.or_ (.cmp .eq (.var 6) (.str "tell")) (.cmp .lt (.var 3) (.int 4))) (.cons (.ret (.tup (.cons (.str "tell") (.cons (.call "_law_term" (.cons (.var 0) (.cons (.var 1) (.cons (.var 2) (.cons (.bin .sub (.var 3) (.int 1)) (.cons (.bin .sub (.var 4) (.int 1)) .nil)))))) .nil)))) .nil) .nil) (.cons (.ifs (.and_ (.cmp .eq (.var 6) (.str "let")) (.cmp .ne (.idx (.var 1) (.str "words")) (.lst .nil))) (.cons (.asg 7 (.bm .pop (.idx (.var 1) (.str "words")) .nil)) (.cons (.asg 8 (.call "_law_shares" (.cons (.var 0) (.cons (.bin .sub (.var 3) (.int 1)) (.cons (.int 2) .nil))))) (.cons (.asg 9 (.call "_law_term" (.cons (.var 0) (.cons (.var 1) (.cons (.var 2) (.cons (.idx (.var 8) (.int 0)) (.cons (.bin .sub (.var 4) (.int 1)) .nil))))))) (.cons (.ret (.tup (.cons (.str "let") (.cons (.var 7) (.cons (.var 9) (.cons (.call "_law_term" (.cons (.var 0) (.cons (.var 1) (.cons (.bin .add (.var 2) (.lst (.cons (.var 7) .nil))) (.cons (.idx (.var 8) (.int 1)) (.cons (.bin .sub (.var 4) (.int 1)) .nil)))))) .nil)))))) .nil)))) .nil) (.cons (.asg 8 (.call "_law_shares" (.cons (.var 0) (.cons (.bin .sub (.var 3) (.int 1)) (.cons (.idx (.lst (.cons (.int 2) (.cons (.int 3) .nil))) (.bi .int (.cons (.cmp .eq (.var 6) (.str "if")) .nil))) .nil))))) (.cons (.asg 10 (.lc l1__law_term (.nm 11) (.of (.var 8)) .none)) (.cons (.ret (.bin .add (.tup (.cons (.idx (.lst (.cons (.var 6) (.cons (.str "plus") .nil))) (.bi .int (.cons (.cmp .eq (.var 6) (.str "let")) .nil))) .nil)) (.bi .tuple (.cons (.var 10) .nil)))) .nil)))))))))⟩
def f__law_body : Fn := ⟨["tape", "known", "names", "room", "shares", "one"], 4, (.cons (.ifs (.and_ (.cmp .ne (.var 2) (.lst .nil)) (.cmp .gt (.call "_law_digit" (.cons (.var 0) (.cons (.int 4) .nil))) (.int 0))) (.cons (.asg 4 (.call "_law_shares" (.cons (.var 0) (.cons (.bin .sub (.var 3) (.int 2)) (.cons (.int 2) .nil))))) (.cons (.asg 5 (.call "_law_term" (.cons (.var 0) (.cons (.var 1) (.cons (.var 2) (.cons (.idx (.var 4) (.int 0)) (.cons (.int 10) .nil))))))) (.cons (.ret (.tup (.cons (.str "if") (.cons (.tup (.cons (.str "name") (.cons (.idx (.var 2) (.int 0)) .nil))) (.cons (.var 5) (.cons (.call "_law_term" (.cons (.var 0) (.cons (.var 1) (.cons (.var 2) (.cons (.idx (.var 4) (.int 1)) (.cons (.int 10) .nil)))))) .nil)))))) .nil))) .nil) (.cons (.ret (.call "_law_term" (.cons (.var 0) (.cons (.var 1) (.cons (.var 2) (.cons (.var 3) (.cons (.int 11) .nil))))))) .nil))⟩
def b1__law_book : Ss := (.cons (.seti (.var 4) (.var 5) (.idx (.lst (.cons (.int 1) (.cons (.int 2) (.cons (.int 1) (.cons (.int 0) (.cons (.int 3) (.cons (.int 4) .nil))))))) (.call "_law_digit" (.cons (.var 2) (.cons (.int 6) .nil))))) .nil)
def b2__law_book : Ss := (.cons (.asg 9 (.call "_law_tape" (.cons (.var 0) (.cons (.bin .add (.bin .add (.var 1) (.int 1)) (.var 8)) .nil)))) (.cons (.asg 10 (.call "_law_words" (.cons (.var 9) (.cons (.int 16) .nil)))) (.cons (.asg 11 (.slice (.var 10) .none (.some (.idx (.var 4) (.idx (.var 3) (.var 8)))))) (.cons (.asg 12 (.dic (.cons (.str "errands") (.cons (.var 3) (.cons (.str "heads") (.cons (.var 4) (.cons (.str "words") (.cons (.slice (.var 10) (.some (.bi .len (.cons (.var 11) .nil))) .none) .nil)))))))) (.cons (.ex (.bm .append (.var 7) (.cons (.tup (.cons (.idx (.var 3) (.var 8)) (.cons (.bi .tuple (.cons (.var 11) .nil)) (.cons (.call "_law_body" (.cons (.var 9) (.cons (.var 12) (.cons (.var 11) (.cons (.var 6) .nil))))) .nil)))) .nil))) .nil)))))
def f__law_book : Fn := ⟨["script", "start", "head", "errands", "heads", "f", "room", "found", "k", "tape", "words", "names", "known"], 2, (.cons (.asg 2 (.call "_law_tape" (.cons (.var 0) (.cons (.var 1) .nil)))) (.cons (.asg 3 (.call "_law_words" (.cons (.var 2) (.cons (.idx (.lst (.cons (.int 1) (.cons (.int 2) (.cons (.int 2) (.cons (.int 3) (.cons (.int 4) (.cons (.int 6) .nil))))))) (.call "_law_digit" (.cons (.var 2) (.cons (.int 6) .nil)))) .nil)))) (.cons (.asg 4 (.dic .nil)) (.cons (.for_ (.nm 5) (.of (.var 3)) b1__law_book) (.cons (.asg 6 (.idx (.lst (.cons (.int 8) (.cons (.int 14) (.cons (.int 24) (.cons (.int 40) .nil))))) (.call "_law_digit" (.cons (.var 2) (.cons (.int 4) .nil))))) (.cons (.asg 7 (.lst .nil)) (.cons (.for_ (.nm 8) (.rng1 (.bi .len (.cons (.var 3) .nil))) b2__law_book) (.cons (.ret (.bi .tuple (.cons (.var 7) .nil))) .nil))))))))⟩
def f__law_parts : Fn := ⟨["term"], 1, (.cons (.ifs (.cmp .isin (.idx (.var 0) (.int 0)) (.tup (.cons (.str "number") (.cons (.str "name") .nil)))) (.cons (.ret (.tup .nil)) .nil) .nil) (.cons (.ifs (.cmp .eq (.idx (.var 0) (.int 0)) (.str "ask")) (.cons (.ret (.idx (.var 0) (.int 2))) .nil) .nil) (.cons (.ret (.slice (.var 0) (.some (.bin .add (.int 1) (.bi .int (.cons (.cmp .eq (.idx (.var 0) (.int 0)) (.str "let")) .nil)))) .none)) .nil)))⟩
def b1__law_places : Ss := (.cons (.ex (.bm .extend (.var 2) (.cons (.call "_law_places" (.cons (.var 4) (.cons (.bin .add (.var 1) (.tup (.cons (.var 3) .nil))) .nil))) .nil))) .nil)
def f__law_places : Fn := ⟨["term", "place", "found", "k", "part"], 2, (.cons (.asg 2 (.lst (.cons (.var 1) .nil))) (.cons (.for_ (.tup [3, 4]) (.enum (.call "_law_parts" (.cons (.var 0) .nil))) b1__law_places) (.cons (.ret (.var 2)) .nil)))⟩
def b1__law_at : Ss := (.cons (.asg 0 (.idx (.call "_law_parts" (.cons (.var 0) .nil)) (.var 2))) .nil)
def f__law_at : Fn := ⟨["term", "place", "k"], 2, (.cons (.for_ (.nm 2) (.of (.var 1)) b1__law_at) (.cons (.ret (.var 0)) .nil))⟩
def b1__law_lets : Ss := (.cons (.ex (.bm .extend (.var 1) (.cons (.call "_law_lets" (.cons (.var 2) .nil)) .nil))) .nil)
def f__law_lets : Fn := ⟨["term", "found", "part"], 1, (.cons (.asg 1 (.ite (.cmp .eq (.idx (.var 0) (.int 0)) (.str "let")) (.lst (.cons (.idx (.var 0) (.int 1)) .nil)) (.lst .nil))) (.cons (.for_ (.nm 2) (.of (.call "_law_parts" (.cons (.var 0) .nil))) b1__law_lets) (.cons (.ret (.var 1)) .nil)))⟩
def f__law_is_simple : Fn := ⟨["term"], 1, (.cons (.ifs (.cmp .isin (.idx (.var 0) (.int 0)) (.tup (.cons (.str "plus") (.cons (.str "less") .nil)))) (.cons (.ret (.and_ (.call "_law_is_simple" (.cons (.idx (.var 0) (.int 1)) .nil)) (.call "_law_is_simple" (.cons (.idx (.var 0) (.int 2)) .nil)))) .nil) .nil) (.cons (.ret (.cmp .isin (.idx (.var 0) (.int 0)) (.tup (.cons (.str "number") (.cons (.str "name") .nil))))) .nil))⟩
def b1__law_words_right : Ss := (.cons (.ifs (.cmp .isnot (.call "is_word" (.cons (.var 4) .nil)) (.bl true)) (.cons (.ret (.bl false)) .nil) .nil) .nil)
def b2__law_words_right : Ss := (.cons (.for_ (.nm 4) (.of (.bin .add (.bin .add (.tup (.cons (.var 1) .nil)) (.var 2)) (.bi .tuple (.cons (.call "_law_lets" (.cons (.var 3) .nil)) .nil)))) b1__law_words_right) .nil)
def l1__law_words_right : Ex := (.var 6)
def q1__law_words_right : Ex := (.cmp .isnot (.call "is_word" (.cons (.var 6) .nil)) (.bl false))
def l2__law_words_right : Ex := (.cmp .is_ (.call "is_word" (.cons (.var 4) .nil)) (.bl true))
def f__law_words_right : Fn := ⟨["book", "name", "names", "body", "word", "some", "thing", "good"], 1, (.cons (.for_ (.tup [1, 2, 3]) (.of (.var 0)) b2__law_words_right) (.cons (.asg 5 (.lst (.cons (.str "let") (.cons (.str "be") (.cons (.str "in") (.cons (.str "tell") (.cons (.str "if") (.cons (.str "then") (.cons (.str "else") (.cons (.str "home") (.cons (.str "") (.cons (.str "A") (.cons (.str "aB") (.cons (.str "a1") (.cons (.str "a b") (.cons (.str "abcdefghi") .nil)))))))))))))))) (.cons (.asg 5 (.bin .add (.var 5) (.lst (.cons (.str "a-b") .nil)))) (.cons (.asg 5 (.bin .add (.var 5) (.lst (.cons (.str " a") (.cons (.str "a\n") (.cons (.int 3) (.cons .non (.cons (.bl true) (.cons (.tup (.cons (.str "a") .nil)) (.cons (.lst (.cons (.str "a") .nil)) (.cons (.dic .nil) (.cons (.tup .nil) (.cons (.str "a_") .nil))))))))))))) (.cons (.ifs (.cmp .ne (.lc l1__law_words_right (.nm 6) (.of (.var 5)) (.some q1__law_words_right)) (.lst .nil)) (.cons (.ret (.bl false)) .nil) .nil) (.cons (.asg 7 (.lst (.cons (.str "a") (.cons (.str "abcdefgh") (.cons (.str "lets") (.cons (.str "post") (.cons (.str "give") (.cons (.str "to") (.cons (.str "as") (.cons (.str "ho") (.cons (.str "z") .nil))))))))))) (.cons (.ret (.bi .all (.cons (.lc l2__law_words_right (.nm 4) (.of (.var 7)) .none) .nil))) .nil)))))))⟩
def l1_law : Ex := (.bin .add (.tup (.cons (.var 3) .nil)) (.var 6))
def b1_law : Ss := (.cons (.ex (.bm .extend (.var 2) (.cons (.lc l1_law (.nm 6) (.of (.call "_law_places" (.cons (.var 5) (.cons (.tup .nil) .nil)))) .none) .nil))) .nil)
def b2_law : Ss := (.cons (.asg 8 (.call "all_places" (.cons (.var 1) .nil))) (.cons (.ifs (.or_ (.not_ (.isi (.var 8) .list)) (.cmp .ne (.var 8) (.var 2))) (.cons (.ret (.bl false)) .nil) .nil) (.cons (.ex (.bm .clear (.var 8) .nil)) .nil)))
def l2_law : Ex := (.tup (.cons (.idx (.var 10) (.int 0)) (.cons (.idx (.var 10) (.int 2)) .nil)))
def b3_law : Ss := (.cons (.asg 11 (.call "_law_at" (.cons (.idx (.var 9) (.idx (.var 6) (.int 0))) (.cons (.slice (.var 6) (.some (.int 1)) .none) .nil)))) (.cons (.asg 12 (.call "is_simple" (.cons (.var 11) .nil))) (.cons (.ifs (.or_ (.cmp .ne (.call "term_at" (.cons (.var 1) (.cons (.var 6) .nil))) (.var 11)) (.cmp .ne (.call "parts_of" (.cons (.var 11) .nil)) (.bi .tuple (.cons (.call "_law_parts" (.cons (.var 11) .nil)) .nil)))) (.cons (.ret (.bl false)) .nil) .nil) (.cons (.ifs (.or_ (.not_ (.isi (.call "parts_of" (.cons (.var 11) .nil)) .tuple)) (.not_ (.isi (.var 12) .bool))) (.cons (.ret (.bl false)) .nil) .nil) (.cons (.ifs (.cmp .ne (.var 12) (.call "_law_is_simple" (.cons (.var 11) .nil))) (.cons (.ret (.bl false)) .nil) .nil) .nil)))))
def f_law : Fn := ⟨["script", "book", "due", "name", "names", "body", "place", "turn", "found", "bodies", "errand", "term", "told"], 1, (.cons (.asg 1 (.call "_law_book" (.cons (.var 0) (.cons (.int 0) .nil)))) (.cons (.asg 2 (.lst .nil)) (.cons (.for_ (.tup [3, 4, 5]) (.of (.var 1)) b1_law) (.cons (.for_ (.nm 7) (.rng1 (.int 2)) b2_law) (.cons (.asg 9 (.bi .dict (.cons (.lc l2_law (.nm 10) (.of (.var 1)) .none) .nil))) (.cons (.for_ (.nm 6) (.of (.var 2)) b3_law) (.cons (.ret (.call "_law_words_right" (.cons (.var 1) .nil))) .nil)))))))⟩
def theGlo : List (Str × PV) := [("LETTERS", .str "abcdefghijklmnopqrstuvwxyz"), ("WORDS_OUT", .tup [.str "let", .str "be", .str "in", .str "tell", .str "if", .str "then", .str "else", .str "home"])]
def T : Tbl := ⟨[("is_word", f_is_word), ("parts_of", f_parts_of), ("is_simple", f_is_simple), ("places_in", f_places_in), ("all_places", f_all_places), ("term_at", f_term_at), ("_law_cell_at", f__law_cell_at), ("_law_tape", f__law_tape), ("_law_digit", f__law_digit), ("_law_words", f__law_words), ("_law_number", f__law_number), ("_law_leaf", f__law_leaf), ("_law_shares", f__law_shares), ("_law_less_one", f__law_less_one), ("_law_ask", f__law_ask), ("_law_term", f__law_term), ("_law_body", f__law_body), ("_law_book", f__law_book), ("_law_parts", f__law_parts), ("_law_places", f__law_places), ("_law_at", f__law_at), ("_law_lets", f__law_lets), ("_law_is_simple", f__law_is_simple), ("_law_words_right", f__law_words_right), ("law", f_law)], theGlo, []⟩
theorem lk_is_word : T.fn.lookup (Str.ofString "is_word") = some f_is_word := by simp [T, List.lookup]
theorem lk_parts_of : T.fn.lookup (Str.ofString "parts_of") = some f_parts_of := by simp [T, List.lookup]
theorem lk_is_simple : T.fn.lookup (Str.ofString "is_simple") = some f_is_simple := by simp [T, List.lookup]
theorem lk_places_in : T.fn.lookup (Str.ofString "places_in") = some f_places_in := by simp [T, List.lookup]
theorem lk_all_places : T.fn.lookup (Str.ofString "all_places") = some f_all_places := by simp [T, List.lookup]
theorem lk_term_at : T.fn.lookup (Str.ofString "term_at") = some f_term_at := by simp [T, List.lookup]
theorem lk__law_cell_at : T.fn.lookup (Str.ofString "_law_cell_at") = some f__law_cell_at := by simp [T, List.lookup]
theorem lk__law_tape : T.fn.lookup (Str.ofString "_law_tape") = some f__law_tape := by simp [T, List.lookup]
theorem lk__law_digit : T.fn.lookup (Str.ofString "_law_digit") = some f__law_digit := by simp [T, List.lookup]
theorem lk__law_words : T.fn.lookup (Str.ofString "_law_words") = some f__law_words := by simp [T, List.lookup]
theorem lk__law_number : T.fn.lookup (Str.ofString "_law_number") = some f__law_number := by simp [T, List.lookup]
theorem lk__law_leaf : T.fn.lookup (Str.ofString "_law_leaf") = some f__law_leaf := by simp [T, List.lookup]
theorem lk__law_shares : T.fn.lookup (Str.ofString "_law_shares") = some f__law_shares := by simp [T, List.lookup]
theorem lk__law_less_one : T.fn.lookup (Str.ofString "_law_less_one") = some f__law_less_one := by simp [T, List.lookup]
theorem lk__law_ask : T.fn.lookup (Str.ofString "_law_ask") = some f__law_ask := by simp [T, List.lookup]
theorem lk__law_term : T.fn.lookup (Str.ofString "_law_term") = some f__law_term := by simp [T, List.lookup]
theorem lk__law_body : T.fn.lookup (Str.ofString "_law_body") = some f__law_body := by simp [T, List.lookup]
theorem lk__law_book : T.fn.lookup (Str.ofString "_law_book") = some f__law_book := by simp [T, List.lookup]
theorem lk__law_parts : T.fn.lookup (Str.ofString "_law_parts") = some f__law_parts := by simp [T, List.lookup]
theorem lk__law_places : T.fn.lookup (Str.ofString "_law_places") = some f__law_places := by simp [T, List.lookup]
theorem lk__law_at : T.fn.lookup (Str.ofString "_law_at") = some f__law_at := by simp [T, List.lookup]
theorem lk__law_lets : T.fn.lookup (Str.ofString "_law_lets") = some f__law_lets := by simp [T, List.lookup]
theorem lk__law_is_simple : T.fn.lookup (Str.ofString "_law_is_simple") = some f__law_is_simple := by simp [T, List.lookup]
theorem lk__law_words_right : T.fn.lookup (Str.ofString "_law_words_right") = some f__law_words_right := by simp [T, List.lookup]
theorem lk_law : T.fn.lookup (Str.ofString "law") = some f_law := by simp [T, List.lookup]
end Wn
end
section
/-! G1: the cells and the tapes. T is the law's table. -/
namespace Wn
open PySem

theorem call_of {wf k : Nat} {f : Str} {fn : Fn} (h : T.fn.lookup f = some fn) (args : List PV) (M : Store) : (ctx T wf (k + 1)).call f args M = runFn (ctx T wf k) fn args M := by
  simp only [ctx, h]

def cell (ns : List Int) (i : Nat) : Int := ns.getD i 0
theorem cell_at {wf k : Nat} (hk : 1 ≤ k) (ns : List Int) (i : Nat) (M : Store) : (ctx T wf k).call "_law_cell_at" [.fl ns, .int i] M = .ok (.int (cell ns i)) M := by
  obtain ⟨k, rfl⟩ := Nat.exists_eq_add_of_le' hk
  rw [call_of lk__law_cell_at]
  by_cases h : i < ns.length
  · have h1 : (i : Int) < (ns.length : Int) := by omega
    have h2 : ns[i]? = some ns[i] := List.getElem?_eq_getElem h
    simp [runFn, f__law_cell_at, h, ixOf, h2, cell, List.getD]
  · have h1 : ¬ (i : Int) < (ns.length : Int) := by omega
    have h2 : ns[i]? = none := List.getElem?_eq_none (by omega)
    simp [runFn, f__law_cell_at, h, ixOf, h2, cell, List.getD]

/-- a tape: a list of one number -/
def IsTape (M : Store) (t : Nat) : Prop := ∃ v : Int, M[t]? = some (.lst [.int v])

theorem digit {wf k : Nat} (hk : 1 ≤ k) {M : Store} {t : Nat} {v m : Int} (h : M[t]? = some (.lst [.int v])) (hm : 0 < m) (hm2 : m ≤ 1000000) :
    (ctx T wf k).call "_law_digit" [.loc t, .int m] M = .ok (.int (v % m)) (M.set t (.lst [.int (v / m)])) := by
  obtain ⟨k, rfl⟩ := Nat.exists_eq_add_of_le' hk
  rw [call_of lk__law_digit]
  have hm3 : m ≤ 1000000000000000000000000000000000000000000000000000000000000 := by omega
  simp [runFn, f__law_digit, h, ixOf, hm, hm3]
/-- what a digit comes to, without the tape's number -/
theorem digitE {wf k : Nat} (hk : 1 ≤ k) {M : Store} {t : Nat} {m : Int} (h : IsTape M t) (hm : 0 < m) (hm2 : m ≤ 1000000) :
    ∃ (d : Nat) (M' : Store), (ctx T wf k).call "_law_digit" [.loc t, .int m] M = .ok (.int d) M' ∧ (d : Int) < m ∧ Fr [t] M M' ∧ IsTape M' t := by
  obtain ⟨v, h⟩ := h
  refine ⟨(v % m).toNat, M.set t (.lst [.int (v / m)]), (digit hk h hm hm2).trans ?_, ?_, Fr.set (by simp), _, set_get h⟩
  · rw [Int.toNat_of_nonneg (Int.emod_nonneg _ (by omega))]
  · rw [Int.toNat_of_nonneg (Int.emod_nonneg _ (by omega))]; exact Int.emod_lt_of_pos _ hm

theorem tape {wf k : Nat} (hk : 2 ≤ k) (ns : List Int) (i : Nat) (hi : i ≤ 1000) (M : Store) : ∃ M', (ctx T wf k).call "_law_tape" [.fl ns, .int i] M = .ok (.loc M.length) M' ∧ Fr [] M M' ∧ IsTape M' M.length ∧ M'.length = M.length + 1 := by
  obtain ⟨k, rfl⟩ := Nat.exists_eq_add_of_le' hk
  rw [call_of lk__law_tape]
  have hc := cell_at (wf := wf) (k := k + 1) (by omega) ns i M
  generalize cell ns i = c at hc
  by_cases h0 : c = 0
  · refine ⟨M ++ [.lst [.int 0]], ?_, Fr.app, ⟨0, by simp⟩, by simp⟩
    simp [runFn, f__law_tape, hc, h0, big]
  by_cases h1 : 10 ^ 18 ≤ c
  · have h1' : 1000000000000000000 ≤ c := by simpa using h1
    refine ⟨M ++ [.lst [.int (c - 1000000000000000000)]], ?_, Fr.app, ⟨_, app_new⟩, by simp⟩
    simp [runFn, f__law_tape, hc, h0, big, h1']
  · have hb : inBound 20 = true := by decide
    have hr : rangeOf 0 20 = (List.range 20).map fun (k : Nat) => PV.int ((k : Int)) := by simp [rangeOf]
    have hp : (0 : Int) < 2305843009213693951 := by decide
    have hm1 : mulOk c 69621 = true := by simp [mulOk]
    have hm2 : mulOk 40014 i = true := by simp [mulOk]
    generalize hz : (c * 69621 + 40014 * (i : Int) + 17) % 2305843009213693951 = z
    have hz0 : 0 ≤ z ∧ z < 2305843009213693951 := by
      rw [← hz]; exact ⟨Int.emod_nonneg _ (by decide), Int.emod_lt_of_pos _ hp⟩
    let P : List PV → Env → Store → Prop := fun xs E M1 => M1 = M ∧ (∀ x ∈ xs, ∃ j : Nat, x = .int j) ∧ ∃ (one found : Int) (o : Option PV), E = [some (.fl ns), some (.int i), some (.int c), some (.int 2305843009213693951), some (.int one), some (.int found), o] ∧ 0 ≤ one ∧ one < 2305843009213693951
    have hL := forGo_run (w := none) (step := forStep (ctx T wf (k + 1)) (.nm 6) b1__law_tape) P (fun _ _ _ _ => rfl) (by
      rintro x xs E M1 ⟨rfl, hx, one, found, o, rfl, h2, h3⟩
      obtain ⟨j, rfl⟩ := hx x (List.mem_cons_self ..)
      have e1 : mulOk one one = true := by simp [mulOk]; omega
      have e2 : mulOk 40692 (j : Int) = true := by simp [mulOk]
      have e3 : mulOk found 2305843009213693951 = true := by simp [mulOk]
      refine ⟨[some (.fl ns), some (.int i), some (.int c), some (.int 2305843009213693951), some (.int ((one * one + 40692 * (j : Int) + c + 7) % 2305843009213693951)), some (.int (found * 2305843009213693951 + ((one * one + 40692 * (j : Int) + c + 7) % 2305843009213693951))), some (.int j)], M1, ?_, rfl, fun y hy => hx y (List.mem_cons_of_mem _ hy), ((one * one + 40692 * (j : Int) + c + 7) % 2305843009213693951), _, _, rfl, Int.emod_nonneg _ (by decide), Int.emod_lt_of_pos _ hp⟩
      simp [forStep, b1__law_tape, setTg, e1, e2, e3])
    obtain ⟨E', M', e, rfl, _, one, found, o, rfl, _⟩ := hL (rangeOf 0 20) [some (.fl ns), some (.int i), some (.int c), some (.int 2305843009213693951), some (.int z), some (.int z), none] M ⟨rfl, by
      rw [hr]; intro x hx; simp at hx; obtain ⟨j, _, rfl⟩ := hx; exact ⟨j, rfl⟩, z, z, none, rfl, hz0⟩
    refine ⟨M' ++ [.lst [.int found]], ?_, Fr.app, ⟨_, app_new⟩, by simp⟩
    have h1' : ¬ (1000000000000000000 ≤ c) := by simpa using h1
    simp [runFn, f__law_tape, hc, h0, big, h1', hb, hm1, hm2, hz]
    rw [e]
    simp [big]
end Wn
end
section
/-! G2: words. -/
namespace Wn
open PySem

theorem rangeOf_nat (n : Nat) : rangeOf 0 (n : Int) = (List.range n).map fun (k : Nat) => PV.int (k : Int) := by simp [rangeOf]
theorem inBound_nat {n : Nat} (h : n ≤ 1000000) : inBound (n : Int) = true := by
  rw [inBound_iff]; omega

def outs : List Str := ["let", "be", "in", "tell", "if", "then", "else", "home"]
/-- a word -/
def isW (x : Str) : Bool := decide (1 ≤ x.cps.toList.length) && decide (x.cps.toList.length ≤ 8) && x.cps.toList.all (fun c => decide (97 ≤ c) && decide (c ≤ 122)) && !(outs.contains x)

def lett (j : Nat) : Str := ⟨#[97 + j]⟩
def ends (e : Nat) : Str := ["", "a", "omelons"].getD e ""
def wd0 (turn e k : Nat) : Str := lett ((turn + k) % 26) ++ ends e
def wd1 (turn k : Nat) : Str := ⟨(List.replicate (1 + k % 8) (97 + (turn + k / 8) % 26)).toArray⟩
def wds : List Str := ["give", "ask", "post", "plus", "less", "name", "number", "to", "as", "f", "x", "aq", "bq", "lets", "ifs", "ina", "homes", "q"]
def wd2 (turn k : Nat) : Str := wds.getD ((turn + k) % 18) ""
def fine (ws : List Str) : Prop := ws.Nodup ∧ ∀ x ∈ ws, isW x = true
instance (ws : List Str) : Decidable (fine ws) := inferInstanceAs (Decidable (_ ∧ _))

/-! the same by the signs' numbers, for the kernel -/
def eqL : List Nat → List Nat → Bool
  | [], [] => true
  | a :: as, b :: bs => Nat.beq a b && eqL as bs
  | _, _ => false
theorem eqL_refl : ∀ a : List Nat, eqL a a = true
  | [] => rfl
  | a :: as => by simp [eqL, eqL_refl as]
def outL : List (List Nat) := outs.map fun x => x.cps.toList
def isWL (l : List Nat) : Bool := Nat.ble 1 l.length && Nat.ble l.length 8 && l.all (fun c => Nat.ble 97 c && Nat.ble c 122) && !(outL.any (eqL l))
def nodupL : List (List Nat) → Bool
  | [] => true
  | x :: xs => !(xs.any (eqL x)) && nodupL xs
theorem nodup_of : ∀ {ws : List Str}, nodupL (ws.map fun x => x.cps.toList) = true → ws.Nodup
  | [], _ => List.nodup_nil
  | x :: xs, h => by
    simp only [List.map_cons, nodupL, Bool.and_eq_true, Bool.not_eq_true'] at h
    refine List.nodup_cons.2 ⟨fun hx => ?_, nodup_of h.2⟩
    have : (xs.map fun x => x.cps.toList).any (eqL x.cps.toList) = true := List.any_eq_true.2 ⟨_, List.mem_map.2 ⟨x, hx, rfl⟩, eqL_refl _⟩
    rw [this] at h; exact absurd h.1 (by decide)
theorem isW_of {x : Str} (h : isWL x.cps.toList = true) : isW x = true := by
  simp only [isWL, Bool.and_eq_true, Bool.not_eq_true', List.all_eq_true] at h
  simp only [isW, Bool.and_eq_true, decide_eq_true_eq, Bool.not_eq_true', List.all_eq_true]
  refine ⟨⟨⟨Nat.le_of_ble_eq_true h.1.1.1, Nat.le_of_ble_eq_true h.1.1.2⟩, fun c hc => ⟨Nat.le_of_ble_eq_true (h.1.2 c hc).1, Nat.le_of_ble_eq_true (h.1.2 c hc).2⟩⟩, ?_⟩
  cases hc : outs.contains x with
  | false => rfl
  | true =>
    have hm : x ∈ outs := by simpa using hc
    have : outL.any (eqL x.cps.toList) = true := List.any_eq_true.2 ⟨_, List.mem_map.2 ⟨x, hm, rfl⟩, eqL_refl _⟩
    rw [this] at h; exact absurd h.2 (by decide)
def fineL (ws : List Str) : Bool := nodupL (ws.map fun x => x.cps.toList) && ws.all fun x => isWL x.cps.toList
theorem fine_of {ws : List Str} (h : fineL ws = true) : fine ws := by
  simp only [fineL, Bool.and_eq_true, List.all_eq_true] at h
  exact ⟨nodup_of h.1, fun x hx => isW_of (h.2 x hx)⟩
theorem fine0 {turn e : Nat} (ht : turn < 26) (he : e < 3) : fine ((List.range 16).map (wd0 turn e)) := by
  have h : ∀ turn < 26, ∀ e < 3, fineL ((List.range 16).map (wd0 turn e)) = true := by decide +kernel
  exact fine_of (h turn ht e he)
theorem fine1 {turn : Nat} (ht : turn < 26) : fine ((List.range 16).map (wd1 turn)) := by
  have h : ∀ turn < 26, fineL ((List.range 16).map (wd1 turn)) = true := by decide +kernel
  exact fine_of (h turn ht)
theorem fine2 {turn : Nat} (ht : turn < 26) : fine ((List.range 16).map (wd2 turn)) := by
  have h : ∀ turn < 26, fineL ((List.range 16).map (wd2 turn)) = true := by decide +kernel
  exact fine_of (h turn ht)
theorem fine_le {f : Nat → Str} {n : Nat} (hn : n ≤ 16) (h : fine ((List.range 16).map f)) : fine ((List.range n).map f) := by
  have hs : ((List.range n).map f).Sublist ((List.range 16).map f) := (List.range_sublist.2 hn).map f
  exact ⟨h.1.sublist hs, fun x hx => h.2 x (hs.subset hx)⟩

theorem abc : (Str.ofString "abcdefghijklmnopqrstuvwxyz").cps.toList = (List.range 26).map (97 + ·) := by decide +kernel
theorem abc_len : (Str.ofString "abcdefghijklmnopqrstuvwxyz").length = 26 := by decide +kernel
theorem abc_idx (M : Store) {j : Nat} (h : j < 26) : doIdx M (.str "abcdefghijklmnopqrstuvwxyz") (.int (j : Int)) = some (.str (lett j)) := by
  rw [doIdx_str, abc, abc_len, if_pos (by decide)]
  rw [List.length_map, List.length_range, ixOf_nat h]
  simp [lett, h]
theorem len_ofString (s : String) : (Str.ofString s).length = s.toList.length := by
  rw [Str.ofString_eq_toList]; simp [Str.length]
theorem str_len_app (a b : Str) : (a ++ b).length = a.length + b.length := by
  show (a.cps ++ b.cps).size = _
  simp [Str.length]

theorem words0 {wf k : Nat} {M M1 M2 : Store} {t n u : Nat} (hn : n ≤ 16) (lu : u < 26)
    (e1 : (ctx T wf (k + 1)).call "_law_digit" [.loc t, .int 3] M = .ok (.int 0) M1) (e2 : (ctx T wf (k + 1)).call "_law_digit" [.loc t, .int 26] M1 = .ok (.int u) M2)
    (f1 : Fr [t] M M1) (f2 : Fr [t] M1 M2) (t2 : IsTape M2 t) :
    ∃ (ws : List Str) (M' : Store) (L : Nat), runFn (ctx T wf (k + 1)) f__law_words [.loc t, .int n] M = .ok (.loc L) M' ∧ M'[L]? = some (.lst (ws.map .str)) ∧ ws.length = n ∧ fine ws ∧ Fr [t] M M' ∧ IsTape M' t ∧ M.length ≤ L := by
  have hr := rangeOf_nat n
  have hb : inBound (n : Int) = true := inBound_nat (by omega)
  obtain ⟨e, M3, e3, l3, f3, t3⟩ := digitE (wf := wf) (k := k + 1) (M := M2 ++ [.lst [.str "", .str "a", .str "omelons"]]) (t := t) (by omega) (by obtain ⟨v, h⟩ := t2; exact ⟨v, app_get h⟩) (m := 3) (by decide) (by decide)
  have le : e < 3 := by omega
  have g3 : M3[M2.length]? = some (.lst [.str "", .str "a", .str "omelons"]) := f3.get app_new (by
    obtain ⟨v, h⟩ := t2
    have := lt_of_get h
    simp; omega)
  have hL := lcGo_map (w := none) (M := M3) (step := lcTurn (ctx T wf (k + 1)) l1__law_words (.nm 6) .none [some (.loc t), some (.int n), some (.str "abcdefghijklmnopqrstuvwxyz"), some (.int 0), some (.int u), some (.str (ends e)), none, none]) (fun x => match x with | .int j => .str (wd0 u e j.toNat) | x => x) rfl (rangeOf 0 n) [] (by simp [hr]; simp [big]; omega) (by
    intro x hx
    rw [hr] at hx
    simp only [List.mem_map, List.mem_range] at hx
    obtain ⟨j, hj, rfl⟩ := hx
    have hi := abc_idx M3 (j := (u + j) % 26) (Nat.mod_lt _ (by decide))
    have hl : (lett ((u + j) % 26)).length + (ends e).length ≤ big := by
      have h1 : (lett ((u + j) % 26)).length = 1 := rfl
      have h2 : ∀ e < 3, (ends e).length ≤ 8 := by decide +kernel
      have := h2 e le
      simp [big]; omega
    have hc : ((u : Int) + (j : Int)) % 26 = (((u + j) % 26 : Nat) : Int) := by omega
    have hw : lett ((u + j) % 26) ++ ends e = wd0 u e j := rfl
    generalize (u + j) % 26 = q at hc hi hl hw
    simp [lcTurn, setTg, l1__law_words, hc, hi, hl, hw, -doIdx_str])
  simp only [List.nil_append] at hL
  have hm : (rangeOf 0 n).map (fun x => match x with | .int j => .str (wd0 u e j.toNat) | x => x) = ((List.range n).map (wd0 u e)).map PV.str := by
    rw [hr]; simp [List.map_map, Function.comp_def]
  rw [hm] at hL
  refine ⟨(List.range n).map (wd0 u e), M3 ++ [.lst (((List.range n).map (wd0 u e)).map .str)], M3.length, ?_, app_new, by simp, fine_le hn (fine0 lu le), ((f1.trans f2).trans (Fr.app.trans f3)).trans Fr.app, ?_, ?_⟩
  · have hix : [PV.str "", PV.str "a", PV.str "omelons"][e]? = some (.str (ends e)) := by
      have : e = 0 ∨ e = 1 ∨ e = 2 := by omega
      rcases this with rfl | rfl | rfl <;> rfl
    have hi2 : ixOf 3 (e : Int) = some e := ixOf_nat le
    simp [runFn, f__law_words, e1, e2, big, e3, g3, hi2, hix, hb]
    rw [hL]
    simp
  · obtain ⟨v, h⟩ := t3; exact ⟨v, app_get h⟩
  · exact Nat.le_trans (f1.trans f2).1 (Nat.le_trans (by simp) f3.1)
theorem words1 {wf k : Nat} {M M1 M2 : Store} {t n u : Nat} (hn : n ≤ 16) (lu : u < 26)
    (e1 : (ctx T wf (k + 1)).call "_law_digit" [.loc t, .int 3] M = .ok (.int 1) M1) (e2 : (ctx T wf (k + 1)).call "_law_digit" [.loc t, .int 26] M1 = .ok (.int u) M2)
    (f1 : Fr [t] M M1) (f2 : Fr [t] M1 M2) (t2 : IsTape M2 t) :
    ∃ (ws : List Str) (M' : Store) (L : Nat), runFn (ctx T wf (k + 1)) f__law_words [.loc t, .int n] M = .ok (.loc L) M' ∧ M'[L]? = some (.lst (ws.map .str)) ∧ ws.length = n ∧ fine ws ∧ Fr [t] M M' ∧ IsTape M' t ∧ M.length ≤ L := by
  have hr := rangeOf_nat n
  have hb : inBound (n : Int) = true := inBound_nat (by omega)
  have hL := lcGo_map (w := none) (M := M2) (step := lcTurn (ctx T wf (k + 1)) l2__law_words (.nm 6) .none [some (.loc t), some (.int n), some (.str "abcdefghijklmnopqrstuvwxyz"), some (.int 1), some (.int u), none, none, none]) (fun x => match x with | .int j => .str (wd1 u j.toNat) | x => x) rfl (rangeOf 0 n) [] (by simp [hr]; simp [big]; omega) (by
    intro x hx
    rw [hr] at hx
    simp only [List.mem_map, List.mem_range] at hx
    obtain ⟨j, hj, rfl⟩ := hx
    have hi := abc_idx M2 (j := (u + j / 8) % 26) (Nat.mod_lt _ (by decide))
    have hc : ((u : Int) + (j : Int) / 8) % 26 = (((u + j / 8) % 26 : Nat) : Int) := by omega
    have hl : (lett ((u + j / 8) % 26)).length ≤ 1000 := by
      have h1 : (lett ((u + j / 8) % 26)).length = 1 := rfl
      omega
    have hq : (1 + (j : Int) % 8) < 1000 ∧ -1000 < (1 + (j : Int) % 8) := by omega
    have hz : (1 + (j : Int) % 8).toNat = 1 + j % 8 := by omega
    have hf : ∀ m c : Nat, (List.replicate m [c]).flatten = List.replicate m c := fun m c => by
      induction m with
      | zero => rfl
      | succ m ih => simp [List.replicate_succ, ih]
    have hw : (⟨(List.replicate (1 + j % 8) (lett ((u + j / 8) % 26)).cps.toList).flatten.toArray⟩ : Str) = wd1 u j := by
      simp [lett, hf, wd1]
    generalize (u + j / 8) % 26 = q at hc hi hl hw
    simp [lcTurn, setTg, l2__law_words, hc, hi, hl, hq, hz, hw, -doIdx_str])
  simp only [List.nil_append] at hL
  have hm : (rangeOf 0 n).map (fun x => match x with | .int j => .str (wd1 u j.toNat) | x => x) = ((List.range n).map (wd1 u)).map PV.str := by
    rw [hr]; simp [List.map_map, Function.comp_def]
  rw [hm] at hL
  refine ⟨(List.range n).map (wd1 u), M2 ++ [.lst (((List.range n).map (wd1 u)).map .str)], M2.length, ?_, app_new, by simp, fine_le hn (fine1 lu), (f1.trans f2).trans Fr.app, ?_, (f1.trans f2).1⟩
  · simp [runFn, f__law_words, e1, e2, hb]
    rw [hL]
    simp
  · obtain ⟨v, h⟩ := t2; exact ⟨v, app_get h⟩
theorem words2 {wf k : Nat} {M M1 M2 : Store} {t n u : Nat} (hn : n ≤ 16) (lu : u < 26)
    (e1 : (ctx T wf (k + 1)).call "_law_digit" [.loc t, .int 3] M = .ok (.int 2) M1) (e2 : (ctx T wf (k + 1)).call "_law_digit" [.loc t, .int 26] M1 = .ok (.int u) M2)
    (f1 : Fr [t] M M1) (f2 : Fr [t] M1 M2) (t2 : IsTape M2 t) :
    ∃ (ws : List Str) (M' : Store) (L : Nat), runFn (ctx T wf (k + 1)) f__law_words [.loc t, .int n] M = .ok (.loc L) M' ∧ M'[L]? = some (.lst (ws.map .str)) ∧ ws.length = n ∧ fine ws ∧ Fr [t] M M' ∧ IsTape M' t ∧ M.length ≤ L := by
  have hr := rangeOf_nat n
  have hb : inBound (n : Int) = true := inBound_nat (by omega)
  let A : MO := .lst [.str "give", .str "ask", .str "post", .str "plus", .str "less", .str "name", .str "number", .str "to", .str "as", .str "f", .str "x"]
  let B : MO := .lst [.str "aq", .str "bq", .str "lets", .str "ifs", .str "ina", .str "homes", .str "q"]
  let M3 : Store := ((M2 ++ [A]) ++ [B]) ++ [.lst (wds.map .str)]
  have hL3 : M3[M2.length + 2]? = some (.lst (wds.map .str)) := by
    have : M2.length + 2 = ((M2 ++ [A]) ++ [B]).length := by simp
    rw [this]; exact app_new
  have hL := lcGo_map (w := none) (M := M3) (step := lcTurn (ctx T wf (k + 1)) l3__law_words (.nm 6) .none [some (.loc t), some (.int n), some (.str "abcdefghijklmnopqrstuvwxyz"), some (.int 2), some (.int u), none, none, some (.loc (M2.length + 2))]) (fun x => match x with | .int j => .str (wd2 u j.toNat) | x => x) rfl (rangeOf 0 n) [] (by simp [hr]; simp [big]; omega) (by
    intro x hx
    rw [hr] at hx
    simp only [List.mem_map, List.mem_range] at hx
    obtain ⟨j, hj, rfl⟩ := hx
    have hc : ((u : Int) + (j : Int)) % 18 = (((u + j) % 18 : Nat) : Int) := by omega
    have hi : ixOf (wds.map PV.str).length (((u + j) % 18 : Nat) : Int) = some ((u + j) % 18) := ixOf_nat (by
      have : (wds.map PV.str).length = 18 := rfl
      omega)
    have hg : (wds.map PV.str)[(u + j) % 18]? = some (.str (wd2 u j)) := by
      have h18 : (u + j) % 18 < 18 := Nat.mod_lt _ (by decide)
      simp only [wd2]
      generalize (u + j) % 18 = q at h18
      simp [List.getElem?_map, List.getD, List.getElem?_eq_getElem (l := wds) (i := q) h18]
    generalize (u + j) % 18 = q at hc hi hg
    simp [lcTurn, setTg, l3__law_words, hL3, hc, hi, hg, -List.getElem?_map, -List.length_map])
  simp only [List.nil_append] at hL
  have hm : (rangeOf 0 n).map (fun x => match x with | .int j => .str (wd2 u j.toNat) | x => x) = ((List.range n).map (wd2 u)).map PV.str := by
    rw [hr]; simp [List.map_map, Function.comp_def]
  rw [hm] at hL
  have f3 : Fr [t] M2 M3 := Fr.app.trans (Fr.app.trans Fr.app)
  refine ⟨(List.range n).map (wd2 u), M3 ++ [.lst (((List.range n).map (wd2 u)).map .str)], M3.length, ?_, app_new, by simp, fine_le hn (fine2 lu), ((f1.trans f2).trans f3).trans Fr.app, ?_, Nat.le_trans (f1.trans f2).1 f3.1⟩
  · have hadd : doBin ((M2 ++ [A]) ++ [B]) .add (.loc M2.length) (.loc (M2.length + 1)) = .ok (.loc (M2.length + 2)) M3 := by
      rw [doBin_add_loc (xs := [.str "give", .str "ask", .str "post", .str "plus", .str "less", .str "name", .str "number", .str "to", .str "as", .str "f", .str "x"]) (ys := [.str "aq", .str "bq", .str "lets", .str "ifs", .str "ina", .str "homes", .str "q"])]
      · simp [M3, wds]
      · exact app_get app_new
      · have : M2.length + 1 = (M2 ++ [A]).length := by simp
        rw [this]; exact app_new
      · simp [big]
    simp only [A, B, List.append_assoc, List.cons_append, List.nil_append] at hadd
    simp [runFn, f__law_words, e1, e2, hb, big, hadd]
    rw [hL]
    simp
  · obtain ⟨v, h⟩ := t2; exact ⟨v, app_get (app_get (app_get (app_get h)))⟩
theorem words {wf k : Nat} (hk : 2 ≤ k) {M : Store} {t : Nat} (ht : IsTape M t) {n : Nat} (hn : n ≤ 16) :
    ∃ (ws : List Str) (M' : Store) (L : Nat), (ctx T wf k).call "_law_words" [.loc t, .int n] M = .ok (.loc L) M' ∧ M'[L]? = some (.lst (ws.map .str)) ∧ ws.length = n ∧ fine ws ∧ Fr [t] M M' ∧ IsTape M' t ∧ M.length ≤ L := by
  obtain ⟨k, rfl⟩ := Nat.exists_eq_add_of_le' hk
  rw [call_of lk__law_words]
  obtain ⟨d, M1, e1, l1, f1, t1⟩ := digitE (wf := wf) (k := k + 1) (by omega) ht (m := 3) (by decide) (by decide)
  obtain ⟨u, M2, e2, l2, f2, t2⟩ := digitE (wf := wf) (k := k + 1) (by omega) t1 (m := 26) (by decide) (by decide)
  have lu : u < 26 := by omega
  have hd : d = 0 ∨ d = 1 ∨ d = 2 := by omega
  rcases hd with rfl | rfl | rfl
  · exact words0 hn lu e1 e2 f1 f2 t2
  · exact words1 hn lu e1 e2 f1 f2 t2
  · exact words2 hn lu e1 e2 f1 f2 t2
end Wn
end
section
/-! G3: terms, plain; numbers, leaves, shares. -/
namespace Wn
open PySem

/-- what a term is at its head -/
inductive Kd where
  | num (n : Nat)
  | nam (x : Str)
  | plus
  | less
  | tell
  | lett (x : Str)
  | iff
  | ask (f : Str)
inductive Tm where
  | nd (k : Kd) (ts : List Tm)

def Kd.pv : Kd → List PV → PV
  | .num n, _ => .tup [.str "number", .int n]
  | .nam x, _ => .tup [.str "name", .str x]
  | .plus, ps => .tup (.str "plus" :: ps)
  | .less, ps => .tup (.str "less" :: ps)
  | .tell, ps => .tup (.str "tell" :: ps)
  | .lett x, ps => .tup (.str "let" :: .str x :: ps)
  | .iff, ps => .tup (.str "if" :: ps)
  | .ask f, ps => .tup [.str "ask", .str f, .tup ps]
mutual
def Tm.pv : Tm → PV
  | .nd k ts => k.pv (Tm.pvs ts)
def Tm.pvs : List Tm → List PV
  | [] => []
  | t :: ts => t.pv :: Tm.pvs ts
end
theorem Tm.pvs_map : ∀ ts : List Tm, Tm.pvs ts = ts.map Tm.pv
  | [] => rfl
  | t :: ts => by simp [Tm.pvs, Tm.pvs_map ts]
mutual
def Tm.size : Tm → Nat
  | .nd _ ts => 1 + Tm.sizes ts
def Tm.sizes : List Tm → Nat
  | [] => 0
  | t :: ts => t.size + Tm.sizes ts
end
mutual
/-- how many are within one another -/
def Tm.deep : Tm → Nat
  | .nd _ ts => 1 + Tm.deeps ts
def Tm.deeps : List Tm → Nat
  | [] => 0
  | t :: ts => max t.deep (Tm.deeps ts)
end
def Kd.lets : Kd → List Str
  | .lett x => [x]
  | _ => []
mutual
def Tm.lets : Tm → List Str
  | .nd k ts => k.lets ++ Tm.letss ts
def Tm.letss : List Tm → List Str
  | [] => []
  | t :: ts => t.lets ++ Tm.letss ts
end
/-- how many parts are due -/
def Kd.due (H : Str → Option Nat) : Kd → Option Nat
  | .num _ => some 0
  | .nam _ => some 0
  | .plus => some 2
  | .less => some 2
  | .tell => some 1
  | .lett _ => some 2
  | .iff => some 3
  | .ask f => H f
def Kd.fits (A : List Str) : Kd → Prop
  | .num n => n < 1000
  | .nam x => x ∈ A
  | .lett x => x ∉ A
  | _ => True
/-- what is around the part of this number -/
def Kd.around (A : List Str) : Kd → Nat → List Str
  | .lett x, 1 => A ++ [x]
  | _, _ => A
mutual
/-- well made: H tells how many each errand is asked with, A is around -/
def Tm.ok (H : Str → Option Nat) : List Str → Tm → Prop
  | A, .nd k ts => k.due H = some ts.length ∧ k.fits A ∧ Tm.oks H A k 0 ts
def Tm.oks (H : Str → Option Nat) : List Str → Kd → Nat → List Tm → Prop
  | _, _, _, [] => True
  | A, k, i, t :: ts => Tm.ok H (k.around A i) t ∧ Tm.oks H A k (i + 1) ts
end
theorem Tm.oks_of {H : Str → Option Nat} {A : List Str} {k : Kd} (hk : ∀ i, k.around A i = A) : ∀ {ts : List Tm} {i : Nat}, (∀ t ∈ ts, t.ok H A) → Tm.oks H A k i ts
  | [], _, _ => by simp [Tm.oks]
  | t :: ts, i, h => by
    simp only [Tm.oks, hk]
    exact ⟨h t (List.mem_cons_self ..), Tm.oks_of hk fun u hu => h u (List.mem_cons_of_mem _ hu)⟩
end Wn
end
section
/-! G4: numbers, leaves, shares. -/
namespace Wn
open PySem

theorem IsTape.app {M : Store} {t : Nat} {os : List MO} (h : IsTape M t) : IsTape (M ++ os) t := by
  obtain ⟨v, h⟩ := h; exact ⟨v, app_get h⟩
theorem IsTape.lt {M : Store} {t : Nat} (h : IsTape M t) : t < M.length := by
  obtain ⟨v, h⟩ := h; exact lt_of_get h
theorem IsTape.fr {S : List Nat} {M M' : Store} {t : Nat} (h : IsTape M t) (f : Fr S M M') (ht : t ∉ S) : IsTape M' t := by
  obtain ⟨v, h⟩ := h; exact ⟨v, f.get h ht⟩

theorem number {wf k : Nat} (hk : 2 ≤ k) {M : Store} {t : Nat} (ht : IsTape M t) :
    ∃ (n : Nat) (M' : Store), (ctx T wf k).call "_law_number" [.loc t] M = .ok (.int n) M' ∧ n < 1000 ∧ Fr [t] M M' ∧ IsTape M' t := by
  obtain ⟨k, rfl⟩ := Nat.exists_eq_add_of_le' hk
  rw [call_of lk__law_number]
  obtain ⟨d, M1, e1, l1, f1, t1⟩ := digitE (wf := wf) (k := k + 1) (by omega) ht (m := 6) (by decide) (by decide)
  by_cases h5 : d = 5
  · subst h5
    obtain ⟨n, M2, e2, l2, f2, t2⟩ := digitE (wf := wf) (k := k + 1) (by omega) t1 (m := 1000) (by decide) (by decide)
    refine ⟨n, M2, ?_, by omega, f1.trans f2, t2⟩
    simp [runFn, f__law_number, e1, e2]
  · have hd : d < 5 := by omega
    have hi : ixOf 5 (d : Int) = some d := ixOf_nat hd
    have hg : [PV.int 0, .int 1, .int 1, .int 2, .int 3][d]? = some (.int (([0, 1, 1, 2, 3].getD d 0 : Nat) : Int)) := by
      have : d = 0 ∨ d = 1 ∨ d = 2 ∨ d = 3 ∨ d = 4 := by omega
      rcases this with rfl | rfl | rfl | rfl | rfl <;> rfl
    have h5' : ¬ (d : Int) = 5 := by omega
    refine ⟨[0, 1, 1, 2, 3].getD d 0, M1 ++ [.lst [.int 0, .int 1, .int 1, .int 2, .int 3]], ?_, ?_, f1.trans Fr.app, t1.app⟩
    · simp only [runFn, f__law_number]
      simp [e1, h5', big, hi, hg, -List.getD_eq_getElem?_getD]
    · have : d = 0 ∨ d = 1 ∨ d = 2 ∨ d = 3 ∨ d = 4 := by omega
      rcases this with rfl | rfl | rfl | rfl | rfl <;> decide

theorem doEq_strs_nil {M : Store} {a b : Nat} {xs : List Str} (h : M[a]? = some (.lst (xs.map .str))) (g : M[b]? = some (.lst [])) : doEq M (.loc a) (.loc b) = some xs.isEmpty := by
  rw [doEq_nil h g (mapM_str M 2 xs)]; simp

theorem leaf {wf k : Nat} (hk : 3 ≤ k) {M : Store} {t a : Nat} {A : List Str} {kn : PV} (H : Str → Option Nat) (ht : IsTape M t) (ha : M[a]? = some (.lst (A.map .str))) (hat : a ≠ t) (hA : A.length ≤ 1000) :
    ∃ (tm : Tm) (M' : Store), (ctx T wf k).call "_law_leaf" [.loc t, kn, .loc a] M = .ok tm.pv M' ∧ tm.ok H A ∧ tm.size = 1 ∧ tm.deep = 1 ∧ tm.lets = [] ∧ Fr [t] M M' ∧ IsTape M' t := by
  obtain ⟨k, rfl⟩ := Nat.exists_eq_add_of_le' hk
  rw [call_of lk__law_leaf]
  have ha1 : (M ++ [MO.lst []])[a]? = some (.lst (A.map .str)) := app_get ha
  have hq := doEq_strs_nil ha1 app_new
  by_cases hA0 : A = []
  · obtain ⟨n, M2, e2, l2, f2, t2⟩ := number (wf := wf) (k := k + 2) (by omega) (ht.app (os := [.lst []]))
    refine ⟨.nd (.num n) [], M2, ?_, by simp [Tm.ok, Tm.oks, Kd.due, Kd.fits, Kd.around, l2], by simp [Tm.size, Tm.sizes], by simp [Tm.deep, Tm.deeps], by simp [Tm.lets, Tm.letss, Kd.lets], Fr.app.trans f2, t2⟩
    subst hA0
    simp [runFn, f__law_leaf, hq, e2, big, Tm.pv, Kd.pv]
  · obtain ⟨d, M1, e1, l1, f1, t1⟩ := digitE (wf := wf) (k := k + 2) (by omega) (ht.app (os := [.lst []])) (m := 3) (by decide) (by decide)
    have hE : A.isEmpty = false := by cases A <;> simp_all
    by_cases hd : d = 0
    · subst hd
      obtain ⟨n, M2, e2, l2, f2, t2⟩ := number (wf := wf) (k := k + 2) (by omega) t1
      refine ⟨.nd (.num n) [], M2, ?_, by simp [Tm.ok, Tm.oks, Kd.due, Kd.fits, Kd.around, l2], by simp [Tm.size, Tm.sizes], by simp [Tm.deep, Tm.deeps], by simp [Tm.lets, Tm.letss, Kd.lets], Fr.app.trans (f1.trans f2), t2⟩
      simp [runFn, f__law_leaf, hq, hE, e1, e2, big, Tm.pv, Kd.pv]
    · have hp : 0 < A.length := by cases A <;> simp_all
      have ha2 : M1[a]? = some (.lst (A.map .str)) := f1.get ha1 (by simp [hat])
      obtain ⟨j, M2, e2, l2, f2, t2⟩ := digitE (wf := wf) (k := k + 2) (by omega) t1 (m := (A.length : Int)) (by omega) (by omega)
      have lj : j < A.length := by omega
      have ha3 : M2[a]? = some (.lst (A.map .str)) := f2.get ha2 (by simp [hat])
      have hlen : doBi M1 .len [.loc a] = .ok (.int A.length) M1 := by rw [doBi_len_lst ha2]; simp
      have hi : ixOf A.length (j : Int) = some j := ixOf_nat lj
      have hd' : (0 : Int) < d := by omega
      have hd2 : 0 < d := by omega
      refine ⟨.nd (.nam A[j]) [], M2, ?_, by simp [Tm.ok, Tm.oks, Kd.due, Kd.fits, Kd.around], by simp [Tm.size, Tm.sizes], by simp [Tm.deep, Tm.deeps], by simp [Tm.lets, Tm.letss, Kd.lets], Fr.app.trans (f1.trans f2), t2⟩
      simp [runFn, f__law_leaf, hq, hE, e1, hlen, e2, ha3, hi, lj, hd2, big, Tm.pv, Kd.pv]

theorem less_one {wf k : Nat} (hk : 1 ≤ k) {M : Store} {a : Nat} {A : List Str} (H : Str → Option Nat) (ha : M[a]? = some (.lst (A.map .str))) :
    ∃ (tm : Tm) (M' : Store), (ctx T wf k).call "_law_less_one" [.loc a] M = .ok tm.pv M' ∧ tm.ok H A ∧ tm.size ≤ 3 ∧ tm.deep ≤ 2 ∧ tm.lets = [] ∧ Fr [] M M' := by
  obtain ⟨k, rfl⟩ := Nat.exists_eq_add_of_le' hk
  rw [call_of lk__law_less_one]
  have ha1 : (M ++ [MO.lst []])[a]? = some (.lst (A.map .str)) := app_get ha
  have hq := doEq_strs_nil ha1 app_new
  cases A with
  | nil =>
    refine ⟨.nd (.num 0) [], M ++ [.lst []], ?_, by simp [Tm.ok, Tm.oks, Kd.due, Kd.fits, Kd.around], by simp [Tm.size, Tm.sizes], by simp [Tm.deep, Tm.deeps], by simp [Tm.lets, Tm.letss, Kd.lets], Fr.app⟩
    simp [runFn, f__law_less_one, hq, big, Tm.pv, Kd.pv]
  | cons x A =>
    refine ⟨.nd .less [.nd (.nam x) [], .nd (.num 1) []], M ++ [.lst []], ?_, by simp [Tm.ok, Tm.oks, Kd.due, Kd.fits, Kd.around], by simp [Tm.size, Tm.sizes], by simp [Tm.deep, Tm.deeps], by simp [Tm.lets, Tm.letss, Kd.lets], Fr.app⟩
    have hi : ixOf (A.length + 1) 0 = some 0 := ixOf_zero _
    simp only [List.map_cons] at ha1
    simp [runFn, f__law_less_one, hq, big, Tm.pv, Kd.pv, Tm.pvs, ha1]
end Wn
end
section
/-! G5: shares. -/
namespace Wn
open PySem

def nats (ss : List Nat) : List PV := ss.map fun (n : Nat) => PV.int (n : Int)
@[simp] theorem nats_length (ss : List Nat) : (nats ss).length = ss.length := by simp [nats]
theorem nats_get {ss : List Nat} {j : Nat} (h : j < ss.length) : (nats ss)[j]? = some (.int ((ss[j] : Nat) : Int)) := by
  simp [nats, h]
theorem nats_set (ss : List Nat) (j v : Nat) : (nats ss).set j (.int (v : Int)) = nats (ss.set j v) := by
  simp [nats]
theorem sum_set : ∀ {ss : List Nat} {j m : Nat} (h : j < ss.length), (ss.set j (ss[j] + m)).sum = ss.sum + m
  | s :: ss, 0, m, _ => by simp; omega
  | s :: ss, j + 1, m, h => by
    have := sum_set (ss := ss) (j := j) (m := m) (by simpa using h)
    simp; omega

theorem shares {wf k : Nat} (hk : 2 ≤ k) {M : Store} {t room many : Nat} (ht : IsTape M t) (hm : many ≤ room) (hr : room ≤ 1000) (hm2 : many ≤ 100) :
    ∃ (ss : List Nat) (M' : Store) (L : Nat), (ctx T wf k).call "_law_shares" [.loc t, .int room, .int many] M = .ok (.loc L) M' ∧ M'[L]? = some (.lst (nats ss)) ∧ ss.length = many ∧ (∀ x ∈ ss, 1 ≤ x) ∧ ss.sum ≤ room ∧ Fr [t] M M' ∧ IsTape M' t ∧ M.length ≤ L := by
  obtain ⟨k, rfl⟩ := Nat.exists_eq_add_of_le' hk
  rw [call_of lk__law_shares]
  have htl := ht.lt
  let L := M.length + 1
  let M0 : Store := (M ++ [.lst [.int 1]]) ++ [.lst (nats (List.replicate many 1))]
  have hb : inBound (many : Int) = true := inBound_nat (by omega)
  have h0 : doBin (M ++ [.lst [.int 1]]) .mul (.loc M.length) (.int (many : Int)) = .ok (.loc L) M0 := by
    rw [doBin_mul_loc (xs := [.int 1]) app_new ⟨by omega, by omega, by simp⟩]
    have hf : ∀ m : Nat, (List.replicate m [PV.int 1]).flatten = nats (List.replicate m 1) := fun m => by
      induction m with
      | zero => rfl
      | succ m ih => simp only [List.replicate_succ, List.flatten_cons, ih]; rfl
    simp [L, M0, hf]
  let P : List PV → Env → Store → Prop := fun xs E M1 => (∀ x ∈ xs, ∃ j : Nat, j < many ∧ x = .int j) ∧ ∃ (ss : List Nat) (left : Nat) (o5 o6 : Option PV), E = [some (.loc t), some (.int room), some (.int many), some (.loc L), some (.int left), o5, o6] ∧ M1[L]? = some (.lst (nats ss)) ∧ ss.length = many ∧ (∀ x ∈ ss, 1 ≤ x) ∧ ss.sum + left = room ∧ Fr [t] M M1 ∧ IsTape M1 t
  have hL := forGo_run (w := none) (step := forStep (ctx T wf (k + 1)) (.nm 5) b1__law_shares) P (fun _ _ _ _ => rfl) (by
    rintro x xs E M1 ⟨hx, ss, left, o5, o6, rfl, hl, h1, h2, h3, h4, h5⟩
    obtain ⟨j, hj, rfl⟩ := hx x (List.mem_cons_self ..)
    obtain ⟨d, M2, e2, l2, f2, t2⟩ := digitE (wf := wf) (k := k + 1) (by omega) h5 (m := (left : Int) + 1) (by omega) (by omega)
    have hl2 : M2[L]? = some (.lst (nats ss)) := f2.get hl (by simp [L]; omega)
    have hi : ixOf ss.length (j : Int) = some j := ixOf_nat (by omega)
    have hjs : j < ss.length := by omega
    have hg := nats_get hjs
    have hs : (nats ss).set j (.int (((ss[j] : Nat) : Int) + (d : Int))) = nats (ss.set j (ss[j] + d)) := by
      have := nats_set ss j (ss[j] + d)
      rw [← this]; simp
    have hz : (left : Int) - (d : Int) = ((left - d : Nat) : Int) := by omega
    refine ⟨[some (.loc t), some (.int room), some (.int many), some (.loc L), some (.int ((left - d : Nat) : Int)), some (.int j), some (.int d)], M2.set L (.lst (nats (ss.set j (ss[j] + d)))), ?_, fun y hy => hx y (List.mem_cons_of_mem _ hy), ss.set j (ss[j] + d), left - d, _, _, rfl, set_get hl2, by simp [h1], ?_, ?_, ?_, ?_⟩
    · generalize left - d = q at hz
      simp [forStep, setTg, b1__law_shares, e2, hl2, hi, hg, hs, hz]
    · intro y hy
      rcases List.mem_or_eq_of_mem_set hy with h | h
      · exact h2 y h
      · have := h2 _ (List.getElem_mem hjs); omega
    · rw [sum_set hjs]; omega
    · have hq : Fr [t] M M2 := h4.trans f2
      refine ⟨by have := hq.1; simp; omega, fun n hn hs => ?_⟩
      rw [set_get_ne (by simp [L]; omega)]
      exact hq.2 n hn hs
    · obtain ⟨v, h⟩ := t2
      exact ⟨v, by rw [set_get_ne (by simp [L]; omega)]; exact h⟩)
  have hlt : M.length + 1 = (M ++ [MO.lst [PV.int 1]]).length := by simp
  obtain ⟨E', M', e, _, ss, left, o5, o6, rfl, hl, h1, h2, h3, h4, h5⟩ := hL (rangeOf 0 many) [some (.loc t), some (.int room), some (.int many), some (.loc L), some (.int ((room - many : Nat) : Int)), none, none] M0 ⟨by
    rw [rangeOf_nat]; intro x hx; simp at hx; obtain ⟨j, hj, rfl⟩ := hx; exact ⟨j, hj, rfl⟩, List.replicate many 1, room - many, none, none, rfl, by simp only [L, M0]; rw [hlt]; exact app_new, by simp, by intro x hx; simp at hx; omega, by simp; omega, Fr.app.trans Fr.app, ht.app.app⟩
  refine ⟨ss, M', L, ?_, hl, h1, h2, by omega, h4, h5, by simp [L]⟩
  have hz : (room : Int) - (many : Int) = ((room - many : Nat) : Int) := by omega
  generalize room - many = q at hz e
  simp [runFn, f__law_shares, big, h0, hb, hz, e]
end Wn
end
section
/-! G6: asks and terms. -/
namespace Wn
open PySem

@[simp] theorem str_beq (a b : Str) : ((PV.str a == PV.str b) : Bool) = (a == b) := by
  rw [Bool.eq_iff_iff]; simp only [beq_iff_eq, PV.str.injEq]
def heads (HD : List (Str × Nat)) : List (PV × PV) := HD.map fun p => (.str p.1, .int (p.2 : Int))
theorem heads_lookup (f : Str) : ∀ HD : List (Str × Nat), (heads HD).lookup (.str f) = (HD.lookup f).map fun (n : Nat) => PV.int (n : Int)
  | [] => rfl
  | (g, n) :: HD => by
    have ih := heads_lookup f HD
    simp only [heads, List.map_cons, List.lookup_cons, str_beq] at ih ⊢
    cases h : f == g with
    | true => simp
    | false => simpa using ih

def knd (e h w : Nat) : List (PV × PV) := [(.str "errands", .loc e), (.str "heads", .loc h), (.str "words", .loc w)]
@[simp] theorem knd_e (e h w : Nat) : (knd e h w).lookup (.str "errands") = some (.loc e) := by simp [knd, List.lookup_cons]
@[simp] theorem knd_h (e h w : Nat) : (knd e h w).lookup (.str "heads") = some (.loc h) := by simp [knd, List.lookup_cons]
@[simp] theorem knd_w (e h w : Nat) : (knd e h w).lookup (.str "words") = some (.loc w) := by simp [knd, List.lookup_cons]
/-- what is known in an errand's making -/
structure Kn (t kn e h w : Nat) (ES : List Str) (HD : List (Str × Nat)) (ws : List Str) (M : Store) : Prop where
  tape : IsTape M t
  kd : M[kn]? = some (.dic (knd e h w))
  er : M[e]? = some (.lst (ES.map .str))
  hd : M[h]? = some (.dic (heads HD))
  wd : M[w]? = some (.lst (ws.map .str))
  n1 : kn ≠ t
  n2 : kn ≠ w
  n3 : e ≠ t
  n4 : e ≠ w
  n5 : h ≠ t
  n6 : h ≠ w
  n7 : t ≠ w
  e1 : 0 < ES.length
  e2 : ES.length ≤ 100
  h1 : ∀ f ∈ ES, ∃ n, HD.lookup f = some n ∧ n ≤ 4

section
variable {t kn e h w : Nat} {ES : List Str} {HD : List (Str × Nat)} {ws : List Str} {M M' : Store}
theorem Kn.fr (K : Kn t kn e h w ES HD ws M) (f : Fr [t] M M') (ht : IsTape M' t) : Kn t kn e h w ES HD ws M' :=
  ⟨ht, f.get K.kd (by simp [K.n1]), f.get K.er (by simp [K.n3]), f.get K.hd (by simp [K.n5]), f.get K.wd (by simp [Ne.symm K.n7]), K.n1, K.n2, K.n3, K.n4, K.n5, K.n6, K.n7, K.e1, K.e2, K.h1⟩
theorem Kn.fr0 (K : Kn t kn e h w ES HD ws M) (f : Fr [] M M') : Kn t kn e h w ES HD ws M' :=
  K.fr (f.mono (by simp)) (K.tape.fr f (by simp))
theorem Kn.app (K : Kn t kn e h w ES HD ws M) (os : List MO) : Kn t kn e h w ES HD ws (M ++ os) := K.fr0 Fr.app
theorem Kn.pop {ws' : List Str} (K : Kn t kn e h w ES HD ws M) : Kn t kn e h w ES HD ws' (M.set w (.lst (ws'.map .str))) :=
  have f : Fr [w] M (M.set w (.lst (ws'.map .str))) := Fr.set (by simp)
  ⟨K.tape.fr f (by simp [K.n7]), f.get K.kd (by simp [K.n2]), f.get K.er (by simp [K.n4]), f.get K.hd (by simp [K.n6]), set_get K.wd, K.n1, K.n2, K.n3, K.n4, K.n5, K.n6, K.n7, K.e1, K.e2, K.h1⟩
end
theorem Fr.tw {t w : Nat} {M M' : Store} (f : Fr [t] M M') : Fr [t, w] M M' := f.mono (by simp; omega)
theorem Fr.nil {S : List Nat} {M M' : Store} (f : Fr [] M M') : Fr S M M' := f.mono (by simp)

def Out (t kn e h w : Nat) (ES : List Str) (HD : List (Str × Nat)) (M : Store) (A ws : List Str) (room D : Nat) (r : Res PV) : Prop :=
  ∃ (tm : Tm) (M' : Store) (ws' : List Str), r = .ok tm.pv M' ∧ Kn t kn e h w ES HD ws' M' ∧ Fr [t, w] M M' ∧ ws = ws' ++ tm.lets.reverse ∧ tm.ok (fun f => HD.lookup f) A ∧ tm.size ≤ room ∧ tm.deep ≤ D
def TermSpec (t kn e h w : Nat) (ES : List Str) (HD : List (Str × Nat)) (d : Nat) : Prop :=
  ∀ (wf k : Nat) (M : Store) (a : Nat) (A ws : List Str) (room : Nat), 2 * d + 5 ≤ k → Kn t kn e h w ES HD ws M → M[a]? = some (.lst (A.map .str)) → a ≠ t → a ≠ w → A.length + d ≤ 100 → (A ++ ws).Nodup → 1 ≤ room → room ≤ 1000 →
    Out t kn e h w ES HD M A ws room (d + 2) ((ctx T wf k).call "_law_term" [.loc t, .loc kn, .loc a, .int room, .int d] M)
def AskSpec (t kn e h w : Nat) (ES : List Str) (HD : List (Str × Nat)) (d : Nat) : Prop :=
  ∀ (wf k : Nat) (M : Store) (a : Nat) (A ws : List Str) (room : Nat), 2 * d + 4 ≤ k → Kn t kn e h w ES HD ws M → M[a]? = some (.lst (A.map .str)) → a ≠ t → a ≠ w → A.length + d ≤ 100 → (A ++ ws).Nodup → 1 ≤ room → room ≤ 1000 →
    Out t kn e h w ES HD M A ws room (d + 2) ((ctx T wf k).call "_law_ask" [.loc t, .loc kn, .loc a, .int room, .int d] M)

theorem Out.leaf {t kn e h w : Nat} {ES : List Str} {HD : List (Str × Nat)} {wf k : Nat} {M0 M : Store} {a : Nat} {A ws : List Str} {room D : Nat} (hk : 3 ≤ k) (K : Kn t kn e h w ES HD ws M) (ha : M[a]? = some (.lst (A.map .str))) (h1 : a ≠ t) (hA : A.length ≤ 1000) (hr : 1 ≤ room) (hD : 1 ≤ D) (f0 : Fr [t, w] M0 M) :
    Out t kn e h w ES HD M0 A ws room D ((ctx T wf k).call "_law_leaf" [.loc t, .loc kn, .loc a] M) := by
  obtain ⟨tm, M', e1, o, s, dp, l, f, tp⟩ := Wn.leaf (wf := wf) hk (kn := .loc kn) (fun f => HD.lookup f) K.tape ha h1 hA
  exact ⟨tm, M', ws, e1, K.fr f tp, f0.trans f.tw, by simp [l], o, by omega, by omega⟩

theorem Tm.letss_app (xs ys : List Tm) : Tm.letss (xs ++ ys) = Tm.letss xs ++ Tm.letss ys := by
  induction xs with
  | nil => rfl
  | cons x xs ih => simp [Tm.letss, ih]
theorem Tm.sizes_app (xs ys : List Tm) : Tm.sizes (xs ++ ys) = Tm.sizes xs + Tm.sizes ys := by
  induction xs with
  | nil => simp [Tm.sizes]
  | cons x xs ih => simp [Tm.sizes, ih]; omega
theorem Tm.deeps_app (xs ys : List Tm) : Tm.deeps (xs ++ ys) = max (Tm.deeps xs) (Tm.deeps ys) := by
  induction xs with
  | nil => simp [Tm.deeps]
  | cons x xs ih => simp [Tm.deeps, ih, Nat.max_assoc]
theorem Tm.pvs_app (xs ys : List Tm) : Tm.pvs (xs ++ ys) = Tm.pvs xs ++ Tm.pvs ys := by simp [Tm.pvs_map]
@[simp] theorem Tm.pvs_length (xs : List Tm) : (Tm.pvs xs).length = xs.length := by simp [Tm.pvs_map]
theorem take_succ_sum : ∀ {ss : List Nat} {j : Nat} (h : j < ss.length), (ss.take (j + 1)).sum = (ss.take j).sum + ss[j]
  | s :: ss, 0, _ => by simp
  | s :: ss, j + 1, h => by
    have := take_succ_sum (ss := ss) (j := j) (by simpa using h)
    simp [this]; omega
theorem le_sum : ∀ {ss : List Nat} {x : Nat}, x ∈ ss → x ≤ ss.sum
  | s :: ss, x, h => by
    rcases List.mem_cons.1 h with h | h
    · simp; omega
    · have := le_sum h; simp; omega
theorem nodup_pre {A ws ws' l : List Str} (h : (A ++ ws).Nodup) (g : ws = ws' ++ l) : (A ++ ws').Nodup := by
  subst g
  exact h.sublist (List.Sublist.append_left (List.sublist_append_left ws' l) A)

theorem askSpec {t kn e h w : Nat} {ES : List Str} {HD : List (Str × Nat)} {d : Nat} (ih : TermSpec t kn e h w ES HD d) : AskSpec t kn e h w ES HD (d + 1) := by
  intro wf k M a A ws room hk K ha hat haw hA hN hr hr2
  obtain ⟨k, rfl⟩ := Nat.exists_eq_add_of_le' (show 1 ≤ k by omega)
  rw [call_of lk__law_ask]
  obtain ⟨j0, M1, e1, l1, f1, t1⟩ := digitE (wf := wf) (k := k) (by omega) K.tape (m := (ES.length : Int)) (by have := K.e1; omega) (by have := K.e2; omega)
  have lj : j0 < ES.length := by omega
  have K1 := K.fr f1 t1
  obtain ⟨many, hm, hm4⟩ := K.h1 ES[j0] (List.getElem_mem lj)
  have ha1 := f1.get ha (by simp [hat])
  have hix : ixOf ES.length (j0 : Int) = some j0 := ixOf_nat lj
  have hlen : doBi M .len [.loc e] = .ok (.int ES.length) M := by rw [doBi_len_lst K.er]; simp
  have hget : (ES.map PV.str)[j0]? = some (.str ES[j0]) := by simp [lj]
  have hhd := heads_lookup ES[j0] HD
  rw [hm] at hhd
  simp only [Option.map_some] at hhd
  by_cases hb : room < many + 3 ∧ 0 < many
  · have hb' : (room : Int) < (many : Int) + 3 := by omega
    obtain ⟨tm, M', ws', r, q⟩ := Out.leaf (M0 := M) (wf := wf) (k := k) (room := room) (D := d + 1 + 2) (by omega) K1 ha1 hat (by omega) hr (by omega) f1.tw
    refine ⟨tm, M', ws', ?_, q⟩
    simp [runFn, f__law_ask, K.kd, hlen, e1, K1.er, hix, hget, lj, K1.kd, K1.hd, hhd, hb', hb.2, r]
  · have hc : ¬ ((room : Int) < (many : Int) + 3 ∧ 0 < many) := by omega
    obtain ⟨q4, M2, e2, l2, f2, t2⟩ := digitE (wf := wf) (k := k) (M := M1 ++ [.lst []]) (t := t) (by omega) t1.app (m := 4) (by decide) (by decide)
    obtain ⟨c, hcE, hcm⟩ : ∃ c : Nat, (q4 : Int) * (if 0 < many then 1 else 0) = (c : Int) ∧ (0 < c → 0 < many) := by
      by_cases hz : 0 < many
      · exact ⟨q4, by simp [hz], fun _ => hz⟩
      · exact ⟨0, by simp [hz], fun h => absurd h (by omega)⟩
    let x : Nat := if 0 < c then 3 else 1
    let Rm : Nat := if many + x < room then room - x else many
    have hx3 : x = 3 ∨ x = 1 := by simp only [x]; split <;> simp
    have hRm : many ≤ Rm ∧ Rm ≤ 1000 := by simp only [Rm]; split <;> omega
    let M3 : Store := M2 ++ [.lst [.int 1, .int 3]]
    obtain ⟨ss, M4, L, e3, hL, hsl, hs1, hss, f3, t3, hLM⟩ := shares (wf := wf) (k := k) (M := M3) (t := t) (room := Rm) (many := many) (by omega) t2.app hRm.1 hRm.2 (by omega)
    have hSM : M1.length < M2.length := by have := f2.1; simp at this; omega
    have htl := K.tape.lt
    have hwl := lt_of_get K.wd
    have hM1 := f1.1
    let S := M1.length
    have hSt : S ≠ t := by have := K1.tape.lt; simp only [S]; omega
    have hSw : S ≠ w := by have := lt_of_get K1.wd; simp only [S]; omega
    have hLt : L ≠ t := by have := t2.lt; simp only [M3, List.length_append] at hLM; omega
    have hLw : L ≠ w := by have := lt_of_get K1.wd; simp only [M3, List.length_append] at hLM; omega
    have hLS : L ≠ S := by simp only [M3, List.length_append, S] at hLM ⊢; omega
    have f4 : Fr [t] (M1 ++ [.lst []]) M4 := f2.trans (Fr.app.trans f3)
    have f5 : Fr [t] M1 M4 := Fr.app.trans f4
    have K4 := K1.fr f5 t3
    have hS4 : M4[S]? = some (.lst []) := f4.get app_new (by simp; exact hSt)
    have ha4 := f5.get ha1 (by simp [hat])
    have hbm : inBound (many : Int) = true := inBound_nat (by omega)
    let P : List PV → Env → Store → Prop := fun xs E N => ∃ (j : Nat) (acc : List Tm) (ws1 : List Str) (o : Option PV), xs = (List.range' j (many - j)).map (fun (i : Nat) => PV.int (i : Int)) ∧ j ≤ many ∧ E = [some (.loc t), some (.loc kn), some (.loc a), some (.int room), some (.int ((d : Int) + 1)), some (.str ES[j0]), some (.int many), some (.loc S), some (.int c), some (.loc L), o]
      ∧ N[S]? = some (.lst (Tm.pvs acc)) ∧ acc.length = j ∧ N[L]? = some (.lst (nats ss)) ∧ N[a]? = some (.lst (A.map .str)) ∧ Kn t kn e h w ES HD ws1 N ∧ Fr [t, w] M N ∧ ws = ws1 ++ (Tm.letss acc).reverse ∧ (∀ u ∈ acc, u.ok (fun f => HD.lookup f) A) ∧ Tm.sizes acc ≤ (ss.take j).sum + (x - 1) ∧ Tm.deeps acc ≤ d + 2
    have hLoop := forGo_run (w := none) (step := forStep (ctx T wf k) (.nm 10) b1__law_ask) P (fun _ _ _ _ => rfl) (by
      rintro y xs E N ⟨j, acc, ws1, o, hxs, hj, rfl, g1, g2, g3, g4, g5, g6, g7, g8, g9, g10⟩
      have hjm : j < many := by
        rcases Nat.lt_or_ge j many with h | h
        · exact h
        · have : many - j = 0 := by omega
          rw [this] at hxs; simp at hxs
      obtain ⟨m', hm'⟩ : ∃ m', many - j = m' + 1 := ⟨many - j - 1, by omega⟩
      rw [hm', List.range'_succ, List.map_cons] at hxs
      obtain ⟨rfl, rfl⟩ := List.cons.inj hxs
      have hjs : j < ss.length := by omega
      have hin : m' = many - (j + 1) := by omega
      have hbig : (Tm.pvs acc).length < big := by simp [big]; omega
      by_cases hfirst : j = 0 ∧ 0 < c
      · obtain ⟨tm, N1, r1, o1, s1, d1, l1, fr1⟩ := less_one (wf := wf) (k := k) (by omega) (fun f => HD.lookup f) g4
        have hS1 : N1[S]? = some (.lst (Tm.pvs acc)) := fr1.get g1 (by simp)
        have fS : Fr [S] N1 (N1.set S (.lst (Tm.pvs (acc ++ [tm])))) := Fr.set (by simp)
        have KS : Kn t kn e h w ES HD ws1 (N1.set S (.lst (Tm.pvs (acc ++ [tm])))) := by
          have K1' := g5.fr0 fr1
          exact ⟨K1'.tape.fr fS (by simp [Ne.symm hSt]), fS.get K1'.kd (by have := lt_of_get K1.kd; simp [S]; omega), fS.get K1'.er (by have := lt_of_get K1.er; simp [S]; omega), fS.get K1'.hd (by have := lt_of_get K1.hd; simp [S]; omega), fS.get K1'.wd (by simp [Ne.symm hSw]), K.n1, K.n2, K.n3, K.n4, K.n5, K.n6, K.n7, K.e1, K.e2, K.h1⟩
        refine ⟨[some (.loc t), some (.loc kn), some (.loc a), some (.int room), some (.int ((d : Int) + 1)), some (.str ES[j0]), some (.int many), some (.loc S), some (.int c), some (.loc L), some (.int j)], N1.set S (.lst (Tm.pvs (acc ++ [tm]))), ?_, j + 1, acc ++ [tm], ws1, some (.int j), by rw [hin], by omega, rfl, set_get hS1, by simp [g2], ?_, ?_, KS, ?_, ?_, ?_, ?_, ?_⟩
        · have hap := doBm_append (v := tm.pv) hS1 hbig
          have hok : bmOk N .append (.loc S) = true := by rw [bmOk_lst g1]; rfl
          rw [Tm.pvs_app]
          simp only [Tm.pvs]
          have h0 : (j : Int) = 0 := by omega
          simp [forStep, setTg, b1__law_ask, hfirst.1, hfirst.2, hok, r1, hap]
        · rw [set_get_ne (Ne.symm hLS)]; exact fr1.get g3 (by simp)
        · rw [set_get_ne (by have := lt_of_get ha1; simp [S]; omega)]; exact fr1.get g4 (by simp)
        · refine ⟨by have := g6.1; have := fr1.1; simp; omega, fun n hn hs => ?_⟩
          rw [set_get_ne (by simp [S]; omega)]
          exact (g6.trans fr1.nil).2 n hn hs
        · rw [Tm.letss_app]; simp [Tm.letss, l1, g7]
        · intro u hu
          rcases List.mem_append.1 hu with h | h
          · exact g8 u h
          · simp at h; subst h; exact o1
        · rw [Tm.sizes_app, take_succ_sum hjs]
          have := hs1 _ (List.getElem_mem hjs)
          have hacc : acc = [] := List.length_eq_zero_iff.1 (by omega)
          have hx : x = 3 := by simp [x, hfirst.2]
          subst hacc
          simp [Tm.sizes]; omega
        · rw [Tm.deeps_app]; simp [Tm.deeps]; omega
      · obtain ⟨tm, N1, ws2, r1, K2, fr1, w1, o1, s1, d1⟩ := ih wf k N a A ws1 ss[j] (by omega) g5 g4 hat haw (by omega) (nodup_pre hN g7) (hs1 _ (List.getElem_mem hjs)) (by
          have := le_sum (List.getElem_mem hjs)
          omega)
        have hS1 : N1[S]? = some (.lst (Tm.pvs acc)) := fr1.get g1 (by simp [hSt, hSw])
        have fS : Fr [S] N1 (N1.set S (.lst (Tm.pvs (acc ++ [tm])))) := Fr.set (by simp)
        have KS : Kn t kn e h w ES HD ws2 (N1.set S (.lst (Tm.pvs (acc ++ [tm])))) := by
          have K1' := K2
          exact ⟨K1'.tape.fr fS (by simp [Ne.symm hSt]), fS.get K1'.kd (by have := lt_of_get K1.kd; simp [S]; omega), fS.get K1'.er (by have := lt_of_get K1.er; simp [S]; omega), fS.get K1'.hd (by have := lt_of_get K1.hd; simp [S]; omega), fS.get K1'.wd (by simp [Ne.symm hSw]), K.n1, K.n2, K.n3, K.n4, K.n5, K.n6, K.n7, K.e1, K.e2, K.h1⟩
        refine ⟨[some (.loc t), some (.loc kn), some (.loc a), some (.int room), some (.int ((d : Int) + 1)), some (.str ES[j0]), some (.int many), some (.loc S), some (.int c), some (.loc L), some (.int j)], N1.set S (.lst (Tm.pvs (acc ++ [tm]))), ?_, j + 1, acc ++ [tm], ws2, some (.int j), by rw [hin], by omega, rfl, set_get hS1, by simp [g2], ?_, ?_, KS, ?_, ?_, ?_, ?_, ?_⟩
        · have hap := doBm_append (v := tm.pv) hS1 hbig
          have hok : bmOk N .append (.loc S) = true := by rw [bmOk_lst g1]; rfl
          rw [Tm.pvs_app]
          simp only [Tm.pvs]
          have hix : ixOf ss.length (j : Int) = some j := ixOf_nat hjs
          have hng := nats_get hjs
          have hfirst' : ¬ (j = 0 ∧ 0 < c) := hfirst
          by_cases hj0 : j = 0
          · have hc0 : ¬ 0 < c := fun h => hfirst ⟨hj0, h⟩
            simp [forStep, setTg, b1__law_ask, hj0, hc0, hok] at r1 hix hng ⊢
            simp [g3, hix, hng, r1, hap]
          · simp [forStep, setTg, b1__law_ask, hj0, hok, g3, hix, hng, r1, hap]
        · rw [set_get_ne (Ne.symm hLS)]; exact fr1.get g3 (by simp [hLt, hLw])
        · rw [set_get_ne (by have := lt_of_get ha1; simp [S]; omega)]; exact fr1.get g4 (by simp [hat, haw])
        · refine ⟨by have := g6.1; have := fr1.1; simp; omega, fun n hn hs => ?_⟩
          rw [set_get_ne (by simp [S]; omega)]
          exact (g6.trans fr1).2 n hn hs
        · rw [Tm.letss_app]; simp [Tm.letss, g7, w1]
        · intro u hu
          rcases List.mem_append.1 hu with h | h
          · exact g8 u h
          · simp at h; subst h; exact o1
        · rw [Tm.sizes_app, take_succ_sum hjs]; simp [Tm.sizes]; omega
        · rw [Tm.deeps_app]; simp [Tm.deeps]; omega)
    obtain ⟨E', M5, eL, j, acc, ws1, o, hxs, hj, rfl, g1, g2, g3, g4, g5, g6, g7, g8, g9, g10⟩ := hLoop (rangeOf 0 many) [some (.loc t), some (.loc kn), some (.loc a), some (.int room), some (.int ((d : Int) + 1)), some (.str ES[j0]), some (.int many), some (.loc S), some (.int c), some (.loc L), none] M4 ⟨0, [], ws, none, by rw [rangeOf_nat, List.range_eq_range']; rfl, by omega, rfl, hS4, rfl, hL, ha4, K4, (f1.trans f5).tw, by simp [Tm.letss], by simp, by simp [Tm.sizes], by simp [Tm.deeps]⟩
    have hjm : j = many := by
      rcases Nat.lt_or_ge j many with h | h
      · obtain ⟨m', hm'⟩ : ∃ m', many - j = m' + 1 := ⟨many - j - 1, by omega⟩
        rw [hm', List.range'_succ] at hxs; simp at hxs
      · omega
    have hfull : (ss.take j).sum = ss.sum := by rw [List.take_of_length_le (by omega)]
    refine ⟨.nd (.ask ES[j0]) acc, M5, ws1, ?_, g5, g6, by simp [Tm.lets, Kd.lets, g7], ?_, ?_, ?_⟩
    · have htup := doBi_tuple_lst g1
      have hmax : (if (many : Int) < (room : Int) - (x : Int) then (room : Int) - (x : Int) else (many : Int)) = (Rm : Int) := by
        simp only [Rm]; split <;> split <;> omega
      have hnl : ¬ (((room : Int) < (many : Int) + 3) ∧ (0 < many)) := hc
      have hml : mulOk (q4 : Int) (if 0 < many then 1 else 0) = true := by simp [mulOk]; omega
      have hgo : ∀ (r : Res Bool), (if (room : Int) < (many : Int) + 3 then Res.ok (decide (0 < many)) M1 else .ok false M1) = .ok false M1 := by
        intro r
        split
        · have : ¬ 0 < many := fun h => hc ⟨by assumption, h⟩
          simp [this]
        · rfl
      have hgo := hgo .bad
      simp only [S] at eL htup
      by_cases hc0 : 0 < c
      · have hx : x = 3 := by simp [x, hc0]
        rw [hx] at hmax
        have hmax' : (if (many : Int) < (room : Int) - 3 then (room : Int) - 3 else (many : Int)) = (Rm : Int) := hmax
        simp only [M3] at e3
        simp [runFn, f__law_ask, K.kd, hlen, e1, K1.er, hix, hget, lj, K1.kd, K1.hd, hhd, hgo, big, e2, hml, hcE, hc0, hmax', e3, hbm, eL, htup, Tm.pv, Kd.pv]
      · have hx : x = 1 := by simp [x, hc0]
        rw [hx] at hmax
        have hmax' : (if (many : Int) < (room : Int) - 1 then (room : Int) - 1 else (many : Int)) = (Rm : Int) := hmax
        simp only [M3] at e3
        simp [runFn, f__law_ask, K.kd, hlen, e1, K1.er, hix, hget, lj, K1.kd, K1.hd, hhd, hgo, big, e2, hml, hcE, hc0, hmax', e3, hbm, eL, htup, Tm.pv, Kd.pv]
    · refine ⟨by simp [Kd.due, hm, g2, hjm], trivial, Tm.oks_of (fun i => rfl) g8⟩
    · simp only [Tm.size]
      rcases hx3 with hx | hx
      · have hc0 : 0 < c := by
          rcases Nat.eq_zero_or_pos c with h | h
          · simp [x, h] at hx
          · exact h
        have := hcm hc0
        simp only [Rm, hx] at hss
        split at hss <;> omega
      · have : Rm + 1 ≤ room := by
          simp only [Rm, hx]
          split <;> omega
        omega
    · simp only [Tm.deep]; omega
end Wn
end
section
/-! G7: terms. -/
namespace Wn
open PySem

theorem nats_drop {ss : List Nat} {j : Nat} (h : j < ss.length) : nats (ss.drop j) = .int ((ss[j] : Nat) : Int) :: nats (ss.drop (j + 1)) := by
  rw [List.drop_eq_getElem_cons h]; rfl

theorem many_core {t kn e h w : Nat} {ES : List Str} {HD : List (Str × Nat)} {d : Nat} (ih : TermSpec t kn e h w ES HD d)
    {wf k : Nat} {N : Store} {a : Nat} {A ws : List Str} {room n : Nat} (hk : 2 * d + 5 ≤ k) (K : Kn t kn e h w ES HD ws N) (ha : N[a]? = some (.lst (A.map .str))) (hat : a ≠ t) (haw : a ≠ w) (hA : A.length + (d + 1) ≤ 100) (hN : (A ++ ws).Nodup) (hr : room ≤ 1000) (hn : n ≤ room) (hn3 : n ≤ 3) (o5 o6 o7 o9 o10 o11 : Option PV) (rm : PV) :
    ∃ (L : Nat) (N1 : Store) (Lx : List PV) (acc : List Tm) (N2 : Store) (ws' : List Str), (ctx T wf k).call "_law_shares" [.loc t, .int room, .int n] N = .ok (.loc L) N1 ∧ N1[L]? = some (.lst Lx)
      ∧ lcGo (some (L, Lx)) (lcTurn (ctx T wf k) l1__law_term (.nm 11) .none [some (.loc t), some (.loc kn), some (.loc a), some rm, some (.int ((d : Int) + 1)), o5, o6, o7, some (.loc L), o9, o10, o11]) Lx [] N1 = .ok (Tm.pvs acc) N2
      ∧ acc.length = n ∧ Kn t kn e h w ES HD ws' N2 ∧ Fr [t, w] N N2 ∧ ws = ws' ++ (Tm.letss acc).reverse ∧ (∀ u ∈ acc, u.ok (fun f => HD.lookup f) A) ∧ Tm.sizes acc ≤ room ∧ Tm.deeps acc ≤ d + 2 := by
  obtain ⟨ss, N1, L, e3, hL, hsl, hs1, hss, f3, t3, hLM⟩ := shares (wf := wf) (k := k) (M := N) (t := t) (room := room) (many := n) (by omega) K.tape hn hr (by omega)
  have htl := K.tape.lt
  have hwl := lt_of_get K.wd
  let P : List PV → List PV → Store → Prop := fun xs ac Q => ∃ (j : Nat) (acc : List Tm) (ws1 : List Str), xs = nats (ss.drop j) ∧ j ≤ n ∧ ac = Tm.pvs acc ∧ acc.length = j ∧ Q[L]? = some (.lst (nats ss)) ∧ Q[a]? = some (.lst (A.map .str)) ∧ Kn t kn e h w ES HD ws1 Q ∧ Fr [t, w] N Q ∧ ws = ws1 ++ (Tm.letss acc).reverse ∧ (∀ u ∈ acc, u.ok (fun f => HD.lookup f) A) ∧ Tm.sizes acc ≤ (ss.take j).sum ∧ Tm.deeps acc ≤ d + 2
  have hLoop := lcGo_run (w := some (L, nats ss)) (step := lcTurn (ctx T wf k) l1__law_term (.nm 11) .none [some (.loc t), some (.loc kn), some (.loc a), some rm, some (.int ((d : Int) + 1)), o5, o6, o7, some (.loc L), o9, o10, o11]) P
    (by rintro xs ac Q ⟨j, acc, ws1, _, _, _, _, g, _⟩; simp [Watch.ok, g])
    (by rintro x xs ac Q ⟨j, acc, ws1, _, _, rfl, g, _⟩; simp [big]; omega)
    (by
      rintro x xs ac Q ⟨j, acc, ws1, hxs, hj, rfl, g2, g3, g4, g5, g6, g7, g8, g9, g10⟩
      have hjs : j < ss.length := by
        rcases Nat.lt_or_ge j ss.length with h | h
        · exact h
        · rw [List.drop_of_length_le h] at hxs; cases hxs
      rw [nats_drop hjs] at hxs
      obtain ⟨rfl, rfl⟩ := List.cons.inj hxs
      obtain ⟨tm, Q1, ws2, r1, K2, fr1, w1, o1, s1, d1⟩ := ih wf k Q a A ws1 ss[j] (by omega) g5 g4 hat haw (by omega) (nodup_pre hN g7) (hs1 _ (List.getElem_mem hjs)) (by
        have := le_sum (List.getElem_mem hjs)
        omega)
      refine .inl ⟨tm.pv, Q1, ?_, j + 1, acc ++ [tm], ws2, rfl, by omega, by rw [Tm.pvs_app]; rfl, by simp [g2], fr1.get g3 (by simp; omega), fr1.get g4 (by simp [hat, haw]), K2, g6.trans fr1, ?_, ?_, ?_, ?_⟩
      · simp [lcTurn, setTg, l1__law_term, r1]
      · rw [Tm.letss_app]; simp [Tm.letss, g7, w1]
      · intro u hu
        rcases List.mem_append.1 hu with h | h
        · exact g8 u h
        · simp at h; subst h; exact o1
      · rw [Tm.sizes_app, take_succ_sum hjs]; simp [Tm.sizes]; omega
      · rw [Tm.deeps_app]; simp [Tm.deeps]; omega)
  obtain ⟨ys, N2, eL, j, acc, ws1, hxs, hj, rfl, g2, g3, g4, g5, g6, g7, g8, g9, g10⟩ := hLoop (nats ss) [] N1 ⟨0, [], ws, rfl, by omega, rfl, rfl, hL, f3.get ha (by simp [hat]), K.fr f3 t3, f3.tw, by simp [Tm.letss], by simp, by simp [Tm.sizes], by simp [Tm.deeps]⟩
  have hjn : j = n := by
    rcases Nat.lt_or_ge j n with h | h
    · rw [nats_drop (by omega)] at hxs; cases hxs
    · omega
  refine ⟨L, N1, nats ss, acc, N2, ws1, e3, hL, eL, by omega, g5, g6, g7, g8, ?_, g10⟩
  rw [List.take_of_length_le (by omega)] at g9
  omega

theorem termSpec0 {t kn e h w : Nat} {ES : List Str} {HD : List (Str × Nat)} : TermSpec t kn e h w ES HD 0 := by
  intro wf k M a A ws room hk K ha hat haw hA hN hr hr2
  obtain ⟨k, rfl⟩ := Nat.exists_eq_add_of_le' (show 1 ≤ k by omega)
  rw [call_of lk__law_term]
  obtain ⟨tm, M', ws', r, q⟩ := Out.leaf (M0 := M) (wf := wf) (k := k) (room := room) (D := 0 + 2) (by omega) K ha hat (by omega) hr (by omega) (Fr.refl _ _)
  refine ⟨tm, M', ws', ?_, q⟩
  by_cases hr1 : (room : Int) < 2
  · simp [runFn, f__law_term, hr1, r]
  · simp [runFn, f__law_term, hr1, r]

def tws : List PV := [.str "plus", .str "less", .str "tell", .str "let", .str "if", .str "ask", .str "ask", .str "ask", .str "plus", .str "let"]
section
variable {t kn e h w : Nat} {ES : List Str} {HD : List (Str × Nat)} {d : Nat} {wf k : Nat} {M M1 : Store} {a : Nat} {A ws : List Str} {room q : Nat} {wd : Str}

theorem term_leaf (hk : 2 * (d + 1) + 5 ≤ k + 1) (K : Kn t kn e h w ES HD ws M) (ha : M[a]? = some (.lst (A.map .str))) (hat : a ≠ t) (hA : A.length + (d + 1) ≤ 100) (hr : 1 ≤ room) (hr2 : room < 2) :
    Out t kn e h w ES HD M A ws room (d + 1 + 2) (runFn (ctx T wf k) f__law_term [.loc t, .loc kn, .loc a, .int room, .int ((d + 1 : Nat) : Int)] M) := by
  obtain ⟨tm, M', ws', r, q⟩ := Out.leaf (M0 := M) (wf := wf) (k := k) (room := room) (D := d + 1 + 2) (by omega) K ha hat (by omega) hr (by omega) (Fr.refl _ _)
  refine ⟨tm, M', ws', ?_, q⟩
  have hr1 : (room : Int) < 2 := by omega
  simp [runFn, f__law_term, hr1, r]

variable (hk : 2 * (d + 1) + 5 ≤ k + 1) (hr : 2 ≤ room) (hr2 : room ≤ 1000)
  (e1 : (ctx T wf k).call "_law_digit" [.loc t, .int 10] (M ++ [.lst tws]) = .ok (.int q) M1) (hq : q < 10) (f1 : Fr [t] (M ++ [.lst tws]) M1) (hw : tws[q]? = some (.str wd))
  (K1 : Kn t kn e h w ES HD ws M1) (hW : M1[M.length]? = some (.lst tws)) (ha1 : M1[a]? = some (.lst (A.map .str))) (hat : a ≠ t) (haw : a ≠ w) (hA : A.length + (d + 1) ≤ 100) (hN : (A ++ ws).Nodup)
include hk hr hr2 e1 hq f1 hw K1 hW ha1 hat haw hA hN

theorem term_ask (ihA : AskSpec t kn e h w ES HD (d + 1)) (h1 : wd = "ask") :
    Out t kn e h w ES HD M A ws room (d + 1 + 2) (runFn (ctx T wf k) f__law_term [.loc t, .loc kn, .loc a, .int room, .int ((d + 1 : Nat) : Int)] M) := by
  obtain ⟨tm, M2, ws', r, K2, f2, p⟩ := ihA wf k M1 a A ws room (by omega) K1 ha1 hat haw hA hN (by omega) hr2
  refine ⟨tm, M2, ws', ?_, K2, (Fr.app.trans f1).tw.trans f2, p⟩
  have hr1 : ¬ (room : Int) < 2 := by omega
  have hd0 : ¬ (d : Int) + 1 = 0 := by omega
  have hix : ixOf 10 (q : Int) = some q := ixOf_nat hq
  subst h1
  simp only [tws] at e1 hW hw
  simp at r
  simp [runFn, f__law_term, hr1, hd0, big, e1, hW, hix, hw, r]

theorem term_tell (ih : TermSpec t kn e h w ES HD d) (h1 : wd ≠ "ask") (h2 : wd = "tell" ∨ room < 4) :
    Out t kn e h w ES HD M A ws room (d + 1 + 2) (runFn (ctx T wf k) f__law_term [.loc t, .loc kn, .loc a, .int room, .int ((d + 1 : Nat) : Int)] M) := by
  obtain ⟨tm, M2, ws', r, K2, f2, p1, p2, p3, p4⟩ := ih wf k M1 a A ws (room - 1) (by omega) K1 ha1 hat haw (by omega) hN (by omega) (by omega)
  refine ⟨.nd .tell [tm], M2, ws', ?_, K2, (Fr.app.trans f1).tw.trans f2, by simpa [Tm.lets, Kd.lets, Tm.letss] using p1, by simp [Tm.ok, Tm.oks, Kd.due, Kd.fits, Kd.around, p2], by simp [Tm.size, Tm.sizes]; omega, by simp [Tm.deep, Tm.deeps]; omega⟩
  have hr1 : ¬ (room : Int) < 2 := by omega
  have hd0 : ¬ (d : Int) + 1 = 0 := by omega
  have hix : ixOf 10 (q : Int) = some q := ixOf_nat hq
  have hrm : ((room - 1 : Nat) : Int) = (room : Int) - 1 := by omega
  rw [hrm] at r
  simp only [tws] at e1 hW hw
  by_cases ht : wd = "tell"
  · simp [runFn, f__law_term, hr1, hd0, big, e1, hW, hix, hw, h1, ht, r, Tm.pv, Kd.pv, Tm.pvs]
  · have h4 : (room : Int) < 4 := by rcases h2 with h | h; exact absurd h ht; omega
    simp [runFn, f__law_term, hr1, hd0, big, e1, hW, hix, hw, h1, ht, h4, r, Tm.pv, Kd.pv, Tm.pvs]
end
end Wn
end
section
/-! G8: terms with several parts, lets; all terms. -/
namespace Wn
open PySem
theorem Kn.appw {t kn e h w : Nat} {ES : List Str} {HD : List (Str × Nat)} {ws : List Str} {M : Store} (K : Kn t kn e h w ES HD ws M) (os : List MO) : (M ++ os)[w]? = some (.lst (ws.map .str)) := (K.app os).wd

section
variable {t kn e h w : Nat} {ES : List Str} {HD : List (Str × Nat)} {d : Nat} {wf k : Nat} {M M1 : Store} {a : Nat} {A ws : List Str} {room q : Nat} {wd : Str}
variable (hk : 2 * (d + 1) + 5 ≤ k + 1) (hr : 4 ≤ room) (hr2 : room ≤ 1000)
  (e1 : (ctx T wf k).call "_law_digit" [.loc t, .int 10] (M ++ [.lst tws]) = .ok (.int q) M1) (hq : q < 10) (f1 : Fr [t] (M ++ [.lst tws]) M1) (hw : tws[q]? = some (.str wd))
  (K1 : Kn t kn e h w ES HD ws M1) (hW : M1[M.length]? = some (.lst tws)) (ha1 : M1[a]? = some (.lst (A.map .str))) (hat : a ≠ t) (haw : a ≠ w) (hA : A.length + (d + 1) ≤ 100) (hN : (A ++ ws).Nodup)
include hk hr hr2 e1 hq f1 hw K1 hW ha1 hat haw hA hN

/-- plus, less -/
theorem term_two {kd : Kd} (ih : TermSpec t kn e h w ES HD d) (h1 : wd = "plus" ∧ kd = .plus ∨ wd = "less" ∧ kd = .less) :
    Out t kn e h w ES HD M A ws room (d + 1 + 2) (runFn (ctx T wf k) f__law_term [.loc t, .loc kn, .loc a, .int room, .int ((d + 1 : Nat) : Int)] M) := by
  obtain ⟨L, N1, Lx, acc, N2, ws', r1, r2, r3, c1, c2, c3, c4, c5, c6, c7⟩ := many_core ih (wf := wf) (k := k) (N := M1 ++ [.lst [.int 2, .int 3]]) (room := room - 1) (n := 2) (by omega) (K1.app _) (app_get ha1) hat haw hA hN (by omega) (by omega) (by omega) (some (.loc M.length)) (some (.str wd)) none none none none (.int room)
  have hr1 : ¬ (room : Int) < 2 := by omega
  have hr4 : ¬ (room : Int) < 4 := by omega
  have hd0 : ¬ (d : Int) + 1 = 0 := by omega
  have hix : ixOf 10 (q : Int) = some q := ixOf_nat hq
  have hrm : ((room - 1 : Nat) : Int) = (room : Int) - 1 := by omega
  rw [hrm] at r1
  have r1 : (ctx T wf k).call "_law_shares" [.loc t, .int ((room : Int) - 1), .int 2] (M1 ++ [.lst [.int 2, .int 3]]) = .ok (.loc L) N1 := r1
  have hwk := walked_lst r2
  have htup : doBi (N2 ++ [.lst (Tm.pvs acc)] ++ [.lst [.str wd, .str "plus"]]) .tuple [.loc N2.length] = .ok (.tup (Tm.pvs acc)) (N2 ++ [.lst (Tm.pvs acc)] ++ [.lst [.str wd, .str "plus"]]) := doBi_tuple_lst (app_get app_new)
  have hnew : (N2 ++ [MO.lst (Tm.pvs acc)] ++ [.lst [.str wd, .str "plus"]])[N2.length + 1]? = some (.lst [.str wd, .str "plus"]) := by
    have : N2.length + 1 = (N2 ++ [MO.lst (Tm.pvs acc)]).length := by simp
    rw [this]; exact app_new
  have hb : acc.length ≤ 3 := by omega
  have hb2 : 1 + acc.length ≤ 16777216 := by omega
  refine ⟨.nd kd acc, N2 ++ [.lst (Tm.pvs acc)] ++ [.lst [.str wd, .str "plus"]], ws', ?_, (c2.app _).app _, (Fr.app.trans f1).tw.trans ((Fr.app.trans c3).trans (Fr.app.trans Fr.app)), ?_, ?_, by simp only [Tm.size]; omega, by simp only [Tm.deep]; omega⟩
  · simp only [tws] at e1 hW hw
    simp only [List.append_assoc, List.cons_append, List.nil_append] at htup hnew ⊢
    rcases h1 with ⟨rfl, rfl⟩ | ⟨rfl, rfl⟩
    · simp [runFn, f__law_term, hr1, hr4, hd0, big, e1, hW, hix, hw, r1, hwk, r3, htup, hnew, hb2, Tm.pv, Kd.pv]
    · simp [runFn, f__law_term, hr1, hr4, hd0, big, e1, hW, hix, hw, r1, hwk, r3, htup, hnew, hb2, Tm.pv, Kd.pv]
  · rcases h1 with ⟨rfl, rfl⟩ | ⟨rfl, rfl⟩ <;> simpa [Tm.lets, Kd.lets] using c4
  · rcases h1 with ⟨rfl, rfl⟩ | ⟨rfl, rfl⟩ <;> exact ⟨by simp [Kd.due, c1], trivial, Tm.oks_of (fun i => rfl) c5⟩
theorem term_if (ih : TermSpec t kn e h w ES HD d) (h1 : wd = "if") :
    Out t kn e h w ES HD M A ws room (d + 1 + 2) (runFn (ctx T wf k) f__law_term [.loc t, .loc kn, .loc a, .int room, .int ((d + 1 : Nat) : Int)] M) := by
  obtain ⟨L, N1, Lx, acc, N2, ws', r1, r2, r3, c1, c2, c3, c4, c5, c6, c7⟩ := many_core ih (wf := wf) (k := k) (N := M1 ++ [.lst [.int 2, .int 3]]) (room := room - 1) (n := 3) (by omega) (K1.app _) (app_get ha1) hat haw hA hN (by omega) (by omega) (by omega) (some (.loc M.length)) (some (.str wd)) none none none none (.int room)
  have hr1 : ¬ (room : Int) < 2 := by omega
  have hr4 : ¬ (room : Int) < 4 := by omega
  have hd0 : ¬ (d : Int) + 1 = 0 := by omega
  have hix : ixOf 10 (q : Int) = some q := ixOf_nat hq
  have hrm : ((room - 1 : Nat) : Int) = (room : Int) - 1 := by omega
  rw [hrm] at r1
  have r1 : (ctx T wf k).call "_law_shares" [.loc t, .int ((room : Int) - 1), .int 3] (M1 ++ [.lst [.int 2, .int 3]]) = .ok (.loc L) N1 := r1
  have hwk := walked_lst r2
  have htup : doBi (N2 ++ [.lst (Tm.pvs acc)] ++ [.lst [.str wd, .str "plus"]]) .tuple [.loc N2.length] = .ok (.tup (Tm.pvs acc)) (N2 ++ [.lst (Tm.pvs acc)] ++ [.lst [.str wd, .str "plus"]]) := doBi_tuple_lst (app_get app_new)
  have hnew : (N2 ++ [MO.lst (Tm.pvs acc)] ++ [.lst [.str wd, .str "plus"]])[N2.length + 1]? = some (.lst [.str wd, .str "plus"]) := by
    have : N2.length + 1 = (N2 ++ [MO.lst (Tm.pvs acc)]).length := by simp
    rw [this]; exact app_new
  have hb2 : 1 + acc.length ≤ 16777216 := by omega
  refine ⟨.nd .iff acc, N2 ++ [.lst (Tm.pvs acc)] ++ [.lst [.str wd, .str "plus"]], ws', ?_, (c2.app _).app _, (Fr.app.trans f1).tw.trans ((Fr.app.trans c3).trans (Fr.app.trans Fr.app)), by simpa [Tm.lets, Kd.lets] using c4, ⟨by simp [Kd.due, c1], trivial, Tm.oks_of (fun i => rfl) c5⟩, by simp only [Tm.size]; omega, by simp only [Tm.deep]; omega⟩
  simp only [tws] at e1 hW hw
  simp only [List.append_assoc, List.cons_append, List.nil_append] at htup hnew ⊢
  subst h1
  simp [runFn, f__law_term, hr1, hr4, hd0, big, e1, hW, hix, hw, r1, hwk, r3, htup, hnew, hb2, Tm.pv, Kd.pv]
/-- a let where no word is left -/
theorem term_nolet (ih : TermSpec t kn e h w ES HD d) (h1 : wd = "let") (h2 : ws = []) :
    Out t kn e h w ES HD M A ws room (d + 1 + 2) (runFn (ctx T wf k) f__law_term [.loc t, .loc kn, .loc a, .int room, .int ((d + 1 : Nat) : Int)] M) := by
  obtain ⟨L, N1, Lx, acc, N2, ws', r1, r2, r3, c1, c2, c3, c4, c5, c6, c7⟩ := many_core ih (wf := wf) (k := k) (N := M1 ++ [.lst []] ++ [.lst [.int 2, .int 3]]) (room := room - 1) (n := 2) (by omega) ((K1.app _).app _) (app_get (app_get ha1)) hat haw hA hN (by omega) (by omega) (by omega) (some (.loc M.length)) (some (.str wd)) none none none none (.int room)
  have hr1 : ¬ (room : Int) < 2 := by omega
  have hr4 : ¬ (room : Int) < 4 := by omega
  have hd0 : ¬ (d : Int) + 1 = 0 := by omega
  have hix : ixOf 10 (q : Int) = some q := ixOf_nat hq
  have hrm : ((room - 1 : Nat) : Int) = (room : Int) - 1 := by omega
  rw [hrm] at r1
  have r1 : (ctx T wf k).call "_law_shares" [.loc t, .int ((room : Int) - 1), .int 2] (M1 ++ [.lst []] ++ [.lst [.int 2, .int 3]]) = .ok (.loc L) N1 := r1
  have hwk := walked_lst r2
  have htup : doBi (N2 ++ [.lst (Tm.pvs acc)] ++ [.lst [.str wd, .str "plus"]]) .tuple [.loc N2.length] = .ok (.tup (Tm.pvs acc)) (N2 ++ [.lst (Tm.pvs acc)] ++ [.lst [.str wd, .str "plus"]]) := doBi_tuple_lst (app_get app_new)
  have hnew : (N2 ++ [MO.lst (Tm.pvs acc)] ++ [.lst [.str wd, .str "plus"]])[N2.length + 1]? = some (.lst [.str wd, .str "plus"]) := by
    have : N2.length + 1 = (N2 ++ [MO.lst (Tm.pvs acc)]).length := by simp
    rw [this]; exact app_new
  have hb2 : 1 + acc.length ≤ 16777216 := by omega
  have hemp := doEq_strs_nil (K1.appw [.lst []]) app_new
  have hidx : (M1 ++ [MO.lst []] ++ [MO.lst [.int 2, .int 3]])[M1.length + 1]? = some (.lst [.int 2, .int 3]) := by
    have : M1.length + 1 = (M1 ++ [MO.lst []]).length := by simp
    rw [this]; exact app_new
  refine ⟨.nd .plus acc, N2 ++ [.lst (Tm.pvs acc)] ++ [.lst [.str wd, .str "plus"]], ws', ?_, (c2.app _).app _, (Fr.app.trans f1).tw.trans ((Fr.app.trans (Fr.app.trans c3)).trans (Fr.app.trans Fr.app)), by simpa [Tm.lets, Kd.lets] using c4, ⟨by simp [Kd.due, c1], trivial, Tm.oks_of (fun i => rfl) c5⟩, by simp only [Tm.size]; omega, by simp only [Tm.deep]; omega⟩
  simp only [tws] at e1 hW hw
  simp only [List.append_assoc, List.cons_append, List.nil_append] at htup hnew hidx r1 ⊢
  subst h1 h2
  simp at hemp
  simp [runFn, f__law_term, hr1, hr4, hd0, big, e1, hW, hix, hw, K1.kd, hemp, hidx, r1, hwk, r3, htup, hnew, hb2, Tm.pv, Kd.pv]
end
end Wn
end
section
/-! G9: lets; all terms; bodies. -/
namespace Wn
open PySem
theorem two_of_length {α : Type} {xs : List α} (h : xs.length = 2) : ∃ a b, xs = [a, b] := by
  match xs, h with
  | [a, b], _ => exact ⟨a, b, rfl⟩
theorem nodup_let {A ws0 ws1 l : List Str} {x : Str} (h : (A ++ (ws0 ++ [x])).Nodup) (g : ws0 = ws1 ++ l) : ((A ++ [x]) ++ ws1).Nodup := by
  subst g
  have h1 : (A ++ (ws1 ++ [x])).Nodup := h.sublist (List.Sublist.append_left (List.Sublist.append_right (List.sublist_append_left ws1 l) [x]) A)
  have hp : (A ++ (ws1 ++ [x])).Perm ((A ++ [x]) ++ ws1) := by
    rw [List.append_assoc]
    exact List.Perm.append_left A List.perm_append_comm
  exact hp.nodup_iff.1 h1

section
variable {t kn e h w : Nat} {ES : List Str} {HD : List (Str × Nat)} {d : Nat} {wf k : Nat} {M M1 : Store} {a : Nat} {A ws : List Str} {room q : Nat} {wd : Str}
theorem term_let (hk : 2 * (d + 1) + 5 ≤ k + 1) (hr : 4 ≤ room) (hr2 : room ≤ 1000)
  (e1 : (ctx T wf k).call "_law_digit" [.loc t, .int 10] (M ++ [.lst tws]) = .ok (.int q) M1) (hq : q < 10) (f1 : Fr [t] (M ++ [.lst tws]) M1) (hw : tws[q]? = some (.str wd))
  (K1 : Kn t kn e h w ES HD ws M1) (hW : M1[M.length]? = some (.lst tws)) (ha1 : M1[a]? = some (.lst (A.map .str))) (hat : a ≠ t) (haw : a ≠ w) (hA : A.length + (d + 1) ≤ 100) (hN : (A ++ ws).Nodup)
  (ih : TermSpec t kn e h w ES HD d) (h1 : wd = "let") {ws0 : List Str} {x : Str} (h2 : ws = ws0 ++ [x]) :
    Out t kn e h w ES HD M A ws room (d + 1 + 2) (runFn (ctx T wf k) f__law_term [.loc t, .loc kn, .loc a, .int room, .int ((d + 1 : Nat) : Int)] M) := by
  subst h1 h2
  have Ka := K1.app [.lst []]
  have haa : (M1 ++ [MO.lst []])[a]? = some (.lst (A.map .str)) := app_get ha1
  have hemp := doEq_strs_nil Ka.wd app_new
  have hpop : doBm (M1 ++ [MO.lst []]) .pop (.loc w) [] = .ok (.str x) ((M1 ++ [MO.lst []]).set w (.lst (ws0.map .str))) := doBm_pop (xs := ws0.map .str) (y := .str x) (by rw [Ka.wd]; simp)
  have hok : bmOk (M1 ++ [MO.lst []]) .pop (.loc w) = true := by rw [bmOk_lst Ka.wd]; rfl
  have Kb : Kn t kn e h w ES HD ws0 ((M1 ++ [MO.lst []]).set w (.lst (ws0.map .str))) := Ka.pop
  have fb : Fr [w] (M1 ++ [MO.lst []]) ((M1 ++ [MO.lst []]).set w (.lst (ws0.map .str))) := Fr.set (by simp)
  have hab := fb.get haa (by simp [haw])
  obtain ⟨ss, N1, L, r1, hL, hsl, hs1, hss, f3, t3, hLM⟩ := shares (wf := wf) (k := k) (M := (M1 ++ [MO.lst []]).set w (.lst (ws0.map .str))) (t := t) (room := room - 1) (many := 2) (by omega) Kb.tape (by omega) (by omega) (by omega)
  obtain ⟨s0, s1, rfl⟩ := two_of_length hsl
  have hs0 := hs1 s0 (by simp)
  have hs1' := hs1 s1 (by simp)
  have hsum : s0 + s1 ≤ room - 1 := by simpa using hss
  have K2 := Kb.fr f3 t3
  have ha2 := f3.get hab (by simp [hat])
  have hNx := hN
  have hN0 : (A ++ ws0).Nodup := nodup_pre hN rfl
  obtain ⟨tm1, N2, ws1, r2, K3, f4, p1, p2, p3, p4⟩ := ih wf k N1 a A ws0 s0 (by omega) K2 ha2 hat haw (by omega) hN0 (by omega) (by omega)
  have ha3 := f4.get ha2 (by simp [hat, haw])
  have hwl := lt_of_get Ka.wd
  have htl := Ka.tape.lt
  have hLn : L ≠ t ∧ L ≠ w := by simp only [List.length_set] at hLM; omega
  have hL2 : N2[L]? = some (.lst (nats [s0, s1])) := f4.get hL (by simp; omega)
  let N3 : Store := (N2 ++ [.lst [.str x]]) ++ [.lst ((A ++ [x]).map .str)]
  have hadd : doBin (N2 ++ [.lst [.str x]]) .add (.loc a) (.loc N2.length) = .ok (.loc (N2.length + 1)) N3 := by
    rw [doBin_add_loc (app_get ha3) app_new (by simp [big]; omega)]
    simp [N3]
  have hA3 : N3[N2.length + 1]? = some (.lst ((A ++ [x]).map .str)) := by
    have : N2.length + 1 = (N2 ++ [MO.lst [.str x]]).length := by simp
    simp only [N3]
    rw [this]; exact app_new
  have hN2t := K3.tape.lt
  have hN2w := lt_of_get K3.wd
  have K4 : Kn t kn e h w ES HD ws1 N3 := (K3.app _).app _
  obtain ⟨tm2, N4, ws2, r3, K5, f5, q1, q2, q3, q4⟩ := ih wf k N3 (N2.length + 1) (A ++ [x]) ws1 s1 (by omega) K4 hA3 (by omega) (by omega) (by simp; omega) (nodup_let hNx p1) (by omega) (by omega)
  have hxA : x ∉ A := by
    have := List.nodup_append.1 hNx
    intro hx
    exact this.2.2 x hx x (by simp) rfl
  have fw : Fr [t, w] (M1 ++ [MO.lst []]) ((M1 ++ [MO.lst []]).set w (.lst (ws0.map .str))) := fb.mono (by simp; omega)
  have fall : Fr [t, w] M N4 := (Fr.app.trans f1).tw.trans ((Fr.app.trans fw).trans (f3.tw.trans (f4.trans ((Fr.app.trans Fr.app).trans f5))))
  refine ⟨.nd (.lett x) [tm1, tm2], N4, ws2, ?_, K5, fall, ?_, ?_, ?_, ?_⟩
  · have hr1 : ¬ (room : Int) < 2 := by omega
    have hr4 : ¬ (room : Int) < 4 := by omega
    have hd0 : ¬ (d : Int) + 1 = 0 := by omega
    have hix : ixOf 10 (q : Int) = some q := ixOf_nat hq
    have hrm : ((room - 1 : Nat) : Int) = (room : Int) - 1 := by omega
    rw [hrm] at r1
    have r1 : (ctx T wf k).call "_law_shares" [.loc t, .int ((room : Int) - 1), .int 2] ((M1 ++ [MO.lst []]).set w (.lst (ws0.map .str))) = .ok (.loc L) N1 := r1
    simp only [tws] at e1 hW hw
    simp only [nats, List.map_cons, List.map_nil] at hL hL2
    have hL3 : N3[L]? = some (.lst [.int s0, .int s1]) := app_get (app_get hL2)
    have hne : (ws0 ++ [x]).isEmpty = false := by cases ws0 <;> rfl
    rw [hne] at hemp
    have hkd := Ka.kd
    simp [runFn, f__law_term, hr1, hr4, hd0, big, e1, hW, hix, hw, K1.kd, hemp, hkd, hok, hpop, r1, hL, r2, hadd, hL3, r3, Tm.pv, Kd.pv, Tm.pvs]
  · simp [Tm.lets, Tm.letss, Kd.lets, p1, q1]
  · refine ⟨rfl, hxA, ?_⟩
    simp [Tm.oks, Kd.around, p2, q2]
  · simp [Tm.size, Tm.sizes]; omega
  · simp [Tm.deep, Tm.deeps]; omega
end

theorem termSpec {t kn e h w : Nat} {ES : List Str} {HD : List (Str × Nat)} : ∀ d : Nat, TermSpec t kn e h w ES HD d
  | 0 => termSpec0
  | d + 1 => by
    have ih := termSpec (t := t) (kn := kn) (e := e) (h := h) (w := w) (ES := ES) (HD := HD) d
    have ihA := askSpec ih
    intro wf k M a A ws room hk K ha hat haw hA hN hr hr2
    obtain ⟨k, rfl⟩ := Nat.exists_eq_add_of_le' (show 1 ≤ k by omega)
    rw [call_of lk__law_term]
    by_cases hr1 : room < 2
    · exact term_leaf hk K ha hat hA hr hr1
    obtain ⟨q, M1, e1, l1, f1, t1⟩ := digitE (wf := wf) (k := k) (M := M ++ [.lst tws]) (t := t) (by omega) K.tape.app (m := 10) (by decide) (by decide)
    have hq : q < 10 := by omega
    have K1 := (K.app [.lst tws]).fr f1 t1
    have hW : M1[M.length]? = some (.lst tws) := f1.get app_new (by have := K.tape.lt; simp; omega)
    have ha1 : M1[a]? = some (.lst (A.map .str)) := f1.get (app_get ha) (by simp [hat])
    have hr3 : 2 ≤ room := by omega
    by_cases hr4 : room < 4
    · have hc : q = 0 ∨ q = 1 ∨ q = 2 ∨ q = 3 ∨ q = 4 ∨ q = 5 ∨ q = 6 ∨ q = 7 ∨ q = 8 ∨ q = 9 := by omega
      rcases hc with h | h | h | h | h | h | h | h | h | h <;> subst h
      · exact term_tell hk hr3 hr2 e1 hq f1 (wd := "plus") rfl K1 hW ha1 hat haw hA hN ih (by simp) (.inr hr4)
      · exact term_tell hk hr3 hr2 e1 hq f1 (wd := "less") rfl K1 hW ha1 hat haw hA hN ih (by simp) (.inr hr4)
      · exact term_tell hk hr3 hr2 e1 hq f1 (wd := "tell") rfl K1 hW ha1 hat haw hA hN ih (by simp) (.inr hr4)
      · exact term_tell hk hr3 hr2 e1 hq f1 (wd := "let") rfl K1 hW ha1 hat haw hA hN ih (by simp) (.inr hr4)
      · exact term_tell hk hr3 hr2 e1 hq f1 (wd := "if") rfl K1 hW ha1 hat haw hA hN ih (by simp) (.inr hr4)
      · exact term_ask hk hr3 hr2 e1 hq f1 rfl K1 hW ha1 hat haw hA hN ihA rfl
      · exact term_ask hk hr3 hr2 e1 hq f1 rfl K1 hW ha1 hat haw hA hN ihA rfl
      · exact term_ask hk hr3 hr2 e1 hq f1 rfl K1 hW ha1 hat haw hA hN ihA rfl
      · exact term_tell hk hr3 hr2 e1 hq f1 (wd := "plus") rfl K1 hW ha1 hat haw hA hN ih (by simp) (.inr hr4)
      · exact term_tell hk hr3 hr2 e1 hq f1 (wd := "let") rfl K1 hW ha1 hat haw hA hN ih (by simp) (.inr hr4)
    · have hr5 : 4 ≤ room := by omega
      have hlet : ∀ {q : Nat}, (ctx T wf k).call "_law_digit" [.loc t, .int 10] (M ++ [.lst tws]) = .ok (.int q) M1 → q < 10 → tws[q]? = some (.str "let") → Out t kn e h w ES HD M A ws room (d + 1 + 2) (runFn (ctx T wf k) f__law_term [.loc t, .loc kn, .loc a, .int room, .int ((d + 1 : Nat) : Int)] M) := by
        intro q e1 hq hw
        rcases List.eq_nil_or_concat ws with h | ⟨ws0, x, h⟩
        · exact term_nolet hk hr5 hr2 e1 hq f1 hw K1 hW ha1 hat haw hA hN ih rfl h
        · exact term_let hk hr5 hr2 e1 hq f1 hw K1 hW ha1 hat haw hA hN ih rfl (by simpa using h)
      have hc : q = 0 ∨ q = 1 ∨ q = 2 ∨ q = 3 ∨ q = 4 ∨ q = 5 ∨ q = 6 ∨ q = 7 ∨ q = 8 ∨ q = 9 := by omega
      rcases hc with h | h | h | h | h | h | h | h | h | h <;> subst h
      · exact term_two hk hr5 hr2 e1 hq f1 rfl K1 hW ha1 hat haw hA hN ih (.inl ⟨rfl, rfl⟩)
      · exact term_two hk hr5 hr2 e1 hq f1 rfl K1 hW ha1 hat haw hA hN ih (.inr ⟨rfl, rfl⟩)
      · exact term_tell hk hr3 hr2 e1 hq f1 (wd := "tell") rfl K1 hW ha1 hat haw hA hN ih (by simp) (.inl rfl)
      · exact hlet e1 hq rfl
      · exact term_if hk hr5 hr2 e1 hq f1 rfl K1 hW ha1 hat haw hA hN ih rfl
      · exact term_ask hk hr3 hr2 e1 hq f1 rfl K1 hW ha1 hat haw hA hN ihA rfl
      · exact term_ask hk hr3 hr2 e1 hq f1 rfl K1 hW ha1 hat haw hA hN ihA rfl
      · exact term_ask hk hr3 hr2 e1 hq f1 rfl K1 hW ha1 hat haw hA hN ihA rfl
      · exact term_two hk hr5 hr2 e1 hq f1 rfl K1 hW ha1 hat haw hA hN ih (.inl ⟨rfl, rfl⟩)
      · exact hlet e1 hq rfl
end Wn
end
section
/-! G10: bodies, books. -/
namespace Wn
open PySem
theorem body {t kn e h w : Nat} {ES : List Str} {HD : List (Str × Nat)} {wf k : Nat} {M : Store} {a : Nat} {A ws : List Str} {room : Nat} (hk : 30 ≤ k) (K : Kn t kn e h w ES HD ws M) (ha : M[a]? = some (.lst (A.map .str))) (hat : a ≠ t) (haw : a ≠ w) (hA : A.length ≤ 10) (hN : (A ++ ws).Nodup) (hr : 4 ≤ room) (hr2 : room ≤ 1000) :
    Out t kn e h w ES HD M A ws room 13 ((ctx T wf k).call "_law_body" [.loc t, .loc kn, .loc a, .int room] M) := by
  obtain ⟨k, rfl⟩ := Nat.exists_eq_add_of_le' (show 1 ≤ k by omega)
  rw [call_of lk__law_body]
  have K0 := K.app [.lst []]
  have ha0 : (M ++ [MO.lst []])[a]? = some (.lst (A.map .str)) := app_get ha
  have hemp := doEq_strs_nil ha0 app_new
  cases A with
  | nil =>
    obtain ⟨tm, M', ws', r, q1, q2, q3⟩ := termSpec 11 wf k (M ++ [.lst []]) a [] ws room (by omega) K0 ha0 hat haw (by simp) hN (by omega) hr2
    refine ⟨tm, M', ws', ?_, q1, Fr.app.trans q2, q3⟩
    have r : (ctx T wf k).call "_law_term" [.loc t, .loc kn, .loc a, .int room, .int 11] (M ++ [.lst []]) = .ok tm.pv M' := r
    simp [runFn, f__law_body, big, hemp, r]
  | cons y A =>
    obtain ⟨d, M1, e1, l1, f1, t1⟩ := digitE (wf := wf) (k := k) (M := M ++ [.lst []]) (t := t) (by omega) K0.tape (m := 4) (by decide) (by decide)
    have K1 := K0.fr f1 t1
    have ha1 := f1.get ha0 (by simp [hat])
    by_cases hd : d = 0
    · obtain ⟨tm, M', ws', r, q1, q2, q3⟩ := termSpec 11 wf k M1 a (y :: A) ws room (by omega) K1 ha1 hat haw (by omega) hN (by omega) hr2
      refine ⟨tm, M', ws', ?_, q1, (Fr.app.trans f1).tw.trans q2, q3⟩
      have r : (ctx T wf k).call "_law_term" [.loc t, .loc kn, .loc a, .int room, .int 11] M1 = .ok tm.pv M' := r
      subst hd
      simp [runFn, f__law_body, big, hemp, e1, r]
    · have hd' : 0 < d := by omega
      obtain ⟨ss, N1, L, r1, hL, hsl, hs1, hss, f3, t3, hLM⟩ := shares (wf := wf) (k := k) (M := M1) (t := t) (room := room - 2) (many := 2) (by omega) t1 (by omega) (by omega) (by omega)
      obtain ⟨s0, s1, rfl⟩ := two_of_length hsl
      have hs0 := hs1 s0 (by simp)
      have hs1' := hs1 s1 (by simp)
      have hsum : s0 + s1 ≤ room - 2 := by simpa using hss
      have K2 := K1.fr f3 t3
      have ha2 := f3.get ha1 (by simp [hat])
      have hLt : L ≠ t ∧ L ≠ w := by have := K1.tape.lt; have := lt_of_get K1.wd; omega
      obtain ⟨tm1, N2, ws1, r2, K3, f4, p1, p2, p3, p4⟩ := termSpec 10 wf k N1 a (y :: A) ws s0 (by omega) K2 ha2 hat haw (by omega) hN (by omega) (by omega)
      have ha3 := f4.get ha2 (by simp [hat, haw])
      have hL2 := f4.get hL (by simp [hLt.1, hLt.2])
      obtain ⟨tm2, N3, ws2, r3, K4, f5, q1, q2, q3, q4⟩ := termSpec 10 wf k N2 a (y :: A) ws1 s1 (by omega) K3 ha3 hat haw (by omega) (nodup_pre hN p1) (by omega) (by omega)
      refine ⟨.nd .iff [.nd (.nam y) [], tm1, tm2], N3, ws2, ?_, K4, (Fr.app.trans f1).tw.trans (f3.tw.trans (f4.trans f5)), ?_, ?_, ?_, ?_⟩
      · have r2 : (ctx T wf k).call "_law_term" [.loc t, .loc kn, .loc a, .int s0, .int 10] N1 = .ok tm1.pv N2 := r2
        have r3 : (ctx T wf k).call "_law_term" [.loc t, .loc kn, .loc a, .int s1, .int 10] N2 = .ok tm2.pv N3 := r3
        have hrm : ((room - 2 : Nat) : Int) = (room : Int) - 2 := by omega
        rw [hrm] at r1
        have r1 : (ctx T wf k).call "_law_shares" [.loc t, .int ((room : Int) - 2), .int 2] M1 = .ok (.loc L) N1 := r1
        simp only [nats, List.map_cons, List.map_nil] at hL hL2
        simp only [List.map_cons] at ha3
        simp only [List.isEmpty_cons] at hemp
        have ha2' := ha2
        simp only [List.map_cons] at ha2'
        simp [runFn, f__law_body, big, hemp, e1, hd', r1, hL, r2, ha2', ha3, hL2, r3, Tm.pv, Kd.pv, Tm.pvs]
      · simp [Tm.lets, Tm.letss, Kd.lets, p1, q1]
      · refine ⟨rfl, trivial, ?_⟩
        simp [Tm.oks, Kd.around, Tm.ok, Kd.due, Kd.fits, p2, q2]
      · simp [Tm.size, Tm.sizes]; omega
      · simp [Tm.deep, Tm.deeps]; omega

/-- an errand -/
structure Er where
  name : Str
  names : List Str
  body : Tm
def Er.pv (r : Er) : PV := .tup [.str r.name, .tup (r.names.map .str), r.body.pv]
def hdOf (EL : List Er) : List (Str × Nat) := EL.map fun r => (r.name, r.names.length)
/-- a book as the cells make it -/
structure Made (EL : List Er) : Prop where
  n1 : 1 ≤ EL.length
  n6 : EL.length ≤ 6
  nd : (EL.map Er.name).Nodup
  each : ∀ r ∈ EL, isW r.name = true ∧ (∀ x ∈ r.names, isW x = true) ∧ (r.names ++ r.body.lets).Nodup ∧ r.names.length ≤ 4 ∧ (∀ x ∈ r.body.lets, isW x = true) ∧ r.body.ok (fun f => (hdOf EL).lookup f) r.names ∧ r.body.size ≤ 40 ∧ r.body.deep ≤ 13

theorem putD_new {f : Str} {v : PV} {HD : List (Str × Nat)} (hf : f ∉ HD.map (·.1)) : putD (.str f) v (heads HD) = heads HD ++ [(.str f, v)] := by
  have : ¬ ((heads HD).any fun p => decide (p.1 = .str f)) = true := by
    intro h
    rw [List.any_eq_true] at h
    obtain ⟨p, hp, he⟩ := h
    simp only [heads, List.mem_map] at hp
    obtain ⟨q, hq, rfl⟩ := hp
    simp only [decide_eq_true_eq, PV.str.injEq] at he
    exact hf (he ▸ List.mem_map.2 ⟨q, hq, rfl⟩)
  simp only [putD]; rw [if_neg this]
theorem lookup_at : ∀ {HD : List (Str × Nat)} {j : Nat} (h : j < HD.length), (HD.map (·.1)).Nodup → HD.lookup HD[j].1 = some HD[j].2
  | (f, n) :: HD, 0, _, _ => by simp [List.lookup]
  | (f, n) :: HD, j + 1, h, hn => by
    simp only [List.map_cons, List.nodup_cons] at hn
    have hj : j < HD.length := by simpa using h
    have hne : HD[j].1 ≠ f := fun e => hn.1 (e ▸ List.mem_map.2 ⟨HD[j], List.getElem_mem hj, rfl⟩)
    simp only [List.getElem_cons_succ, List.lookup_cons]
    have : (HD[j].1 == f) = false := by simpa using hne
    rw [this]
    exact lookup_at hj hn.2
end Wn
end
section
/-! G11: the book. -/
namespace Wn
open PySem
theorem cut_take {α : Type} {xs : List α} {n : Nat} (h : n ≤ xs.length) : cut xs none (some (n : Int)) = xs.take n := by
  have : ¬ (n : Int) < 0 := by omega
  simp [cut, cutIx, this]
theorem cut_drop {α : Type} {xs : List α} {n : Nat} (h : n ≤ xs.length) : cut xs (some (n : Int)) none = xs.drop n := by
  have : ¬ (n : Int) < 0 := by omega
  have h2 : min n xs.length = n := by omega
  simp only [cut, cutIx, this, h2, if_false, Int.toNat_natCast]
  exact List.take_of_length_le (by simp)
theorem known_dic (e h w : Nat) : mergeD [] [(.str "errands", .loc e), (.str "heads", .loc h), (.str "words", .loc w)] = knd e h w := by
  simp [mergeD, putD, knd]

/-- an errand as it is made -/
def Er.good (H : Str → Option Nat) (r : Er) : Prop := isW r.name = true ∧ (∀ x ∈ r.names, isW x = true) ∧ (r.names ++ r.body.lets).Nodup ∧ r.names.length ≤ 4 ∧ (∀ x ∈ r.body.lets, isW x = true) ∧ r.body.ok H r.names ∧ r.body.size ≤ 40 ∧ r.body.deep ≤ 13

section
variable {wf k : Nat} {ns : List Int} {st t0 e h F room : Nat} {ES : List Str} {HD : List (Str × Nat)} {M0 : Store}

/-- how many names each has -/
theorem heads_loop (hk : 1 ≤ k) (hE : fine ES) (hE6 : ES.length ≤ 6) (h1 : t0 ≠ e) (h2 : t0 ≠ h) (h3 : e ≠ h) (hm1 : M0.length ≤ t0) (hm2 : M0.length ≤ e) (hm3 : M0.length ≤ h) {N : Store} (hNe : N[e]? = some (.lst (ES.map .str))) (hNh : N[h]? = some (.dic [])) (hNt : IsTape N t0) (hF : Fr [] M0 N) :
    ∃ (HD : List (Str × Nat)) (o : Option PV) (N' : Store), forGo (some (e, ES.map .str)) (forStep (ctx T wf k) (.nm 5) b1__law_book) (ES.map .str) [some (.fl ns), some (.int st), some (.loc t0), some (.loc e), some (.loc h), none, none, none, none, none, none, none, none] N
        = .ok (.nx [some (.fl ns), some (.int st), some (.loc t0), some (.loc e), some (.loc h), o, none, none, none, none, none, none, none]) N'
      ∧ HD.map (·.1) = ES ∧ (∀ p ∈ HD, p.2 ≤ 4) ∧ N'[e]? = some (.lst (ES.map .str)) ∧ N'[h]? = some (.dic (heads HD)) ∧ IsTape N' t0 ∧ Fr [] M0 N' := by
  let P : List PV → Env → Store → Prop := fun xs E Q => ∃ (j : Nat) (HD : List (Str × Nat)) (o : Option PV), xs = (ES.drop j).map .str ∧ j ≤ ES.length ∧ HD.map (·.1) = ES.take j ∧ (∀ p ∈ HD, p.2 ≤ 4) ∧ E = [some (.fl ns), some (.int st), some (.loc t0), some (.loc e), some (.loc h), o, none, none, none, none, none, none, none] ∧ Q[e]? = some (.lst (ES.map .str)) ∧ Q[h]? = some (.dic (heads HD)) ∧ IsTape Q t0 ∧ Fr [] M0 Q
  have hLoop := forGo_run (w := some (e, ES.map .str)) (step := forStep (ctx T wf k) (.nm 5) b1__law_book) P
    (by rintro xs E Q ⟨j, HD, o, _, _, _, _, _, g, _⟩; simp [Watch.ok, g])
    (by
      rintro x xs E Q ⟨j, HD, o, hxs, hj, g1, g2, rfl, g3, g4, g5, g6⟩
      have hjs : j < ES.length := by
        rcases Nat.lt_or_ge j ES.length with h | h
        · exact h
        · rw [List.drop_of_length_le h] at hxs; cases hxs
      rw [List.drop_eq_getElem_cons hjs, List.map_cons] at hxs
      obtain ⟨rfl, rfl⟩ := List.cons.inj hxs
      obtain ⟨d, Q1, e1, l1, f1, t1⟩ := digitE (wf := wf) (k := k) (M := Q ++ [.lst (nats [1, 2, 1, 0, 3, 4])]) (t := t0) (by omega) g5.app (m := 6) (by decide) (by decide)
      have hd : d < 6 := by omega
      have hix : ixOf 6 (d : Int) = some d := ixOf_nat hd
      have hl : Q1[Q.length]? = some (.lst (nats [1, 2, 1, 0, 3, 4])) := f1.get app_new (by have := g5.lt; simp; omega)
      have hg := nats_get (ss := [1, 2, 1, 0, 3, 4]) hd
      have hv : [1, 2, 1, 0, 3, 4][d] ≤ 4 := by
        have : d = 0 ∨ d = 1 ∨ d = 2 ∨ d = 3 ∨ d = 4 ∨ d = 5 := by omega
        rcases this with h | h | h | h | h | h <;> subst h <;> simp
      generalize [1, 2, 1, 0, 3, 4][d] = v at hg hv
      have hh1 : Q1[h]? = some (.dic (heads HD)) := f1.get (app_get g4) (by simp [Ne.symm h2])
      have he1 : Q1[e]? = some (.lst (ES.map .str)) := f1.get (app_get g3) (by simp [Ne.symm h1])
      have hfr : ES[j] ∉ HD.map (·.1) := by
        rw [g1]
        intro hm
        have hn := hE.1
        rw [← List.take_append_drop j ES, List.drop_eq_getElem_cons hjs] at hn
        exact (List.nodup_append.1 hn).2.2 _ hm _ (List.mem_cons_self ..) rfl
      have hput := putD_new (v := .int (v : Int)) hfr
      have hput2 : heads HD ++ [(.str ES[j], .int (v : Int))] = heads (HD ++ [(ES[j], v)]) := by simp [heads]
      rw [hput2] at hput
      have hlen : (heads HD).length < big := by
        have h9 : HD.length = j := by
          have := congrArg List.length g1
          simp at this; omega
        simp [heads, big]; omega
      refine ⟨[some (.fl ns), some (.int st), some (.loc t0), some (.loc e), some (.loc h), some (.str ES[j]), none, none, none, none, none, none, none], Q1.set h (.dic (heads (HD ++ [(ES[j], v)]))), ?_, j + 1, HD ++ [(ES[j], v)], _, rfl, by omega, ?_, ?_, rfl, by rw [set_get_ne (Ne.symm h3)]; exact he1, set_get hh1, ?_, ?_⟩
      · have hnn : nats [1, 2, 1, 0, 3, 4] = [.int 1, .int 2, .int 1, .int 0, .int 3, .int 4] := rfl
        rw [hnn] at e1 hl hg
        simp [forStep, setTg, b1__law_book, big, e1, hl, hix, hg, hh1, hlen, hput]
        simp [big] at hlen
        simp [hlen]
      · rw [List.map_append, g1, List.take_succ_eq_append_getElem hjs]; rfl
      · intro p hp
        rcases List.mem_append.1 hp with h | h
        · exact g2 p h
        · simp at h; subst h; exact hv
      · obtain ⟨u, hu⟩ := t1
        exact ⟨u, by rw [set_get_ne (Ne.symm h2)]; exact hu⟩
      · have hf : Fr [t0] M0 Q1 := g6.nil.trans (Fr.app.trans f1)
        refine ⟨by have := hf.1; simpa using this, fun n hn _ => ?_⟩
        rw [set_get_ne (by omega)]
        exact hf.2 n hn (by simp; omega))
  obtain ⟨E', N', eL, j, HD, o, hxs, hj, g1, g2, rfl, g3, g4, g5, g6⟩ := hLoop (ES.map .str) _ N ⟨0, [], none, by simp, by omega, by simp, by simp, rfl, hNe, by simpa [heads] using hNh, hNt, hF⟩
  have hjn : ES.length ≤ j := by
    rcases Nat.lt_or_ge j ES.length with h | h
    · rw [List.drop_eq_getElem_cons h] at hxs; cases hxs
    · exact h
  refine ⟨HD, o, N', eL, ?_, g2, g3, g4, g5, g6⟩
  rw [g1, List.take_of_length_le hjn]
end
end Wn
end
section
/-! G12: the book's errands. -/
namespace Wn
open PySem
theorem map_take_str (ws : List Str) (n : Nat) : (ws.map PV.str).take n = (ws.take n).map PV.str := by simp
theorem map_drop_str (ws : List Str) (n : Nat) : (ws.map PV.str).drop n = (ws.drop n).map PV.str := by simp

theorem errand_step {wf k : Nat} {ns : List Int} {st t0 e h F room j : Nat} {ES : List Str} {HD : List (Str × Nat)} {EL : List Er} {Q : Store} {o5 o8 o9' o10' o11' o12' : Option PV}
    (hk : 31 ≤ k) (hst : st ≤ 900) (hE : fine ES) (hE6 : ES.length ≤ 6) (hHD : HD.map (·.1) = ES) (hHD4 : ∀ p ∈ HD, p.2 ≤ 4) (hroom : 4 ≤ room ∧ room ≤ 40) (hj : j < ES.length)
    (ge : Q[e]? = some (.lst (ES.map .str))) (gh : Q[h]? = some (.dic (heads HD))) (gF : Q[F]? = some (.lst (EL.map Er.pv))) (hEL : EL.length = j) (hneF : F ≠ e ∧ F ≠ h) :
    ∃ (r : Er) (o9 o10 o11 o12 : Option PV) (Q' : Store), forStep (ctx T wf k) (.nm 8) b2__law_book (.int (j : Int)) [some (.fl ns), some (.int st), some (.loc t0), some (.loc e), some (.loc h), o5, some (.int room), some (.loc F), o8, o9', o10', o11', o12'] Q
        = .ok (.nx [some (.fl ns), some (.int st), some (.loc t0), some (.loc e), some (.loc h), o5, some (.int room), some (.loc F), some (.int j), o9, o10, o11, o12]) Q'
      ∧ r.name = ES[j] ∧ HD.lookup r.name = some r.names.length ∧ r.good (fun f => HD.lookup f) ∧ Fr [F] Q Q' ∧ Q'[F]? = some (.lst ((EL ++ [r]).map Er.pv)) := by
  have hlj : j < HD.length := by
    have := congrArg List.length hHD
    simp at this; omega
  have hfst : HD[j].1 = ES[j] := by
    have : (HD.map (·.1))[j]'(by simpa using hlj) = ES[j] := by simp only [hHD]
    simpa using this
  have hlook : HD.lookup ES[j] = some HD[j].2 := by
    rw [← hfst]; exact lookup_at hlj (by rw [hHD]; exact hE.1)
  have hn4 : HD[j].2 ≤ 4 := hHD4 _ (List.getElem_mem hlj)
  generalize HD[j].2 = n at hlook hn4
  obtain ⟨Q1, r1, f1, t1, len1⟩ := tape (wf := wf) (k := k) (by omega) ns (st + 1 + j) (by omega) Q
  obtain ⟨ws, Q2, wl, r2, hw2, hwl, hfine, f2, t2, hwL⟩ := words (wf := wf) (k := k) (by omega) t1 (n := 16) (by omega)
  have hQ := lt_of_get ge
  have hQh := lt_of_get gh
  have hQF := lt_of_get gF
  have hh := heads_lookup ES[j] HD
  rw [hlook] at hh
  simp only [Option.map_some] at hh
  have hix : ixOf ES.length (j : Int) = some j := ixOf_nat hj
  -- what is made behind
  let a := Q2.length
  let Q3 : Store := Q2 ++ [.lst ((ws.take n).map .str)]
  let Q4 : Store := Q3 ++ [.lst ((ws.drop n).map .str)]
  let Q5 : Store := Q4 ++ [.dic (knd e h (Q2.length + 1))]
  have l12 : Q1.length ≤ Q2.length := f2.1
  have g2e : Q2[e]? = some (.lst (ES.map .str)) := f2.get (f1.get ge (by simp)) (by simp; omega)
  have g2h : Q2[h]? = some (.dic (heads HD)) := f2.get (f1.get gh (by simp)) (by simp; omega)
  have g2F : Q2[F]? = some (.lst (EL.map Er.pv)) := f2.get (f1.get gF (by simp)) (by simp; omega)
  have g3a : Q3[Q2.length]? = some (.lst ((ws.take n).map .str)) := app_new
  have hl3 : Q3.length = Q2.length + 1 := by simp [Q3]
  have hl4 : Q4.length = Q2.length + 2 := by simp [Q4, hl3]
  have g4w : Q4[Q2.length + 1]? = some (.lst ((ws.drop n).map .str)) := by rw [← hl3]; exact app_new
  have g5k : Q5[Q2.length + 2]? = some (.dic (knd e h (Q2.length + 1))) := by rw [← hl4]; exact app_new
  have K5 : Kn Q.length (Q2.length + 2) e h (Q2.length + 1) ES HD (ws.drop n) Q5 := by
    refine ⟨t2.app.app.app, g5k, app_get (app_get (app_get g2e)), app_get (app_get (app_get g2h)), app_get g4w, ?_, ?_, ?_, ?_, ?_, ?_, ?_, ?_, ?_, ?_⟩
    all_goals first | omega | skip
    intro f hf
    rw [← hHD] at hf
    obtain ⟨p, hp, rfl⟩ := List.mem_map.1 hf
    obtain ⟨i, hi, rfl⟩ := List.mem_iff_getElem.1 hp
    exact ⟨_, lookup_at hi (by rw [hHD]; exact hE.1), hHD4 _ hp⟩
  have g5a : Q5[Q2.length]? = some (.lst ((ws.take n).map .str)) := app_get (app_get g3a)
  have hNd : (ws.take n ++ ws.drop n).Nodup := by rw [List.take_append_drop]; exact hfine.1
  obtain ⟨tm, Q6, ws', r6, K6, f6, p1, p2, p3, p4⟩ := body (wf := wf) (k := k) (by omega) K5 g5a (by omega) (by omega) (by simp; omega) hNd hroom.1 (by omega)
  have g6F : Q6[F]? = some (.lst (EL.map Er.pv)) := f6.get (app_get (app_get (app_get g2F))) (by simp; omega)
  have g6a : Q6[Q2.length]? = some (.lst ((ws.take n).map .str)) := f6.get g5a (by simp; omega)
  have hnl : (ws.take n).length = n := by simp; omega
  refine ⟨⟨ES[j], ws.take n, tm⟩, some (.loc Q.length), some (.loc wl), some (.loc Q2.length), some (.loc (Q2.length + 2)), Q6.set F (.lst ((EL ++ [(⟨ES[j], ws.take n, tm⟩ : Er)]).map Er.pv)), ?_, rfl, by simp [hlook]; omega, ?_, ?_, set_get g6F⟩
  · have hcast : ((st + 1 + j : Nat) : Int) = (st : Int) + 1 + (j : Int) := by omega
    rw [hcast] at r1
    have r2 : (ctx T wf k).call "_law_words" [.loc Q.length, .int 16] Q1 = .ok (.loc wl) Q2 := r2
    have hcut1 : cut (ws.map PV.str) none (some (n : Int)) = (ws.take n).map .str := by
      rw [cut_take (by simp; omega), map_take_str]
    have hcut2 : cut (ws.map PV.str) (some (n : Int)) none = (ws.drop n).map .str := by
      rw [cut_drop (by simp; omega), map_drop_str]
    have hsl1 : doSlice Q2 (.loc wl) none (some (n : Int)) = .ok (.loc Q2.length) Q3 := by
      rw [doSlice_lst hw2, hcut1]
    have hsl2 : doSlice Q3 (.loc wl) (some (n : Int)) none = .ok (.loc (Q2.length + 1)) Q4 := by
      rw [doSlice_lst (app_get hw2), hcut2, hl3]
    have hlen : doBi Q3 .len [.loc Q2.length] = .ok (.int n) Q3 := by
      rw [doBi_len_lst g3a]; simp; omega
    have htup : doBi Q5 .tuple [.loc Q2.length] = .ok (.tup ((ws.take n).map .str)) Q5 := doBi_tuple_lst g5a
    have hokb : bmOk Q5 .append (.loc F) = true := by rw [bmOk_lst (app_get (app_get (app_get g2F)))]; rfl
    have happ := doBm_append (v := Er.pv ⟨ES[j], ws.take n, tm⟩) g6F (by simp [big]; omega)
    have g5e : Q5[e]? = some (.lst (ES.map .str)) := app_get (app_get (app_get g2e))
    have hsome : (ES.map PV.str)[j]? = some (.str ES[j]) := by simp [hj]
    have hl4' := hl4
    simp only [Er.pv] at happ
    simp only [Q5] at htup hokb r6 g5e
    have hfp : flatPairs [.str "errands", .loc e, .str "heads", .loc h, .str "words", .loc (Q2.length + 1)] = some [(.str "errands", .loc e), (.str "heads", .loc h), (.str "words", .loc (Q2.length + 1))] := by simp [flatPairs]
    simp [forStep, setTg, b2__law_book, big, r1, r2, g2e, hix, hsome, hj, g2h, hh, hsl1, hlen, hsl2, hfp, known_dic, hl4, hokb, g5e, htup, r6, happ, Er.pv, -List.map_take, -List.map_drop]
  · refine ⟨hE.2 _ (List.getElem_mem hj), fun x hx => hfine.2 x (List.mem_of_mem_take hx), ?_, by simp; omega, ?_, p2, by simp only []; omega, p4⟩
    · have hsub : (ws.take n ++ tm.lets.reverse).Nodup := by
        rw [p1] at hNd
        exact hNd.sublist (List.Sublist.append_left (List.sublist_append_right ws' _) _)
      have hp : (ws.take n ++ tm.lets.reverse).Perm (ws.take n ++ tm.lets) := List.Perm.append_left _ (List.reverse_perm _)
      exact hp.nodup_iff.1 hsub
    · intro x hx
      refine hfine.2 x (List.mem_of_mem_drop (i := n) ?_)
      rw [p1]
      exact List.mem_append_right _ (List.mem_reverse.2 hx)
  · have hfa : Fr [Q.length, Q2.length + 1] Q Q6 := by
      have e1 : Fr [Q.length, Q2.length + 1] Q Q2 := f1.nil.trans (f2.mono (by simp; omega))
      exact e1.trans ((Fr.app.trans (Fr.app.trans Fr.app)).trans f6)
    refine ⟨by have := hfa.1; simpa using this, fun m hm hs => ?_⟩
    rw [set_get_ne (by intro he; subst he; simp at hs)]
    exact hfa.2 m hm (by simp; omega)

theorem book {wf k : Nat} (hk : 32 ≤ k) (ns : List Int) (st : Nat) (hst : st ≤ 900) (M : Store) :
    ∃ (EL : List Er) (M' : Store), (ctx T wf k).call "_law_book" [.fl ns, .int st] M = .ok (.tup (EL.map Er.pv)) M' ∧ Fr [] M M' ∧ Made EL := by
  obtain ⟨k, rfl⟩ := Nat.exists_eq_add_of_le' (show 1 ≤ k by omega)
  rw [call_of lk__law_book]
  obtain ⟨M1, r1, f1, t1, len1⟩ := tape (wf := wf) (k := k) (by omega) ns st (by omega) M
  obtain ⟨d, M2, r2, l2, f2, t2⟩ := digitE (wf := wf) (k := k) (M := M1 ++ [.lst (nats [1, 2, 2, 3, 4, 6])]) (t := M.length) (by omega) t1.app (m := 6) (by decide) (by decide)
  have hd : d < 6 := by omega
  have hix : ixOf 6 (d : Int) = some d := ixOf_nat hd
  have hl : M2[M1.length]? = some (.lst (nats [1, 2, 2, 3, 4, 6])) := f2.get app_new (by have := t1.lt; simp; omega)
  have hg := nats_get (ss := [1, 2, 2, 3, 4, 6]) hd
  have hv : 1 ≤ [1, 2, 2, 3, 4, 6][d] ∧ [1, 2, 2, 3, 4, 6][d] ≤ 6 := by
    have : d = 0 ∨ d = 1 ∨ d = 2 ∨ d = 3 ∨ d = 4 ∨ d = 5 := by omega
    rcases this with h | h | h | h | h | h <;> subst h <;> simp
  generalize [1, 2, 2, 3, 4, 6][d] = n at hg hv
  obtain ⟨ES, M3, e, r3, he3, hEl, hfine, f3, t3, hel⟩ := words (wf := wf) (k := k) (by omega) t2 (n := n) (by omega)
  have f23 : Fr [M.length] M1 M3 := Fr.app.trans (f2.trans f3)
  have f13 : Fr [] M M3 := ⟨Nat.le_trans f1.1 f23.1, fun m hm _ => (f23.2 m (by omega) (by simp; omega)).trans (f1.2 m hm (by simp))⟩
  have hl2 := f2.1
  have hM2 : M1.length + 1 ≤ M2.length := by simpa using hl2
  have he3l := lt_of_get he3
  let h := M3.length
  obtain ⟨HD, o5, M4, r4, hHD, hHD4, he4, hh4, t4, f4⟩ := heads_loop (wf := wf) (k := k) (ns := ns) (st := st) (t0 := M.length) (e := e) (h := M3.length) (M0 := M) (by omega) hfine (by omega) (by omega) (by omega) (by omega) (by omega) (by omega) (by omega) (N := M3 ++ [.dic []]) (app_get he3) app_new t3.app (f13.trans Fr.app)
  obtain ⟨d4, M5, r5, l5, f5, t5⟩ := digitE (wf := wf) (k := k) (M := M4 ++ [.lst (nats [8, 14, 24, 40])]) (t := M.length) (by omega) t4.app (m := 4) (by decide) (by decide)
  have hd4 : d4 < 4 := by omega
  have hix4 : ixOf 4 (d4 : Int) = some d4 := ixOf_nat hd4
  have hl4 : M5[M4.length]? = some (.lst (nats [8, 14, 24, 40])) := f5.get app_new (by have := t4.lt; simp; omega)
  have hg4 := nats_get (ss := [8, 14, 24, 40]) hd4
  have hv4 : 4 ≤ [8, 14, 24, 40][d4] ∧ [8, 14, 24, 40][d4] ≤ 40 := by
    have : d4 = 0 ∨ d4 = 1 ∨ d4 = 2 ∨ d4 = 3 := by omega
    rcases this with h | h | h | h <;> subst h <;> simp
  generalize [8, 14, 24, 40][d4] = room at hg4 hv4
  have he5 : M5[e]? = some (.lst (ES.map .str)) := f5.get (app_get he4) (by simp; omega)
  have hh5 : M5[M3.length]? = some (.dic (heads HD)) := f5.get (app_get hh4) (by simp; omega)
  have f15 : Fr [] M M5 := ⟨Nat.le_trans f4.1 (Nat.le_trans (by simp) f5.1), fun m hm hs => (f5.2 m (by have := f4.1; simp; omega) (by simp; omega)).trans ((Fr.app (S := [])).2 m (by have := f4.1; omega) (by simp) |>.trans (f4.2 m hm hs))⟩
  have hhl := lt_of_get hh5
  have hel5 := lt_of_get he5
  let P : List PV → Env → Store → Prop := fun xs E Q => ∃ (j : Nat) (EL : List Er) (o8 o9 o10 o11 o12 : Option PV), xs = (List.range' j (ES.length - j)).map (fun (i : Nat) => PV.int (i : Int)) ∧ j ≤ ES.length ∧ E = [some (.fl ns), some (.int st), some (.loc M.length), some (.loc e), some (.loc M3.length), o5, some (.int room), some (.loc M5.length), o8, o9, o10, o11, o12]
    ∧ Q[e]? = some (.lst (ES.map .str)) ∧ Q[M3.length]? = some (.dic (heads HD)) ∧ Q[M5.length]? = some (.lst (EL.map Er.pv)) ∧ EL.length = j ∧ EL.map Er.name = ES.take j ∧ (∀ r ∈ EL, HD.lookup r.name = some r.names.length ∧ r.good (fun f => HD.lookup f)) ∧ Fr [] M Q
  have hLoop := forGo_run (w := none) (step := forStep (ctx T wf k) (.nm 8) b2__law_book) P (fun _ _ _ _ => rfl) (by
    rintro y xs E Q ⟨j, EL, o8, o9, o10, o11, o12, hxs, hj, rfl, g1, g2, g3, g4, g5, g6, g7⟩
    have hjm : j < ES.length := by
      rcases Nat.lt_or_ge j ES.length with h | h
      · exact h
      · have : ES.length - j = 0 := by omega
        rw [this] at hxs; simp at hxs
    obtain ⟨m', hm'⟩ : ∃ m', ES.length - j = m' + 1 := ⟨ES.length - j - 1, by omega⟩
    rw [hm', List.range'_succ, List.map_cons] at hxs
    obtain ⟨rfl, rfl⟩ := List.cons.inj hxs
    have hin : m' = ES.length - (j + 1) := by omega
    obtain ⟨r, p9, p10, p11, p12, Q', s1, s2, s3, s4, s5, s6⟩ := errand_step (wf := wf) (k := k) (ns := ns) (st := st) (t0 := M.length) (o5 := o5) (o8 := o8) (o9' := o9) (o10' := o10) (o11' := o11) (o12' := o12) (by omega) hst hfine (by omega) hHD hHD4 hv4 hjm g1 g2 g3 g4 ⟨by omega, by omega⟩
    refine ⟨_, Q', s1, j + 1, EL ++ [r], _, _, _, _, _, by rw [hin], by omega, rfl, s5.get g1 (by simp; omega), s5.get g2 (by simp; omega), s6, by simp [g4], ?_, ?_, ?_⟩
    · rw [List.map_append, g5, List.take_succ_eq_append_getElem hjm]; simp [s2]
    · intro u hu
      rcases List.mem_append.1 hu with h | h
      · exact g6 u h
      · simp at h; subst h; exact ⟨s3, s4⟩
    · refine ⟨Nat.le_trans g7.1 s5.1, fun m hm hs => ?_⟩
      have := f15.1
      exact (s5.2 m (by have := g7.1; omega) (by simp; omega)).trans (g7.2 m hm hs))
  obtain ⟨E', M6, eL, j, EL, o8, o9, o10, o11, o12, hxs, hj, rfl, g1, g2, g3, g4, g5, g6, g7⟩ := hLoop (rangeOf 0 ES.length) [some (.fl ns), some (.int st), some (.loc M.length), some (.loc e), some (.loc M3.length), o5, some (.int room), some (.loc M5.length), none, none, none, none, none] (M5 ++ [.lst []]) ⟨0, [], none, none, none, none, none, by rw [rangeOf_nat, List.range_eq_range']; rfl, by omega, rfl, app_get he5, app_get hh5, app_new, rfl, by simp, by simp, f15.trans Fr.app⟩
  have hjn : j = ES.length := by
    rcases Nat.lt_or_ge j ES.length with h | h
    · obtain ⟨m', hm'⟩ : ∃ m', ES.length - j = m' + 1 := ⟨ES.length - j - 1, by omega⟩
      rw [hm', List.range'_succ] at hxs; simp at hxs
    · omega
  have hnames : EL.map Er.name = ES := by rw [g5, List.take_of_length_le (by omega)]
  have hhd : hdOf EL = HD := by
    refine List.ext_getElem ?_ fun i h1 h2 => ?_
    · have := congrArg List.length hHD
      simp [hdOf] at this ⊢; omega
    · have hi : i < EL.length := by simpa [hdOf] using h1
      have hr := (g6 EL[i] (List.getElem_mem hi)).1
      have hn1 : EL[i].name = ES[i]'(by omega) := by
        have : (EL.map Er.name)[i]'(by simpa using hi) = ES[i]'(by omega) := by simp only [hnames]
        simpa using this
      have hn2 : HD[i].1 = ES[i]'(by omega) := by
        have : (HD.map (·.1))[i]'(by simpa using h2) = ES[i]'(by omega) := by simp only [hHD]
        simpa using this
      have hlk := lookup_at h2 (by rw [hHD]; exact hfine.1)
      rw [hn2, ← hn1, hr] at hlk
      simp only [hdOf, List.getElem_map]
      exact Prod.ext (by simp [hn1, hn2]) (by simpa using hlk)
  refine ⟨EL, M6, ?_, g7, ⟨by omega, by omega, by rw [hnames]; exact hfine.1, fun r hr => ?_⟩⟩
  · have hn1 : nats [1, 2, 2, 3, 4, 6] = [.int 1, .int 2, .int 2, .int 3, .int 4, .int 6] := rfl
    have hn2 : nats [8, 14, 24, 40] = [.int 8, .int 14, .int 24, .int 40] := rfl
    rw [hn1] at r2 hl hg
    rw [hn2] at r5 hl4 hg4
    have hlen : doBi (M5 ++ [.lst []]) .len [.loc e] = .ok (.int ES.length) (M5 ++ [.lst []]) := by
      rw [doBi_len_lst (app_get he5)]; simp
    have hbE : inBound (ES.length : Int) = true := inBound_nat (by omega)
    have hwk : walked (M3 ++ [.dic []]) (.loc e) = some (ES.map .str, some (e, ES.map .str)) := walked_lst (app_get he3)
    have htup := doBi_tuple_lst g3
    simp [runFn, f__law_book, r1, big, r2, hl, hix, hg, r3, flatPairs, mergeD, hwk, r4, r5, hl4, hix4, hg4, hlen, hbE, eL, htup]
  · have := (g6 r hr).2
    rw [hhd]
    exact this
end Wn
end
section
/-! Q1: shapes, places, plain values that hold no place of the store. -/
namespace Wn
open PySem

/-! values without places of the store, n deep at most -/
inductive Flat : Nat → PV → Prop
  | non {n : Nat} : Flat n .non
  | bl {n : Nat} (b : Bool) : Flat n (.bl b)
  | int {n : Nat} (i : Int) : Flat n (.int i)
  | str {n : Nat} (x : Str) : Flat n (.str x)
  | tup {n : Nat} {xs : List PV} (h : ∀ x ∈ xs, Flat n x) : Flat (n + 1) (.tup xs)
theorem Flat.mono {n m : Nat} {v : PV} (h : Flat n v) : n ≤ m → Flat m v := by
  induction h generalizing m with
  | non => intro _; exact .non
  | bl b => intro _; exact .bl b
  | int i => intro _; exact .int i
  | str x => intro _; exact .str x
  | tup hx ih =>
    intro hm
    obtain ⟨m, rfl⟩ := Nat.exists_eq_add_of_le' (show 1 ≤ m by omega)
    exact .tup fun x hx' => ih x hx' (by omega)
theorem rdL_flat {f : Nat → Option DV} {n : Nat} : ∀ {xs : List PV}, (∀ x ∈ xs, ∃ d, rdW f x = some d ∧ d.deep ≤ n) → ∃ ds, rdW.rdL f xs = some ds ∧ DV.deepL ds ≤ n
  | [], _ => ⟨[], rfl, by simp [DV.deepL]⟩
  | x :: xs, h => by
    obtain ⟨d, h1, h2⟩ := h x (List.mem_cons_self ..)
    obtain ⟨ds, h3, h4⟩ := rdL_flat (xs := xs) fun y hy => h y (List.mem_cons_of_mem _ hy)
    exact ⟨d :: ds, by simp [rdW.rdL, h1, h3], by simp [DV.deepL]; omega⟩
theorem Flat.rdW {f : Nat → Option DV} {n : Nat} {v : PV} (h : Flat n v) : ∃ d, Wn.rdW f v = some d ∧ d.deep ≤ n := by
  induction h with
  | non => exact ⟨_, rfl, by simp [DV.deep]⟩
  | bl b => exact ⟨_, rfl, by simp [DV.deep]⟩
  | int i => exact ⟨_, rfl, by simp [DV.deep]⟩
  | str x => exact ⟨_, rfl, by simp [DV.deep]⟩
  | tup hx ih =>
    obtain ⟨ds, h1, h2⟩ := rdL_flat ih
    exact ⟨.tup ds, by simp [Wn.rdW, h1], by simp [DV.deep]; omega⟩
theorem Flat.rdM {M : Store} {k n : Nat} {v : PV} (h : Flat n v) : ∃ d, Wn.rdM M k v = some d ∧ d.deep ≤ n := by
  cases k with
  | zero => simp only [Wn.rdM]; exact h.rdW
  | succ k => simp only [Wn.rdM]; exact h.rdW
theorem doEq_refl {M : Store} {v : PV} (h : Flat 190 v) : doEq M v v = some true := by
  obtain ⟨d, h1, h2⟩ := h.rdM (M := M) (k := 3)
  simp only [doEq, h1]
  rw [if_pos (by omega)]; simp
theorem mapM_flat {M : Store} {k n : Nat} : ∀ {xs : List PV}, (∀ x ∈ xs, Flat n x) → ∃ ds, xs.mapM (rdM M k) = some ds ∧ DV.deepL ds ≤ n
  | [], _ => ⟨[], rfl, by simp [DV.deepL]⟩
  | x :: xs, h => by
    obtain ⟨d, h1, h2⟩ := (h x (List.mem_cons_self ..)).rdM (M := M) (k := k)
    obtain ⟨ds, h3, h4⟩ := mapM_flat (M := M) (k := k) (xs := xs) fun y hy => h y (List.mem_cons_of_mem _ hy)
    exact ⟨d :: ds, by simp [List.mapM_cons, h1, h3], by simp [DV.deepL]; omega⟩
theorem doEq_lst {M : Store} {a b : Nat} {xs : List PV} (ha : M[a]? = some (.lst xs)) (hb : M[b]? = some (.lst xs)) (h : ∀ x ∈ xs, Flat 100 x) : doEq M (.loc a) (.loc b) = some true := by
  obtain ⟨ds, h1, h2⟩ := mapM_flat (M := M) (k := 2) h
  have e1 : rdM M 3 (.loc a) = some (.lst ds) := by rw [rdM]; simp only [rdW, ha, h1, Option.map_some]
  have e2 : rdM M 3 (.loc b) = some (.lst ds) := by rw [rdM]; simp only [rdW, hb, h1, Option.map_some]
  have h3 : min (DV.lst ds).deep (DV.lst ds).deep ≤ 190 := by
    have : (DV.lst ds).deep = DV.deepL ds + 1 := rfl
    omega
  simp only [doEq, e1, e2]
  rw [if_pos h3]; simp

/-! shapes -/
def Kd.sh : Kd → Nat → Prop
  | .num _, n => n = 0
  | .nam _, n => n = 0
  | .plus, n => n = 2
  | .less, n => n = 2
  | _, _ => True
mutual
def Tm.sh : Tm → Prop
  | .nd k ts => k.sh ts.length ∧ Tm.shs ts
def Tm.shs : List Tm → Prop
  | [] => True
  | t :: ts => t.sh ∧ Tm.shs ts
end
theorem Tm.shs_iff : ∀ {ts : List Tm}, Tm.shs ts ↔ ∀ t ∈ ts, t.sh
  | [] => by simp [Tm.shs]
  | t :: ts => by simp [Tm.shs, Tm.shs_iff (ts := ts)]
theorem Kd.sh_of {H : Str → Option Nat} {k : Kd} {n : Nat} (h : k.due H = some n) : k.sh n := by
  cases k <;> simp_all [Kd.due, Kd.sh] <;> omega
mutual
theorem Tm.sh_of {H : Str → Option Nat} : ∀ {t : Tm} {A : List Str}, t.ok H A → t.sh
  | .nd k ts, A, h => by
    simp only [Tm.ok] at h
    exact ⟨Kd.sh_of h.1, Tm.shs_of h.2.2⟩
theorem Tm.shs_of {H : Str → Option Nat} : ∀ {ts : List Tm} {A : List Str} {k : Kd} {i : Nat}, Tm.oks H A k i ts → Tm.shs ts
  | [], _, _, _, _ => by simp [Tm.shs]
  | t :: ts, A, k, i, h => by
    simp only [Tm.oks] at h
    exact ⟨Tm.sh_of h.1, Tm.shs_of h.2⟩
end
theorem Tm.deep_mem : ∀ {ts : List Tm} {t : Tm}, t ∈ ts → t.deep ≤ Tm.deeps ts
  | u :: ts, t, h => by
    rcases List.mem_cons.1 h with h | h
    · subst h; simp [Tm.deeps]; omega
    · have := Tm.deep_mem h; simp [Tm.deeps]; omega
theorem Tm.size_mem : ∀ {ts : List Tm} {t : Tm}, t ∈ ts → t.size ≤ Tm.sizes ts
  | u :: ts, t, h => by
    rcases List.mem_cons.1 h with h | h
    · subst h; simp [Tm.sizes]
    · have := Tm.size_mem h; simp [Tm.sizes]; omega
theorem Kd.flat {k : Kd} {ps : List PV} {n : Nat} (h : ∀ p ∈ ps, Flat n p) : Flat (n + 2) (k.pv ps) := by
  have h1 : ∀ p ∈ ps, Flat (n + 1) p := fun p hp => (h p hp).mono (by omega)
  have hc : ∀ {x : Str}, ∀ p ∈ (PV.str x :: ps), Flat (n + 1) p := by
    intro x p hp
    rcases List.mem_cons.1 hp with e | e
    · subst e; exact .str _
    · exact h1 p e
  cases k with
  | num m => exact .tup (by intro p hp; simp at hp; rcases hp with e | e <;> subst e; exact .str _; exact .int _)
  | nam m => exact .tup (by intro p hp; simp at hp; rcases hp with e | e <;> subst e; exact .str _; exact .str _)
  | plus => exact .tup hc
  | less => exact .tup hc
  | tell => exact .tup hc
  | iff => exact .tup hc
  | lett x => exact .tup (by
      intro p hp
      rcases List.mem_cons.1 hp with e | e
      · subst e; exact .str _
      · exact hc p e)
  | ask f => exact .tup (by
      intro p hp
      simp at hp
      rcases hp with e | e | e <;> subst e
      · exact .str _
      · exact .str _
      · exact .tup h)
mutual
theorem Tm.flat : ∀ (t : Tm), Flat (2 * t.deep) t.pv
  | .nd k ts => by
    simp only [Tm.pv, Tm.deep]
    exact (Kd.flat (n := 2 * Tm.deeps ts) (Tm.flats ts)).mono (by omega)
theorem Tm.flats : ∀ (ts : List Tm), ∀ p ∈ Tm.pvs ts, Flat (2 * Tm.deeps ts) p
  | [], p, hp => by simp [Tm.pvs] at hp
  | t :: ts, p, hp => by
    simp only [Tm.pvs] at hp
    rcases List.mem_cons.1 hp with e | e
    · subst e; exact (Tm.flat t).mono (by simp [Tm.deeps]; omega)
    · exact (Tm.flats ts p e).mono (by simp [Tm.deeps]; omega)
end

/-! places -/
mutual
def Tm.places : Tm → List (List Nat)
  | .nd _ ts => [] :: Tm.placess 0 ts
def Tm.placess : Nat → List Tm → List (List Nat)
  | _, [] => []
  | i, t :: ts => t.places.map (i :: ·) ++ Tm.placess (i + 1) ts
end
def Tm.parts : Tm → List Tm
  | .nd _ ts => ts
def Tm.at : Tm → List Nat → Option Tm
  | t, [] => some t
  | t, i :: p => match t.parts[i]? with
    | some u => u.at p
    | none => none
theorem Tm.placess_app : ∀ (xs ys : List Tm) (i : Nat), Tm.placess i (xs ++ ys) = Tm.placess i xs ++ Tm.placess (i + xs.length) ys
  | [], ys, i => by simp [Tm.placess]
  | x :: xs, ys, i => by
    simp only [List.cons_append, Tm.placess, Tm.placess_app xs ys (i + 1), List.append_assoc, List.length_cons]
    rw [show i + 1 + xs.length = i + (xs.length + 1) by omega]
mutual
theorem Tm.places_length : ∀ t : Tm, t.places.length = t.size
  | .nd k ts => by simp [Tm.places, Tm.size, Tm.placess_length 0 ts]; omega
theorem Tm.placess_length : ∀ (i : Nat) (ts : List Tm), (Tm.placess i ts).length = Tm.sizes ts
  | _, [] => rfl
  | i, t :: ts => by simp [Tm.placess, Tm.sizes, Tm.places_length t, Tm.placess_length (i + 1) ts]
end
mutual
theorem Tm.at_places : ∀ {t : Tm} {p : List Nat}, p ∈ t.places → ∃ u, t.at p = some u ∧ u.deep ≤ t.deep ∧ u.size ≤ t.size ∧ (t.sh → u.sh) ∧ p.length ≤ t.deep
  | .nd k ts, p, hp => by
    simp only [Tm.places] at hp
    rcases List.mem_cons.1 hp with e | e
    · subst e; exact ⟨_, rfl, Nat.le_refl _, Nat.le_refl _, id, by simp⟩
    · obtain ⟨i, p', u, v, rfl, h1, h2, h3, h4, h5, h6⟩ := Tm.at_placess e
      refine ⟨u, by simp only [Tm.at, Tm.parts, Nat.zero_add, h1, h2], by simp only [Tm.deep]; omega, by simp only [Tm.size]; omega, fun h => h5 h.2, by simp only [Tm.deep, List.length_cons]; omega⟩
theorem Tm.at_placess : ∀ {ts : List Tm} {j : Nat} {p : List Nat}, p ∈ Tm.placess j ts → ∃ i p' u v, p = (j + i) :: p' ∧ ts[i]? = some v ∧ v.at p' = some u ∧ u.deep ≤ Tm.deeps ts ∧ u.size ≤ Tm.sizes ts ∧ (Tm.shs ts → u.sh) ∧ p'.length ≤ Tm.deeps ts
  | [], j, p, hp => by simp [Tm.placess] at hp
  | t :: ts, j, p, hp => by
    simp only [Tm.placess] at hp
    rcases List.mem_append.1 hp with e | e
    · obtain ⟨p', hp', rfl⟩ := List.mem_map.1 e
      obtain ⟨u, h1, h2, h3, h4, h5⟩ := Tm.at_places hp'
      exact ⟨0, p', u, t, by simp, rfl, h1, by simp only [Tm.deeps]; omega, by simp only [Tm.sizes]; omega, fun h => h4 h.1, by simp only [Tm.deeps]; omega⟩
    · obtain ⟨i, p', u, v, rfl, h1, h2, h3, h4, h5, h6⟩ := Tm.at_placess e
      exact ⟨i + 1, p', u, v, by simp; omega, by simpa using h1, h2, by simp only [Tm.deeps]; omega, by simp only [Tm.sizes]; omega, fun h => h5 h.2, by simp only [Tm.deeps]; omega⟩
end
end Wn
end
section
/-! Q2: parts, places, simple ones; printed by Q2.py. -/
namespace Wn
open PySem
theorem cut1 {α : Type} (x : α) (xs : List α) : cut (x :: xs) (some 1) none = xs := by
  have := cut_drop (xs := x :: xs) (n := 1) (by simp)
  simpa using this
theorem cut2 {α : Type} (x y : α) (xs : List α) : cut (x :: y :: xs) (some 2) none = xs := by
  have := cut_drop (xs := x :: y :: xs) (n := 2) (by simp)
  simpa using this
def plc (pre : List PV) (p : List Nat) : PV := .tup (pre ++ nats p)
theorem plc_app (pre : List PV) (i : Nat) (p : List Nat) : plc (pre ++ [.int (i : Int)]) p = plc pre (i :: p) := by simp [plc, nats]
mutual
def Tm.simple : Tm → Bool
  | .nd k ts => match k with
    | .num _ => true
    | .nam _ => true
    | .plus => Tm.simples ts
    | .less => Tm.simples ts
    | _ => false
def Tm.simples : List Tm → Bool
  | [] => true
  | t :: ts => t.simple && Tm.simples ts
end
theorem enumFrom_drop {ts : List Tm} {j : Nat} (h : j < ts.length) : enumFrom j (Tm.pvs (ts.drop j)) = .tup [.int (j : Int), ts[j].pv] :: enumFrom (j + 1) (Tm.pvs (ts.drop (j + 1))) := by
  rw [List.drop_eq_getElem_cons h]; rfl

theorem p_parts {wf k : Nat} (hk : 1 ≤ k) {t : Tm} (ht : t.sh) (M : Store) : (ctx T wf k).call "parts_of" [t.pv] M = .ok (.tup (Tm.pvs t.parts)) M := by
  obtain ⟨k, rfl⟩ := Nat.exists_eq_add_of_le' hk
  rw [call_of lk_parts_of]
  obtain ⟨kd, ts⟩ := t
  cases kd
  case num n =>
    have : ts = [] := List.length_eq_zero_iff.1 ht.1
    subst this
    simp [runFn, f_parts_of, Tm.pv, Kd.pv, Tm.parts, Tm.pvs, big]
  case nam n =>
    have : ts = [] := List.length_eq_zero_iff.1 ht.1
    subst this
    simp [runFn, f_parts_of, Tm.pv, Kd.pv, Tm.parts, Tm.pvs, big]
  all_goals simp [runFn, f_parts_of, Tm.pv, Kd.pv, Tm.parts, cut1, cut2, big]

theorem p_places {wf : Nat} : ∀ (n : Nat) {k : Nat} {t : Tm} {pre : List PV} {M : Store}, t.deep ≤ n → n + 2 ≤ k → t.sh → t.size ≤ 1000 → pre.length + n ≤ 1000 →
    ∃ (L : Nat) (M' : Store), (ctx T wf k).call "places_in" [t.pv, .tup pre] M = .ok (.loc L) M' ∧ M'[L]? = some (.lst (t.places.map (plc pre))) ∧ Fr [] M M' ∧ M.length ≤ L := by
  intro n
  induction n with
  | zero => intro k t pre M hd; cases t; simp [Tm.deep] at hd
  | succ n ih =>
    intro k t pre M hd hk ht hs hp
    obtain ⟨k, rfl⟩ := Nat.exists_eq_add_of_le' (show 1 ≤ k by omega)
    rw [call_of lk_places_in]
    have hpt := p_parts (wf := wf) (k := k) (by omega) ht (M ++ [.lst [.tup pre]])
    obtain ⟨kd, ts⟩ := t
    simp only [Tm.parts] at hpt
    simp only [Tm.deep] at hd
    simp only [Tm.size] at hs
    let P : List PV → Env → Store → Prop := fun xs E Q => ∃ (j : Nat) (o3 o4 : Option PV), xs = enumFrom j (Tm.pvs (ts.drop j)) ∧ j ≤ ts.length ∧ E = [some (Tm.nd kd ts).pv, some (.tup pre), some (.loc M.length), o3, o4] ∧ Q[M.length]? = some (.lst (plc pre [] :: (Tm.placess 0 (ts.take j)).map (plc pre))) ∧ Fr [] M Q
    have hLoop := forGo_run (w := none) (step := forStep (ctx T wf k) (.tup [3, 4]) b1_places_in) P (fun _ _ _ _ => rfl) (by
      rintro x xs E Q ⟨j, o3, o4, hxs, hj, rfl, g1, g2⟩
      have hjs : j < ts.length := by
        rcases Nat.lt_or_ge j ts.length with h | h
        · exact h
        · rw [List.drop_of_length_le h] at hxs; cases hxs
      rw [enumFrom_drop hjs] at hxs
      obtain ⟨rfl, rfl⟩ := List.cons.inj hxs
      have hmem := List.getElem_mem hjs
      have hdj := Tm.deep_mem hmem
      have hsj := Tm.size_mem hmem
      obtain ⟨L, Q1, r1, q1, q2, q3⟩ := ih (k := k) (t := ts[j]) (pre := pre ++ [.int (j : Int)]) (M := Q) (by omega) (by omega) (Tm.shs_iff.1 ht.2 _ hmem) (by omega) (by simp; omega)
      have hQ := lt_of_get g1
      have g1' := q2.get g1 (by simp)
      have hT : ts.take (j + 1) = ts.take j ++ [ts[j]] := List.take_succ_eq_append_getElem hjs
      have hlj : (ts.take j).length = j := by simp; omega
      have hsz : Tm.sizes (ts.take (j + 1)) ≤ Tm.sizes ts := by
        have h1 := Tm.sizes_app (ts.take (j + 1)) (ts.drop (j + 1))
        rw [List.take_append_drop] at h1
        omega
      rw [hT, Tm.sizes_app] at hsz
      simp only [Tm.sizes] at hsz
      have hext := doBm_extend g1' q1 (by simp [Tm.placess_length, Tm.places_length, big]; omega)
      have hok : bmOk Q .extend (.loc M.length) = true := by rw [bmOk_lst g1]; rfl
      have heq : (plc pre [] :: (Tm.placess 0 (ts.take j)).map (plc pre)) ++ ts[j].places.map (plc (pre ++ [.int (j : Int)])) = plc pre [] :: (Tm.placess 0 (ts.take (j + 1))).map (plc pre) := by
        have h9 : ts[j].places.map (plc (pre ++ [.int (j : Int)])) = (ts[j].places.map (j :: ·)).map (plc pre) := by
          simp [List.map_map, Function.comp_def, plc_app]
        rw [h9, hT, Tm.placess_app, hlj]
        simp [Tm.placess]
      rw [heq] at hext
      refine ⟨[some (Tm.nd kd ts).pv, some (.tup pre), some (.loc M.length), some (.int (j : Int)), some ts[j].pv], Q1.set M.length (.lst (plc pre [] :: (Tm.placess 0 (ts.take (j + 1))).map (plc pre))), ?_, j + 1, _, _, rfl, by omega, rfl, set_get g1', ?_⟩
      · have hb : pre.length + 1 ≤ 16777216 := by omega
        simp [forStep, setTg, setTg.setAll, b1_places_in, hok, big, hb, r1, hext]
      · have hq := g2.trans q2
        refine ⟨by have := hq.1; simpa using this, fun m hm hs => ?_⟩
        rw [set_get_ne (by omega)]
        exact hq.2 m hm hs)
    obtain ⟨E', Q, eL, j, o3, o4, hxs, hj, rfl, g1, g2⟩ := hLoop (enumFrom 0 (Tm.pvs ts)) [some (Tm.nd kd ts).pv, some (.tup pre), some (.loc M.length), none, none] (M ++ [.lst [.tup pre]]) ⟨0, none, none, rfl, by omega, rfl, by simp [Tm.placess, plc, nats], Fr.app⟩
    have hjn : ts.length ≤ j := by
      rcases Nat.lt_or_ge j ts.length with h | h
      · rw [enumFrom_drop h] at hxs; cases hxs
      · exact h
    rw [List.take_of_length_le hjn] at g1
    refine ⟨M.length, Q, ?_, by simpa [Tm.places] using g1, g2, Nat.le_refl _⟩
    simp [runFn, f_places_in, big, hpt, eL]

theorem p_simple {wf : Nat} : ∀ (n : Nat) {k : Nat} {t : Tm} {M : Store}, t.deep ≤ n → n ≤ k → t.sh → (ctx T wf k).call "is_simple" [t.pv] M = .ok (.bl t.simple) M := by
  intro n
  induction n with
  | zero => intro k t M hd; cases t; simp [Tm.deep] at hd
  | succ n ih =>
    intro k t M hd hk ht
    obtain ⟨k, rfl⟩ := Nat.exists_eq_add_of_le' (show 1 ≤ k by omega)
    rw [call_of lk_is_simple]
    obtain ⟨kd, ts⟩ := t
    simp only [Tm.deep] at hd
    have hparts : ∀ u ∈ ts, (ctx T wf k).call "is_simple" [u.pv] M = .ok (.bl u.simple) M := fun u hu => ih (by have := Tm.deep_mem hu; omega) (by omega) (Tm.shs_iff.1 ht.2 u hu)
    cases kd
    case plus =>
      obtain ⟨u, v, rfl⟩ := two_of_length ht.1
      have h1 := hparts u (by simp)
      have h2 := hparts v (by simp)
      cases hu : u.simple <;> simp [runFn, f_is_simple, Tm.pv, Kd.pv, Tm.pvs, Tm.simple, Tm.simples, h1, h2, hu, big]
    case less =>
      obtain ⟨u, v, rfl⟩ := two_of_length ht.1
      have h1 := hparts u (by simp)
      have h2 := hparts v (by simp)
      cases hu : u.simple <;> simp [runFn, f_is_simple, Tm.pv, Kd.pv, Tm.pvs, Tm.simple, Tm.simples, h1, h2, hu, big]
    all_goals simp [runFn, f_is_simple, Tm.pv, Kd.pv, Tm.simple, big]

theorem l_parts {wf k : Nat} (hk : 1 ≤ k) {t : Tm} (ht : t.sh) (M : Store) : (ctx T wf k).call "_law_parts" [t.pv] M = .ok (.tup (Tm.pvs t.parts)) M := by
  obtain ⟨k, rfl⟩ := Nat.exists_eq_add_of_le' hk
  rw [call_of lk__law_parts]
  obtain ⟨kd, ts⟩ := t
  cases kd
  case num n =>
    have : ts = [] := List.length_eq_zero_iff.1 ht.1
    subst this
    simp [runFn, f__law_parts, Tm.pv, Kd.pv, Tm.parts, Tm.pvs, big, doIn, anyEq]
  case nam n =>
    have : ts = [] := List.length_eq_zero_iff.1 ht.1
    subst this
    simp [runFn, f__law_parts, Tm.pv, Kd.pv, Tm.parts, Tm.pvs, big, doIn, anyEq]
  all_goals simp [runFn, f__law_parts, Tm.pv, Kd.pv, Tm.parts, cut1, cut2, big, doIn, anyEq]

theorem l_places {wf : Nat} : ∀ (n : Nat) {k : Nat} {t : Tm} {pre : List PV} {M : Store}, t.deep ≤ n → n + 2 ≤ k → t.sh → t.size ≤ 1000 → pre.length + n ≤ 1000 →
    ∃ (L : Nat) (M' : Store), (ctx T wf k).call "_law_places" [t.pv, .tup pre] M = .ok (.loc L) M' ∧ M'[L]? = some (.lst (t.places.map (plc pre))) ∧ Fr [] M M' ∧ M.length ≤ L := by
  intro n
  induction n with
  | zero => intro k t pre M hd; cases t; simp [Tm.deep] at hd
  | succ n ih =>
    intro k t pre M hd hk ht hs hp
    obtain ⟨k, rfl⟩ := Nat.exists_eq_add_of_le' (show 1 ≤ k by omega)
    rw [call_of lk__law_places]
    have hpt := l_parts (wf := wf) (k := k) (by omega) ht (M ++ [.lst [.tup pre]])
    obtain ⟨kd, ts⟩ := t
    simp only [Tm.parts] at hpt
    simp only [Tm.deep] at hd
    simp only [Tm.size] at hs
    let P : List PV → Env → Store → Prop := fun xs E Q => ∃ (j : Nat) (o3 o4 : Option PV), xs = enumFrom j (Tm.pvs (ts.drop j)) ∧ j ≤ ts.length ∧ E = [some (Tm.nd kd ts).pv, some (.tup pre), some (.loc M.length), o3, o4] ∧ Q[M.length]? = some (.lst (plc pre [] :: (Tm.placess 0 (ts.take j)).map (plc pre))) ∧ Fr [] M Q
    have hLoop := forGo_run (w := none) (step := forStep (ctx T wf k) (.tup [3, 4]) b1__law_places) P (fun _ _ _ _ => rfl) (by
      rintro x xs E Q ⟨j, o3, o4, hxs, hj, rfl, g1, g2⟩
      have hjs : j < ts.length := by
        rcases Nat.lt_or_ge j ts.length with h | h
        · exact h
        · rw [List.drop_of_length_le h] at hxs; cases hxs
      rw [enumFrom_drop hjs] at hxs
      obtain ⟨rfl, rfl⟩ := List.cons.inj hxs
      have hmem := List.getElem_mem hjs
      have hdj := Tm.deep_mem hmem
      have hsj := Tm.size_mem hmem
      obtain ⟨L, Q1, r1, q1, q2, q3⟩ := ih (k := k) (t := ts[j]) (pre := pre ++ [.int (j : Int)]) (M := Q) (by omega) (by omega) (Tm.shs_iff.1 ht.2 _ hmem) (by omega) (by simp; omega)
      have hQ := lt_of_get g1
      have g1' := q2.get g1 (by simp)
      have hT : ts.take (j + 1) = ts.take j ++ [ts[j]] := List.take_succ_eq_append_getElem hjs
      have hlj : (ts.take j).length = j := by simp; omega
      have hsz : Tm.sizes (ts.take (j + 1)) ≤ Tm.sizes ts := by
        have h1 := Tm.sizes_app (ts.take (j + 1)) (ts.drop (j + 1))
        rw [List.take_append_drop] at h1
        omega
      rw [hT, Tm.sizes_app] at hsz
      simp only [Tm.sizes] at hsz
      have hext := doBm_extend g1' q1 (by simp [Tm.placess_length, Tm.places_length, big]; omega)
      have hok : bmOk Q .extend (.loc M.length) = true := by rw [bmOk_lst g1]; rfl
      have heq : (plc pre [] :: (Tm.placess 0 (ts.take j)).map (plc pre)) ++ ts[j].places.map (plc (pre ++ [.int (j : Int)])) = plc pre [] :: (Tm.placess 0 (ts.take (j + 1))).map (plc pre) := by
        have h9 : ts[j].places.map (plc (pre ++ [.int (j : Int)])) = (ts[j].places.map (j :: ·)).map (plc pre) := by
          simp [List.map_map, Function.comp_def, plc_app]
        rw [h9, hT, Tm.placess_app, hlj]
        simp [Tm.placess]
      rw [heq] at hext
      refine ⟨[some (Tm.nd kd ts).pv, some (.tup pre), some (.loc M.length), some (.int (j : Int)), some ts[j].pv], Q1.set M.length (.lst (plc pre [] :: (Tm.placess 0 (ts.take (j + 1))).map (plc pre))), ?_, j + 1, _, _, rfl, by omega, rfl, set_get g1', ?_⟩
      · have hb : pre.length + 1 ≤ 16777216 := by omega
        simp [forStep, setTg, setTg.setAll, b1__law_places, hok, big, hb, r1, hext]
      · have hq := g2.trans q2
        refine ⟨by have := hq.1; simpa using this, fun m hm hs => ?_⟩
        rw [set_get_ne (by omega)]
        exact hq.2 m hm hs)
    obtain ⟨E', Q, eL, j, o3, o4, hxs, hj, rfl, g1, g2⟩ := hLoop (enumFrom 0 (Tm.pvs ts)) [some (Tm.nd kd ts).pv, some (.tup pre), some (.loc M.length), none, none] (M ++ [.lst [.tup pre]]) ⟨0, none, none, rfl, by omega, rfl, by simp [Tm.placess, plc, nats], Fr.app⟩
    have hjn : ts.length ≤ j := by
      rcases Nat.lt_or_ge j ts.length with h | h
      · rw [enumFrom_drop h] at hxs; cases hxs
      · exact h
    rw [List.take_of_length_le hjn] at g1
    refine ⟨M.length, Q, ?_, by simpa [Tm.places] using g1, g2, Nat.le_refl _⟩
    simp [runFn, f__law_places, big, hpt, eL]

theorem l_simple {wf : Nat} : ∀ (n : Nat) {k : Nat} {t : Tm} {M : Store}, t.deep ≤ n → n ≤ k → t.sh → (ctx T wf k).call "_law_is_simple" [t.pv] M = .ok (.bl t.simple) M := by
  intro n
  induction n with
  | zero => intro k t M hd; cases t; simp [Tm.deep] at hd
  | succ n ih =>
    intro k t M hd hk ht
    obtain ⟨k, rfl⟩ := Nat.exists_eq_add_of_le' (show 1 ≤ k by omega)
    rw [call_of lk__law_is_simple]
    obtain ⟨kd, ts⟩ := t
    simp only [Tm.deep] at hd
    have hparts : ∀ u ∈ ts, (ctx T wf k).call "_law_is_simple" [u.pv] M = .ok (.bl u.simple) M := fun u hu => ih (by have := Tm.deep_mem hu; omega) (by omega) (Tm.shs_iff.1 ht.2 u hu)
    cases kd
    case plus =>
      obtain ⟨u, v, rfl⟩ := two_of_length ht.1
      have h1 := hparts u (by simp)
      have h2 := hparts v (by simp)
      cases hu : u.simple <;> simp [runFn, f__law_is_simple, Tm.pv, Kd.pv, Tm.pvs, Tm.simple, Tm.simples, h1, h2, hu, big, doIn, anyEq]
    case less =>
      obtain ⟨u, v, rfl⟩ := two_of_length ht.1
      have h1 := hparts u (by simp)
      have h2 := hparts v (by simp)
      cases hu : u.simple <;> simp [runFn, f__law_is_simple, Tm.pv, Kd.pv, Tm.pvs, Tm.simple, Tm.simples, h1, h2, hu, big, doIn, anyEq]
    all_goals simp [runFn, f__law_is_simple, Tm.pv, Kd.pv, Tm.simple, big, doIn, anyEq]
end Wn
end
section
/-! Q3: the term at a place; all places. -/
namespace Wn
open PySem
theorem lcGo_filter {w : Watch} {step : PV → Store → Res (Option PV)} {M : Store} (f : PV → PV) (c : PV → Bool) (hw : w.ok M = true) : ∀ (xs acc : List PV), acc.length + xs.length ≤ big → (∀ x ∈ xs, step x M = .ok (if c x = true then some (f x) else none) M) → lcGo w step xs acc M = .ok (acc ++ (xs.filter c).map f) M
  | [], acc, _, _ => by simp [lcGo, hw]
  | x :: xs, acc, hb, h => by
    have hl : acc.length < big := by simp at hb; omega
    have hx := h x (List.mem_cons_self ..)
    have ht : ∀ y ∈ xs, step y M = .ok (if c y = true then some (f y) else none) M := fun y hy => h y (List.mem_cons_of_mem _ hy)
    cases hc : c x with
    | true =>
      rw [hc] at hx
      simp only [lcGo, hw, hl, decide_true, Bool.and_self, if_true, hx]
      rw [lcGo_filter f c hw xs (acc ++ [f x]) (by simp at hb ⊢; omega) ht]
      simp [hc]
    | false =>
      rw [hc] at hx
      simp only [lcGo, hw, hl, decide_true, Bool.and_self, if_true, hx]
      simp only [Bool.false_eq_true, if_false]
      rw [lcGo_filter f c hw xs acc (by simp at hb ⊢; omega) ht]
      simp [hc]
theorem filter_name : ∀ {EL : List Er} {r : Er}, r ∈ EL → (EL.map Er.name).Nodup → EL.filter (fun u => decide (u.name = r.name)) = [r]
  | u :: EL, r, h, hn => by
    simp only [List.map_cons, List.nodup_cons] at hn
    rcases List.mem_cons.1 h with e | e
    · subst e
      have : EL.filter (fun u => decide (u.name = r.name)) = [] := by
        rw [List.filter_eq_nil_iff]
        intro v hv hc
        exact hn.1 (by simp only [decide_eq_true_eq] at hc; exact hc ▸ List.mem_map.2 ⟨v, hv, rfl⟩)
      simp [this]
    · have hne : ¬ u.name = r.name := fun he => hn.1 (he ▸ List.mem_map.2 ⟨r, e, rfl⟩)
      simp [hne, filter_name e hn.2]

theorem at_cons {v u : Tm} {i : Nat} {p : List Nat} (h : v.at (i :: p) = some u) : ∃ v', v.parts[i]? = some v' ∧ v'.at p = some u := by
  simp only [Tm.at] at h
  cases hp : v.parts[i]? with
  | none => simp [hp] at h
  | some v' => rw [hp] at h; exact ⟨v', rfl, h⟩
theorem sh_part {v v' : Tm} {i : Nat} (h : v.sh) (hp : v.parts[i]? = some v') : v'.sh := by
  obtain ⟨k, ts⟩ := v
  exact Tm.shs_iff.1 h.2 _ (List.mem_of_getElem? hp)
theorem pvs_get {ts : List Tm} {i : Nat} {v : Tm} (h : ts[i]? = some v) : (Tm.pvs ts)[i]? = some v.pv := by
  simp [Tm.pvs_map, h]
theorem lt_of_some {α : Type} {xs : List α} {i : Nat} {v : α} (h : xs[i]? = some v) : i < xs.length := (List.getElem?_eq_some_iff.1 h).1

theorem l_at {wf k : Nat} (hk : 2 ≤ k) {t u : Tm} {p : List Nat} (h : t.at p = some u) (ht : t.sh) (M : Store) : (ctx T wf k).call "_law_at" [t.pv, .tup (nats p)] M = .ok u.pv M := by
  obtain ⟨k, rfl⟩ := Nat.exists_eq_add_of_le' (show 1 ≤ k by omega)
  rw [call_of lk__law_at]
  let P : List PV → Env → Store → Prop := fun xs E Q => ∃ (p' : List Nat) (v : Tm) (o : Option PV), xs = nats p' ∧ E = [some v.pv, some (.tup (nats p)), o] ∧ v.at p' = some u ∧ v.sh ∧ Q = M
  have hLoop := forGo_run (w := none) (step := forStep (ctx T wf k) (.nm 2) b1__law_at) P (fun _ _ _ _ => rfl) (by
    rintro x xs E Q ⟨p', v, o, hxs, rfl, g1, g2, rfl⟩
    cases p' with
    | nil => cases hxs
    | cons i p' =>
      obtain ⟨rfl, rfl⟩ := List.cons.inj hxs
      obtain ⟨v', h1, h2⟩ := at_cons g1
      have hpt := l_parts (wf := wf) (k := k) (by omega) g2 Q
      have hix : ixOf (Tm.pvs v.parts).length (i : Int) = some i := ixOf_nat (by simpa using lt_of_some h1)
      refine ⟨[some v'.pv, some (.tup (nats p)), some (.int (i : Int))], Q, ?_, p', v', _, rfl, rfl, h2, sh_part g2 h1, rfl⟩
      simp only [Tm.pvs_length] at hix
      simp [forStep, setTg, b1__law_at, hpt, hix, pvs_get h1])
  obtain ⟨E', Q, eL, p', v, o, hxs, rfl, g1, g2, rfl⟩ := hLoop (nats p) [some t.pv, some (.tup (nats p)), none] M ⟨p, t, none, rfl, rfl, h, ht, rfl⟩
  cases p' with
  | cons i p' => cases hxs
  | nil =>
    simp only [Tm.at, Option.some.injEq] at g1
    subst g1
    simp [runFn, f__law_at, eL]

theorem p_term_at {wf k : Nat} (hk : 2 ≤ k) {EL : List Er} {r : Er} (hr : r ∈ EL) (hn : (EL.map Er.name).Nodup) (h6 : EL.length ≤ 6) {u : Tm} {p : List Nat} (h : r.body.at p = some u) (ht : r.body.sh) (M : Store) :
    ∃ M', (ctx T wf k).call "term_at" [.tup (EL.map Er.pv), plc [.str r.name] p] M = .ok u.pv M' ∧ Fr [] M M' := by
  obtain ⟨k, rfl⟩ := Nat.exists_eq_add_of_le' (show 1 ≤ k by omega)
  rw [call_of lk_term_at]
  let pl : PV := .tup (.str r.name :: nats p)
  have hlc := lcGo_filter (w := none) (M := M) (step := lcTurn (ctx T wf k) l1_term_at (.nm 3) (.some q1_term_at) [some (.tup (EL.map Er.pv)), some (.tup (.str r.name :: nats p)), none, none, none])
    (fun x => match x with | .tup [_, _, b] => b | x => x) (fun x => match x with | .tup (.str a :: _) => decide (a = r.name) | _ => false) rfl (EL.map Er.pv) [] (by simp [big]; omega) (by
      intro x hx
      obtain ⟨v, hv, rfl⟩ := List.mem_map.1 hx
      by_cases hc : v.name = r.name
      · simp [lcTurn, setTg, l1_term_at, q1_term_at, Er.pv, hc]
      · simp [lcTurn, setTg, l1_term_at, q1_term_at, Er.pv, hc])
  have hfil : ((EL.map Er.pv).filter (fun x => match x with | .tup (.str a :: _) => decide (a = r.name) | _ => false)).map (fun x => match x with | .tup [_, _, b] => b | x => x) = [r.body.pv] := by
    rw [List.filter_map, List.map_map]
    have : (fun x => match x with | PV.tup (.str a :: _) => decide (a = r.name) | _ => false) ∘ Er.pv = fun u : Er => decide (u.name = r.name) := by
      funext v; simp [Er.pv]
    rw [this, filter_name hr hn]
    simp [Er.pv]
  rw [hfil] at hlc
  simp only [List.nil_append] at hlc
  let N : Store := M ++ [.lst [r.body.pv]]
  let P : List PV → Env → Store → Prop := fun xs E Q => ∃ (p' : List Nat) (v : Tm) (o : Option PV), xs = nats p' ∧ E = [some (.tup (EL.map Er.pv)), some (.tup (.str r.name :: nats p)), some v.pv, none, o] ∧ v.at p' = some u ∧ v.sh ∧ Q = N
  have hLoop := forGo_run (w := none) (step := forStep (ctx T wf k) (.nm 4) b1_term_at) P (fun _ _ _ _ => rfl) (by
    rintro x xs E Q ⟨p', v, o, hxs, rfl, g1, g2, rfl⟩
    cases p' with
    | nil => cases hxs
    | cons i p' =>
      obtain ⟨rfl, rfl⟩ := List.cons.inj hxs
      obtain ⟨v', h1, h2⟩ := at_cons g1
      have hpt := p_parts (wf := wf) (k := k) (by omega) g2 N
      have hix : ixOf (Tm.pvs v.parts).length (i : Int) = some i := ixOf_nat (by simpa using lt_of_some h1)
      refine ⟨[some (.tup (EL.map Er.pv)), some (.tup (.str r.name :: nats p)), some v'.pv, none, some (.int (i : Int))], N, ?_, p', v', _, rfl, rfl, h2, sh_part g2 h1, rfl⟩
      simp only [Tm.pvs_length] at hix
      simp [forStep, setTg, b1_term_at, hpt, hix, pvs_get h1])
  obtain ⟨E', Q, eL, p', v, o, hxs, rfl, g1, g2, rfl⟩ := hLoop (nats p) [some (.tup (EL.map Er.pv)), some (.tup (.str r.name :: nats p)), some r.body.pv, none, none] N ⟨p, r.body, none, rfl, rfl, h, ht, rfl⟩
  cases p' with
  | cons i p' => cases hxs
  | nil =>
    simp only [Tm.at, Option.some.injEq] at g1
    subst g1
    refine ⟨N, ?_, Fr.app⟩
    simp only [N] at eL
    simp [runFn, f_term_at, plc, hlc, cut1, eL, N]

def dueOf (EL : List Er) : List PV := EL.flatMap fun r => r.body.places.map (plc [.str r.name])
theorem due_app (xs ys : List Er) : dueOf (xs ++ ys) = dueOf xs ++ dueOf ys := by simp [dueOf]
theorem due_length : ∀ {EL : List Er}, (∀ r ∈ EL, r.body.size ≤ 40) → (dueOf EL).length ≤ 40 * EL.length
  | [], _ => by simp [dueOf]
  | r :: EL, h => by
    have h1 := due_length (EL := EL) fun u hu => h u (List.mem_cons_of_mem _ hu)
    have h2 := h r (List.mem_cons_self ..)
    have : dueOf (r :: EL) = r.body.places.map (plc [.str r.name]) ++ dueOf EL := rfl
    rw [this]; simp [Tm.places_length]; omega

theorem p_all_places {wf k : Nat} (hk : 20 ≤ k) {EL : List Er} (h6 : EL.length ≤ 6) (hs : ∀ r ∈ EL, r.body.sh ∧ r.body.size ≤ 40 ∧ r.body.deep ≤ 13) (M : Store) :
    ∃ (L : Nat) (M' : Store), (ctx T wf k).call "all_places" [.tup (EL.map Er.pv)] M = .ok (.loc L) M' ∧ M'[L]? = some (.lst (dueOf EL)) ∧ Fr [] M M' ∧ M.length ≤ L := by
  obtain ⟨k, rfl⟩ := Nat.exists_eq_add_of_le' (show 1 ≤ k by omega)
  rw [call_of lk_all_places]
  let P : List PV → Env → Store → Prop := fun xs E Q => ∃ (xr dn : List Er) (o2 o3 o4 : Option PV), xs = xr.map Er.pv ∧ EL = dn ++ xr ∧ E = [some (.tup (EL.map Er.pv)), some (.loc M.length), o2, o3, o4] ∧ Q[M.length]? = some (.lst (dueOf dn)) ∧ Fr [] M Q
  have hLoop := forGo_run (w := none) (step := forStep (ctx T wf k) (.tup [2, 3, 4]) b1_all_places) P (fun _ _ _ _ => rfl) (by
    rintro x xs E Q ⟨xr, dn, o2, o3, o4, hxs, hEL, rfl, g1, g2⟩
    cases xr with
    | nil => cases hxs
    | cons r xr =>
      obtain ⟨rfl, rfl⟩ := List.cons.inj hxs
      have hrE : r ∈ EL := by rw [hEL]; simp
      obtain ⟨h1, h2, h3⟩ := hs r hrE
      obtain ⟨L, Q1, r1, q1, q2, q3⟩ := p_places (wf := wf) 13 (k := k) (t := r.body) (pre := [.str r.name]) (M := Q) h3 (by omega) h1 (by omega) (by simp)
      have g1' := q2.get g1 (by simp)
      have hQ := lt_of_get g1
      have hdl : (dueOf dn).length ≤ 240 := by
        have := due_length (EL := dn) (fun u hu => (hs u (by rw [hEL]; exact List.mem_append_left _ hu)).2.1)
        have h8 : dn.length ≤ 6 := by have := congrArg List.length hEL; simp at this; omega
        omega
      have hext := doBm_extend g1' q1 (by simp [Tm.places_length, big]; omega)
      have hok : bmOk Q .extend (.loc M.length) = true := by rw [bmOk_lst g1]; rfl
      have hdn : dueOf (dn ++ [r]) = dueOf dn ++ r.body.places.map (plc [.str r.name]) := by
        rw [due_app]; simp [dueOf]
      rw [← hdn] at hext
      refine ⟨[some (.tup (EL.map Er.pv)), some (.loc M.length), some (.str r.name), some (.tup (r.names.map .str)), some r.body.pv], Q1.set M.length (.lst (dueOf (dn ++ [r]))), ?_, xr, dn ++ [r], _, _, _, rfl, by rw [hEL]; simp, rfl, set_get g1', ?_⟩
      · simp [forStep, setTg, setTg.setAll, Er.pv, b1_all_places, hok, big, r1, hext]
      · have hq := g2.trans q2
        refine ⟨by have := hq.1; simpa using this, fun m hm hs => ?_⟩
        rw [set_get_ne (by omega)]
        exact hq.2 m hm hs)
  obtain ⟨E', Q, eL, xr, dn, o2, o3, o4, hxs, hEL, rfl, g1, g2⟩ := hLoop (EL.map Er.pv) [some (.tup (EL.map Er.pv)), some (.loc M.length), none, none, none] (M ++ [.lst []]) ⟨EL, [], none, none, none, rfl, rfl, rfl, by simp [dueOf], Fr.app⟩
  cases xr with
  | cons r xr => cases hxs
  | nil =>
    simp at hEL
    subst hEL
    refine ⟨M.length, Q, ?_, g1, g2, Nat.le_refl _⟩
    simp [runFn, f_all_places, big, eL]
end Wn
end
section
/-! Q4: words told apart; the words of lets. -/
namespace Wn
open PySem
theorem ctx_glo (T : Tbl) (wf k : Nat) (x : Str) : (ctx T wf k).glo x = T.glo.lookup x := by cases k <;> rfl
theorem glo_L {wf k : Nat} : (ctx T wf k).glo "LETTERS" = some (.str "abcdefghijklmnopqrstuvwxyz") := by
  rw [ctx_glo]; simp [T, theGlo, List.lookup]
theorem glo_W {wf k : Nat} : (ctx T wf k).glo "WORDS_OUT" = some (.tup (outs.map .str)) := by
  rw [ctx_glo]; simp [T, theGlo, List.lookup, outs]
@[simp] theorem doIs_bl (a b : Bool) : doIs (.bl a) (.bl b) = some (decide (a = b)) := by cases a <;> cases b <;> rfl
theorem anyEq_strs (M : Store) (x : Str) : ∀ ys : List Str, anyEq M (.str x) (ys.map .str) = some (ys.contains x)
  | [] => rfl
  | y :: ys => by
    simp only [List.map_cons, anyEq, doEq_str, anyEq_strs M x ys, List.contains_cons]
    congr 1
    rw [Bool.eq_iff_iff]
    simp only [Bool.or_eq_true, decide_eq_true_eq, beq_iff_eq]
    exact or_congr_left ⟨Eq.symm, Eq.symm⟩
theorem bools_map {α : Type} (f : α → Bool) : ∀ xs : List α, bools (xs.map fun x => PV.bl (f x)) = some (xs.map f)
  | [] => rfl
  | x :: xs => by simp [bools, bools_map f xs]
theorem mem_abc (c : Nat) : decide (c ∈ (List.range 26).map (97 + ·)) = (decide (97 ≤ c) && decide (c ≤ 122)) := by
  rw [Bool.eq_iff_iff]
  simp only [decide_eq_true_eq, List.mem_map, List.mem_range, Bool.and_eq_true]
  constructor
  · rintro ⟨a, h, rfl⟩; omega
  · intro h; exact ⟨c - 97, by omega, by omega⟩

theorem is_word_str {wf k : Nat} (hk : 1 ≤ k) {x : Str} (hx : x.length ≤ 1000) (M : Store) : ∃ M', (ctx T wf k).call "is_word" [.str x] M = .ok (.bl (isW x)) M' ∧ Fr [] M M' := by
  obtain ⟨k, rfl⟩ := Nat.exists_eq_add_of_le' hk
  rw [call_of lk_is_word]
  have hxl : x.cps.toList.length = x.length := by simp [Str.length]
  have hb : x.length ≤ 16777216 := by omega
  have hty : isTy M (.str x) .str = some true := rfl
  by_cases h1 : 1 ≤ x.length
  · by_cases h8 : x.length ≤ 8
    · let L : List PV := x.cps.toList.map fun c => PV.bl (decide (97 ≤ c) && decide (c ≤ 122))
      have hlc := lcGo_map (w := none) (M := M) (step := lcTurn (ctx T wf k) l1_is_word (.nm 1) .none [some (.str x), none]) (fun z => match z with | .str y => .bl (decide (97 ≤ y.cps.toList.getD 0 0) && decide (y.cps.toList.getD 0 0 ≤ 122)) | z => z) rfl (signs x) [] (by simp [signs, big]; simp [Str.length] at hb; omega) (by
        intro z hz
        obtain ⟨c, hc, rfl⟩ := List.mem_map.1 hz
        have hm := mem_abc c
        rw [← abc] at hm
        have hin : doIn M (.str ⟨#[c]⟩) (.str "abcdefghijklmnopqrstuvwxyz") = some (decide (97 ≤ c) && decide (c ≤ 122)) := by
          rw [← hm]; rfl
        simp [lcTurn, setTg, l1_is_word, glo_L, hin])
      have hmap : (signs x).map (fun z => match z with | .str y => .bl (decide (97 ≤ y.cps.toList.getD 0 0) && decide (y.cps.toList.getD 0 0 ≤ 122)) | z => z) = L := by
        simp [signs, L, List.map_map, Function.comp_def]
      rw [hmap] at hlc
      simp only [List.nil_append] at hlc
      have hall : doBi (M ++ [.lst L]) .all [.loc M.length] = .ok (.bl (x.cps.toList.all fun c => decide (97 ≤ c) && decide (c ≤ 122))) (M ++ [.lst L]) := by
        have hbo := bools_map (fun c : Nat => decide (97 ≤ c) && decide (c ≤ 122)) x.cps.toList
        simp only [doBi, app_new, L, hbo]
        simp [List.all_map, Function.comp_def]
      have hout : doIn (M ++ [.lst L]) (.str x) (.tup (outs.map .str)) = some (outs.contains x) := anyEq_strs _ _ _
      refine ⟨M ++ [.lst L], ?_, Fr.app⟩
      have hW : isW x = ((x.cps.toList.all fun c => decide (97 ≤ c) && decide (c ≤ 122)) && !(outs.contains x)) := by
        simp [isW, hxl, h1, h8]
      rw [hW]
      generalize (x.cps.toList.all fun c => decide (97 ≤ c) && decide (c ≤ 122)) = b at hall
      have h1' : (1 : Int) ≤ x.length := by omega
      have h8' : (x.length : Int) ≤ 8 := by omega
      cases b <;> simp [runFn, f_is_word, hty, big, hb, h1', h8', hlc, hall, glo_W, hout]
    · have hW : isW x = false := by simp [isW, hxl, h8]
      refine ⟨M, ?_, Fr.refl _ _⟩
      have h1' : (1 : Int) ≤ x.length := by omega
      have h8' : ¬ (x.length : Int) ≤ 8 := by omega
      simp [runFn, f_is_word, hty, big, hb, h1', h8', hW]
  · have hW : isW x = false := by simp [isW, hxl, h1]
    refine ⟨M, ?_, Fr.refl _ _⟩
    have h1' : ¬ (1 : Int) ≤ x.length := by omega
    simp [runFn, f_is_word, hty, big, hb, h1', hW]
theorem is_word_other {wf k : Nat} (hk : 1 ≤ k) {v : PV} {M : Store} (hv : isTy M v .str = some false) : (ctx T wf k).call "is_word" [v] M = .ok (.bl false) M := by
  obtain ⟨k, rfl⟩ := Nat.exists_eq_add_of_le' hk
  rw [call_of lk_is_word]
  simp [runFn, f_is_word, hv]

theorem l_lets {wf : Nat} : ∀ (n : Nat) {k : Nat} {t : Tm} {M : Store}, t.deep ≤ n → n + 2 ≤ k → t.sh → t.lets.length ≤ 1000 →
    ∃ (L : Nat) (M' : Store), (ctx T wf k).call "_law_lets" [t.pv] M = .ok (.loc L) M' ∧ M'[L]? = some (.lst (t.lets.map .str)) ∧ Fr [] M M' ∧ M.length ≤ L := by
  intro n
  induction n with
  | zero => intro k t M hd; cases t; simp [Tm.deep] at hd
  | succ n ih =>
    intro k t M hd hk ht hs
    obtain ⟨k, rfl⟩ := Nat.exists_eq_add_of_le' (show 1 ≤ k by omega)
    rw [call_of lk__law_lets]
    obtain ⟨kd, ts⟩ := t
    have hpt := l_parts (wf := wf) (k := k) (by omega) ht (M ++ [.lst (kd.lets.map .str)])
    simp only [Tm.parts] at hpt
    simp only [Tm.deep] at hd
    simp only [Tm.lets, List.length_append] at hs
    have hpd : ∀ {j : Nat} (h : j < ts.length), Tm.pvs (ts.drop j) = ts[j].pv :: Tm.pvs (ts.drop (j + 1)) := by
      intro j h; rw [List.drop_eq_getElem_cons h]; rfl
    let P : List PV → Env → Store → Prop := fun xs E Q => ∃ (j : Nat) (o : Option PV), xs = Tm.pvs (ts.drop j) ∧ j ≤ ts.length ∧ E = [some (Tm.nd kd ts).pv, some (.loc M.length), o] ∧ Q[M.length]? = some (.lst ((kd.lets ++ Tm.letss (ts.take j)).map .str)) ∧ Fr [] M Q
    have hLoop := forGo_run (w := none) (step := forStep (ctx T wf k) (.nm 2) b1__law_lets) P (fun _ _ _ _ => rfl) (by
      rintro x xs E Q ⟨j, o, hxs, hj, rfl, g1, g2⟩
      have hjs : j < ts.length := by
        rcases Nat.lt_or_ge j ts.length with h | h
        · exact h
        · rw [List.drop_of_length_le h] at hxs; cases hxs
      rw [hpd hjs] at hxs
      obtain ⟨rfl, rfl⟩ := List.cons.inj hxs
      have hmem := List.getElem_mem hjs
      have hdj := Tm.deep_mem hmem
      have hT : ts.take (j + 1) = ts.take j ++ [ts[j]] := List.take_succ_eq_append_getElem hjs
      have hsz : (Tm.letss (ts.take j)).length + ts[j].lets.length ≤ (Tm.letss ts).length := by
        have h1 := Tm.letss_app (ts.take (j + 1)) (ts.drop (j + 1))
        rw [List.take_append_drop, hT, Tm.letss_app] at h1
        have h2 := congrArg List.length h1
        simp [Tm.letss] at h2
        omega
      obtain ⟨L, Q1, r1, q1, q2, q3⟩ := ih (k := k) (t := ts[j]) (M := Q) (by omega) (by omega) (Tm.shs_iff.1 ht.2 _ hmem) (by omega)
      have g1' := q2.get g1 (by simp)
      have hQ := lt_of_get g1
      have hext := doBm_extend g1' q1 (by simp [big]; omega)
      have hok : bmOk Q .extend (.loc M.length) = true := by rw [bmOk_lst g1]; rfl
      have heq : (kd.lets ++ Tm.letss (ts.take j)).map PV.str ++ ts[j].lets.map .str = (kd.lets ++ Tm.letss (ts.take (j + 1))).map .str := by
        rw [hT, Tm.letss_app]; simp [Tm.letss]
      rw [heq] at hext
      refine ⟨[some (Tm.nd kd ts).pv, some (.loc M.length), some ts[j].pv], Q1.set M.length (.lst ((kd.lets ++ Tm.letss (ts.take (j + 1))).map .str)), ?_, j + 1, _, rfl, by omega, rfl, set_get g1', ?_⟩
      · simp [forStep, setTg, b1__law_lets, hok, r1, hext, -List.map_append]
      · have hq := g2.trans q2
        refine ⟨by have := hq.1; simpa using this, fun m hm hs => ?_⟩
        rw [set_get_ne (by omega)]
        exact hq.2 m hm hs)
    obtain ⟨E', Q, eL, j, o, hxs, hj, rfl, g1, g2⟩ := hLoop (Tm.pvs ts) [some (Tm.nd kd ts).pv, some (.loc M.length), none] (M ++ [.lst (kd.lets.map .str)]) ⟨0, none, rfl, by omega, rfl, by simp [Tm.letss], Fr.app⟩
    have hjn : ts.length ≤ j := by
      rcases Nat.lt_or_ge j ts.length with h | h
      · rw [hpd h] at hxs; cases hxs
      · exact h
    rw [List.take_of_length_le hjn] at g1
    refine ⟨M.length, Q, ?_, by simpa [Tm.lets] using g1, g2, Nat.le_refl _⟩
    have hp0 : (Tm.nd kd ts).pv = kd.pv (Tm.pvs ts) := rfl
    rw [hp0] at hpt eL
    cases kd <;> simp [runFn, f__law_lets, Tm.pv, Kd.pv, Kd.lets, big] at hpt eL ⊢ <;> simp [hpt, eL]
end Wn
end
section
/-! Q5: the words of a book, and things that are none. -/
namespace Wn
open PySem
theorem app_at (Q : Store) (xs : List MO) (i : Nat) : (Q ++ xs)[Q.length + i]? = xs[i]? := by
  rw [List.getElem?_append_right (by omega)]; congr 1; omega
theorem app_at0 (Q : Store) (xs : List MO) : (Q ++ xs)[Q.length]? = xs[0]? := app_at Q xs 0
theorem isW_len {x : Str} (h : isW x = true) : x.length ≤ 1000 := by
  simp only [isW, Bool.and_eq_true, decide_eq_true_eq] at h
  have : x.cps.toList.length = x.length := by simp [Str.length]
  omega

theorem words_loop {wf k : Nat} (hk : 20 ≤ k) {EL : List Er} (hs : ∀ r ∈ EL, r.body.sh ∧ r.body.deep ≤ 13 ∧ r.body.lets.length ≤ 1000 ∧ r.names.length ≤ 1000 ∧ isW r.name = true ∧ (∀ x ∈ r.names, isW x = true) ∧ (∀ x ∈ r.body.lets, isW x = true)) (B : PV) (M : Store) :
    ∃ (o1 o2 o3 o4 : Option PV) (M' : Store), forGo none (forStep (ctx T wf k) (.tup [1, 2, 3]) b2__law_words_right) (EL.map Er.pv) [some B, none, none, none, none, none, none, none] M = .ok (.nx [some B, o1, o2, o3, o4, none, none, none]) M' ∧ Fr [] M M' := by
  let P : List PV → Env → Store → Prop := fun xs E Q => ∃ (xr : List Er) (o1 o2 o3 o4 : Option PV), xs = xr.map Er.pv ∧ (∀ r ∈ xr, r ∈ EL) ∧ E = [some B, o1, o2, o3, o4, none, none, none] ∧ Fr [] M Q
  have hLoop := forGo_run (w := none) (step := forStep (ctx T wf k) (.tup [1, 2, 3]) b2__law_words_right) P (fun _ _ _ _ => rfl) (by
    rintro x xs E Q ⟨xr, o1, o2, o3, o4, hxs, hsub, rfl, g1⟩
    cases xr with
    | nil => cases hxs
    | cons r xr =>
      obtain ⟨rfl, rfl⟩ := List.cons.inj hxs
      obtain ⟨h1, h2, h3, h4, h5, h6, h7⟩ := hs r (hsub r (List.mem_cons_self ..))
      obtain ⟨L, Q1, r1, q1, q2, q3⟩ := l_lets (wf := wf) 13 (k := k) (t := r.body) (M := Q) h2 (by omega) h1 h3
      have htup := doBi_tuple_lst q1
      let E0 : Option PV → Env := fun o => [some B, some (.str r.name), some (.tup (r.names.map .str)), some r.body.pv, o, none, none, none]
      let P2 : List PV → Env → Store → Prop := fun ys E N => ∃ (zs : List Str) (o : Option PV), ys = zs.map .str ∧ (∀ z ∈ zs, isW z = true) ∧ E = E0 o ∧ Fr [] Q1 N
      have hL2 := forGo_run (w := none) (step := forStep (ctx T wf k) (.nm 4) b1__law_words_right) P2 (fun _ _ _ _ => rfl) (by
        rintro y ys E N ⟨zs, o, hys, hz, rfl, f⟩
        cases zs with
        | nil => cases hys
        | cons z zs =>
          obtain ⟨rfl, rfl⟩ := List.cons.inj hys
          have hzW := hz z (List.mem_cons_self ..)
          obtain ⟨N1, e1, f1⟩ := is_word_str (wf := wf) (k := k) (by omega) (isW_len hzW) N
          rw [hzW] at e1
          refine ⟨E0 (some (.str z)), N1, ?_, zs, _, rfl, fun w hw => hz w (List.mem_cons_of_mem _ hw), rfl, f.trans f1⟩
          simp [forStep, setTg, b1__law_words_right, E0, e1])
      obtain ⟨E', N, eL, zs, o, hys, hz, rfl, f⟩ := hL2 ((r.name :: (r.names ++ r.body.lets)).map .str) (E0 o4) Q1 ⟨_, o4, rfl, by
        intro z hz
        simp at hz
        rcases hz with e | e | e
        · subst e; exact h5
        · exact h6 z e
        · exact h7 z e, rfl, Fr.refl _ _⟩
      refine ⟨E0 o, N, ?_, xr, _, _, _, _, rfl, fun u hu => hsub u (List.mem_cons_of_mem _ hu), rfl, g1.trans (q2.trans f)⟩
      simp only [E0, List.map_cons, List.map_append] at eL
      have hb1 : 1 + r.names.length ≤ 16777216 := by omega
      have hb2 : 1 + r.names.length + r.body.lets.length ≤ 16777216 := by omega
      have hb3 : r.names.length + 1 + r.body.lets.length ≤ 16777216 := by omega
      simp [forStep, setTg, setTg.setAll, Er.pv, b2__law_words_right, big, hb1, r1, htup, hb2, hb3, eL, E0])
  obtain ⟨E', Q, eL, xr, o1, o2, o3, o4, hxs, _, rfl, g⟩ := hLoop (EL.map Er.pv) [some B, none, none, none, none, none, none, none] M ⟨EL, none, none, none, none, rfl, fun _ h => h, rfl, Fr.refl _ _⟩
  exact ⟨o1, o2, o3, o4, Q, eL, g⟩

def bad1 : List Str := ["let", "be", "in", "tell", "if", "then", "else", "home", "", "A", "aB", "a1", "a b", "abcdefghi"]
def bad2 : List Str := ["a-b"]
def bad3 (p : Nat) : List PV := [.str " a", .str "a\n", .int 3, .non, .bl true, .tup [.str "a"], .loc p, .loc (p + 1), .tup [], .str "a_"]
def goods : List Str := ["a", "abcdefgh", "lets", "post", "give", "to", "as", "ho", "z"]
def bad4 : List Str := [" a", "a\n", "a_"]
theorem bads_no : (bad1 ++ bad2 ++ bad4).all (fun x => !(isW x) && decide (x.length ≤ 1000)) = true := by decide +kernel
theorem goods_yes : goods.all (fun x => isW x) = true := by decide +kernel

theorem words_right {wf k : Nat} (hk : 21 ≤ k) {EL : List Er} (hs : ∀ r ∈ EL, r.body.sh ∧ r.body.deep ≤ 13 ∧ r.body.lets.length ≤ 1000 ∧ r.names.length ≤ 1000 ∧ isW r.name = true ∧ (∀ x ∈ r.names, isW x = true) ∧ (∀ x ∈ r.body.lets, isW x = true)) (M : Store) :
    ∃ M', (ctx T wf k).call "_law_words_right" [.tup (EL.map Er.pv)] M = .ok (.bl true) M' := by
  obtain ⟨k, rfl⟩ := Nat.exists_eq_add_of_le' (show 1 ≤ k by omega)
  rw [call_of lk__law_words_right]
  obtain ⟨o1, o2, o3, o4, Q, e1, f1⟩ := words_loop (wf := wf) (k := k) (by omega) hs (.tup (EL.map Er.pv)) M
  let big7 : List MO := [.lst (bad1.map .str), .lst (bad2.map .str), .lst ((bad1 ++ bad2).map .str), .lst [.str "a"], .dic [], .lst (bad3 (Q.length + 3)), .lst ((bad1 ++ bad2).map .str ++ bad3 (Q.length + 3))]
  let N : Store := Q ++ big7
  have hN3 : N[Q.length + 3]? = some (.lst [.str "a"]) := by simp only [N]; rw [app_at]; rfl
  have hN4 : N[Q.length + 3 + 1]? = some (.dic []) := by simp only [N]; rw [Nat.add_assoc, app_at]; rfl
  have hN6 : N[Q.length + 6]? = some (.lst ((bad1 ++ bad2).map .str ++ bad3 (Q.length + 3))) := by simp only [N]; rw [app_at]; rfl
  let all : List PV := (bad1 ++ bad2).map .str ++ bad3 (Q.length + 3)
  let E : Env := [some (.tup (EL.map Er.pv)), o1, o2, o3, o4, some (.loc (Q.length + 6)), none, none]
  let P : List PV → List PV → Store → Prop := fun xs acc R => acc = [] ∧ (∀ x ∈ xs, x ∈ all) ∧ Fr [] N R
  have hno := List.all_eq_true.1 bads_no
  have hbad : ∀ x ∈ all, ∀ R, Fr [] N R → ∃ R', (ctx T wf k).call "is_word" [x] R = .ok (.bl false) R' ∧ Fr [] R R' := by
    intro x hx R fR
    have hstr : ∀ z : Str, z ∈ bad1 ++ bad2 ++ bad4 → ∃ R', (ctx T wf k).call "is_word" [.str z] R = .ok (.bl false) R' ∧ Fr [] R R' := by
      intro z hz
      have h := hno z hz
      simp only [Bool.and_eq_true, Bool.not_eq_true', decide_eq_true_eq] at h
      obtain ⟨R', e, f⟩ := is_word_str (wf := wf) (k := k) (by omega) h.2 R
      rw [h.1] at e
      exact ⟨R', e, f⟩
    simp only [all] at hx
    rcases List.mem_append.1 hx with hx | hx
    · obtain ⟨z, hz, rfl⟩ := List.mem_map.1 hx
      exact hstr z (List.mem_append_left _ hz)
    · simp only [bad3, List.mem_cons, List.not_mem_nil, or_false] at hx
      rcases hx with e | e | e | e | e | e | e | e | e | e <;> subst e
      · exact hstr _ (by simp [bad4])
      · exact hstr _ (by simp [bad4])
      · exact ⟨R, is_word_other (by omega) rfl, Fr.refl _ _⟩
      · exact ⟨R, is_word_other (by omega) rfl, Fr.refl _ _⟩
      · exact ⟨R, is_word_other (by omega) rfl, Fr.refl _ _⟩
      · exact ⟨R, is_word_other (by omega) rfl, Fr.refl _ _⟩
      · exact ⟨R, is_word_other (by omega) (by simp only [isTy, fR.get hN3 (by simp)]; rfl), Fr.refl _ _⟩
      · exact ⟨R, is_word_other (by omega) (by simp only [isTy, fR.get hN4 (by simp)]; rfl), Fr.refl _ _⟩
      · exact ⟨R, is_word_other (by omega) rfl, Fr.refl _ _⟩
      · exact hstr _ (by simp [bad4])
  have hLoop := lcGo_run (w := some (Q.length + 6, all)) (step := lcTurn (ctx T wf k) l1__law_words_right (.nm 6) (.some q1__law_words_right) E) P
    (by rintro xs acc R ⟨_, _, f⟩; have := f.get hN6 (by simp); simp [Watch.ok, this, all])
    (by rintro x xs acc R ⟨rfl, _, _⟩; simp [big])
    (by
      rintro x xs acc R ⟨rfl, hx, f⟩
      obtain ⟨R', e, f'⟩ := hbad x (hx x (List.mem_cons_self ..)) R f
      refine .inr ⟨R', ?_, rfl, fun y hy => hx y (List.mem_cons_of_mem _ hy), f.trans f'⟩
      simp [lcTurn, setTg, q1__law_words_right, E, e])
  obtain ⟨ys, R, e2, hys, _, f2⟩ := hLoop all [] N ⟨rfl, fun _ h => h, Fr.refl _ _⟩
  subst hys
  have hemp : doEq (R ++ [.lst [], .lst []]) (.loc R.length) (.loc (R.length + 1)) = some true := by
    rw [doEq_nil (xs := []) (ds := []) (by rw [app_at0]; rfl) (by rw [app_at]; rfl) rfl]; rfl
  -- the good ones
  let N2 : Store := R ++ [.lst [], .lst [], .lst (goods.map .str)]
  have hg2 : N2[R.length + 2]? = some (.lst (goods.map .str)) := by simp only [N2]; rw [app_at]; rfl
  let E2 : Env := [some (.tup (EL.map Er.pv)), o1, o2, o3, o4, some (.loc (Q.length + 6)), none, some (.loc (R.length + 2))]
  let P2 : List PV → List PV → Store → Prop := fun xs acc S => (∃ zs : List Str, xs = zs.map .str ∧ (∀ z ∈ zs, z ∈ goods) ∧ acc.length + zs.length = 9) ∧ (∀ y ∈ acc, y = .bl true) ∧ Fr [] N2 S
  have hyes := List.all_eq_true.1 goods_yes
  have hLoop2 := lcGo_run (w := some (R.length + 2, goods.map .str)) (step := lcTurn (ctx T wf k) l2__law_words_right (.nm 4) .none E2) P2
    (by rintro xs acc S ⟨_, _, f⟩; have := f.get hg2 (by simp); simp [Watch.ok, this])
    (by rintro x xs acc S ⟨⟨zs, _, _, hl⟩, _, _⟩; simp [big]; omega)
    (by
      rintro x xs acc S ⟨⟨zs, hxs, hz, hl⟩, hacc, f⟩
      cases zs with
      | nil => cases hxs
      | cons z zs =>
        obtain ⟨rfl, rfl⟩ := List.cons.inj hxs
        have hzW := hyes z (hz z (List.mem_cons_self ..))
        obtain ⟨S', e, f'⟩ := is_word_str (wf := wf) (k := k) (by omega) (isW_len hzW) S
        rw [hzW] at e
        refine .inl ⟨.bl true, S', ?_, ⟨zs, rfl, fun y hy => hz y (List.mem_cons_of_mem _ hy), by simp at hl ⊢; omega⟩, ?_, f.trans f'⟩
        · simp [lcTurn, setTg, l2__law_words_right, E2, e]
        · intro y hy
          rcases List.mem_append.1 hy with h | h
          · exact hacc y h
          · simpa using h)
  obtain ⟨ys, S, e3, ⟨zs, hzs, _, _⟩, hall, f3⟩ := hLoop2 (goods.map .str) [] N2 ⟨⟨goods, rfl, fun _ h => h, rfl⟩, by simp, Fr.refl _ _⟩
  have hbo : ∀ ys : List PV, (∀ y ∈ ys, y = .bl true) → ∃ bs, bools ys = some bs ∧ bs.all id = true := by
    intro ys
    induction ys with
    | nil => intro _; exact ⟨[], rfl, rfl⟩
    | cons y ys ih =>
      intro h
      obtain ⟨bs, h1, h2⟩ := ih fun z hz => h z (List.mem_cons_of_mem _ hz)
      have := h y (List.mem_cons_self ..)
      subst this
      exact ⟨true :: bs, by simp [bools, h1], by simpa using h2⟩
  obtain ⟨bs, hb1, hb2⟩ := hbo ys hall
  have hfin : doBi (S ++ [.lst ys]) .all [.loc S.length] = .ok (.bl true) (S ++ [.lst ys]) := by
    simp only [doBi, app_new, hb1, hb2]
  refine ⟨S ++ [.lst ys], ?_⟩
  have a1 : doBin (Q ++ [.lst (bad1.map .str), .lst (bad2.map .str)]) .add (.loc Q.length) (.loc (Q.length + 1)) = .ok (.loc (Q.length + 2)) (Q ++ [.lst (bad1.map .str), .lst (bad2.map .str), .lst ((bad1 ++ bad2).map .str)]) := by
    rw [doBin_add_loc (xs := bad1.map .str) (ys := bad2.map .str) (by rw [app_at0]; rfl) (by rw [app_at]; rfl) (by decide)]
    simp
  have a2 : doBin (Q ++ [.lst (bad1.map .str), .lst (bad2.map .str), .lst ((bad1 ++ bad2).map .str), .lst [.str "a"], .dic [], .lst (bad3 (Q.length + 3))]) .add (.loc (Q.length + 2)) (.loc (Q.length + 5)) = .ok (.loc (Q.length + 6)) N := by
    rw [doBin_add_loc (xs := (bad1 ++ bad2).map .str) (ys := bad3 (Q.length + 3)) (by rw [app_at]; rfl) (by rw [app_at]; rfl) (by simp [bad1, bad2, bad3, big])]
    simp [N, big7]
  have hwk : walked N (.loc (Q.length + 6)) = some (all, some (Q.length + 6, all)) := walked_lst hN6
  have hwk2 : walked N2 (.loc (R.length + 2)) = some (goods.map .str, some (R.length + 2, goods.map .str)) := walked_lst hg2
  simp only [bad1, bad2, bad3, goods, List.map_cons, List.map_nil, List.cons_append, List.nil_append, N2, E, E2] at a1 a2 hwk2 e2 e3
  simp [runFn, f__law_words_right, e1, big, a1, flatPairs, mergeD, a2, hwk, e2, hemp, hwk2, e3, hfin]
end Wn
end
section
/-! P02: the law, plainly. -/
namespace Wn
open PySem
theorem mergeD_new : ∀ (ps acc : List (PV × PV)), (acc.map (·.1) ++ ps.map (·.1)).Nodup → mergeD acc ps = acc ++ ps
  | [], acc, _ => by simp [mergeD]
  | (k, v) :: ps, acc, h => by
    have hk : k ∉ acc.map (·.1) := by
      intro hm
      exact (List.nodup_append.1 h).2.2 k hm k (by simp) rfl
    have hno : ¬ (acc.any fun p => decide (p.1 = k)) = true := by
      intro ha
      rw [List.any_eq_true] at ha
      obtain ⟨p, hp, he⟩ := ha
      simp only [decide_eq_true_eq] at he
      exact hk (he ▸ List.mem_map.2 ⟨p, hp, rfl⟩)
    have hput : putD k v acc = acc ++ [(k, v)] := by simp only [putD]; rw [if_neg hno]
    simp only [mergeD, hput]
    rw [mergeD_new ps (acc ++ [(k, v)]) (by simpa using h)]
    simp
def bodiesOf (EL : List Er) : List (PV × PV) := EL.map fun r => (.str r.name, r.body.pv)
theorem pairs_bodies : ∀ EL : List Er, pairs (EL.map fun r => PV.tup [.str r.name, r.body.pv]) = some (bodiesOf EL)
  | [] => rfl
  | r :: EL => by simp [pairs, pairs_bodies EL, bodiesOf]
theorem nodup_strs : ∀ {l : List Str}, l.Nodup → (l.map PV.str).Nodup
  | [], _ => List.nodup_nil
  | x :: l, h => by
    rw [List.nodup_cons] at h
    rw [List.map_cons, List.nodup_cons]
    refine ⟨fun hm => ?_, nodup_strs h.2⟩
    obtain ⟨y, hy, e⟩ := List.mem_map.1 hm
    injection e with e
    exact h.1 (e ▸ hy)
theorem bodies_nodup {EL : List Er} (h : (EL.map Er.name).Nodup) : ((bodiesOf EL).map (·.1)).Nodup := by
  have : (bodiesOf EL).map (·.1) = (EL.map Er.name).map PV.str := by simp [bodiesOf]
  rw [this]
  exact nodup_strs h
theorem bodies_lookup : ∀ {EL : List Er} {r : Er}, r ∈ EL → (EL.map Er.name).Nodup → (bodiesOf EL).lookup (.str r.name) = some r.body.pv
  | u :: EL, r, h, hn => by
    simp only [List.map_cons, List.nodup_cons] at hn
    simp only [bodiesOf, List.map_cons, List.lookup_cons, str_beq]
    rcases List.mem_cons.1 h with e | e
    · subst e; simp
    · have hne : (r.name == u.name) = false := by
        simp only [beq_eq_false_iff_ne]
        intro he; exact hn.1 (he ▸ List.mem_map.2 ⟨r, e, rfl⟩)
      rw [hne]
      exact bodies_lookup e hn.2
theorem plc_flat (x : Str) (p : List Nat) : Flat 100 (plc [.str x] p) := by
  refine (Flat.tup (n := 0) ?_).mono (by omega)
  intro y hy
  rcases List.mem_append.1 hy with h | h
  · simp at h; subst h; exact .str _
  · obtain ⟨i, _, rfl⟩ := List.mem_map.1 h
    exact .int _
theorem due_mem {EL : List Er} {x : PV} (h : x ∈ dueOf EL) : ∃ r ∈ EL, ∃ p ∈ r.body.places, x = plc [.str r.name] p := by
  simp only [dueOf, List.mem_flatMap, List.mem_map] at h
  obtain ⟨r, hr, p, hp, rfl⟩ := h
  exact ⟨r, hr, p, hp, rfl⟩
@[simp] theorem isTy_tup (M : Store) (xs : List PV) : isTy M (.tup xs) .tuple = some true := rfl
@[simp] theorem isTy_bl (M : Store) (b : Bool) : isTy M (.bl b) .bool = some true := rfl
theorem isTy_lst {M : Store} {n : Nat} {xs : List PV} (h : M[n]? = some (.lst xs)) : isTy M (.loc n) .list = some true := by simp [isTy, h]

/-- a book as it is made, in short -/
structure Plain (EL : List Er) : Prop where
  n6 : EL.length ≤ 6
  nd : (EL.map Er.name).Nodup
  each : ∀ r ∈ EL, r.body.sh ∧ r.body.size ≤ 40 ∧ r.body.deep ≤ 13

theorem due_loop {wf k : Nat} (hk : 20 ≤ k) {EL : List Er} (hP : Plain EL) {s : PV} {M : Store} :
    ∃ (o3 o4 o5 : Option PV) (M' : Store), forGo none (forStep (ctx T wf k) (.tup [3, 4, 5]) b1_law) (EL.map Er.pv) [some s, some (.tup (EL.map Er.pv)), some (.loc M.length), none, none, none, none, none, none, none, none, none, none] (M ++ [MO.lst []])
      = .ok (.nx [some s, some (.tup (EL.map Er.pv)), some (.loc M.length), o3, o4, o5, none, none, none, none, none, none, none]) M' ∧ M'[M.length]? = some (.lst (dueOf EL)) := by
  let P : List PV → Env → Store → Prop := fun xs E Q => ∃ (xr dn : List Er) (o3 o4 o5 : Option PV), xs = xr.map Er.pv ∧ EL = dn ++ xr ∧ E = [some s, some (.tup (EL.map Er.pv)), some (.loc M.length), o3, o4, o5, none, none, none, none, none, none, none] ∧ Q[M.length]? = some (.lst (dueOf dn))
  have hLoop := forGo_run (w := none) (step := forStep (ctx T wf k) (.tup [3, 4, 5]) b1_law) P (fun _ _ _ _ => rfl) (by
    rintro x xs E Q ⟨xr, dn, o3, o4, o5, hxs, hEL, rfl, g1⟩
    cases xr with
    | nil => cases hxs
    | cons r xr =>
      obtain ⟨rfl, rfl⟩ := List.cons.inj hxs
      have hrE : r ∈ EL := by rw [hEL]; simp
      obtain ⟨h1, h2, h3⟩ := hP.each r hrE
      obtain ⟨L, Q1, r1, q1, q2, q3⟩ := l_places (wf := wf) 13 (k := k) (t := r.body) (pre := []) (M := Q) h3 (by omega) h1 (by omega) (by simp)
      have g1' := q2.get g1 (by simp)
      have hdl : (dueOf dn).length ≤ 240 := by
        have := due_length (EL := dn) (fun u hu => (hP.each u (by rw [hEL]; exact List.mem_append_left _ hu)).2.1)
        have h8 : dn.length ≤ 6 := by
          have h9 := congrArg List.length hEL
          have h10 := hP.n6
          simp at h9; omega
        omega
      have hlc := lcGo_map (w := some (L, r.body.places.map (plc []))) (M := Q1) (step := lcTurn (ctx T wf k) l1_law (.nm 6) .none [some s, some (.tup (EL.map Er.pv)), some (.loc M.length), some (.str r.name), some (.tup (r.names.map .str)), some r.body.pv, none, none, none, none, none, none, none]) (fun x => match x with | .tup ys => .tup (.str r.name :: ys) | x => x) (by simp [Watch.ok, q1]) (r.body.places.map (plc [])) [] (by simp [big, Tm.places_length]; omega) (by
        intro x hx
        obtain ⟨p, hp, rfl⟩ := List.mem_map.1 hx
        obtain ⟨_, _, _, _, _, hpl⟩ := Tm.at_places hp
        have hb : 1 + p.length ≤ 16777216 := by omega
        simp [lcTurn, setTg, l1_law, plc, big, hb])
      have hmap : (r.body.places.map (plc [])).map (fun x => match x with | .tup ys => .tup (.str r.name :: ys) | x => x) = r.body.places.map (plc [.str r.name]) := by
        simp [List.map_map, Function.comp_def, plc]
      rw [hmap] at hlc
      simp only [List.nil_append] at hlc
      have hwk := walked_lst q1
      have hext := doBm_extend (M := Q1 ++ [.lst (r.body.places.map (plc [.str r.name]))]) (app_get g1') app_new (by simp [Tm.places_length, big]; omega)
      have hok : bmOk Q .extend (.loc M.length) = true := by rw [bmOk_lst g1]; rfl
      have hdn : dueOf (dn ++ [r]) = dueOf dn ++ r.body.places.map (plc [.str r.name]) := by
        rw [due_app]; simp [dueOf]
      rw [← hdn] at hext
      refine ⟨[some s, some (.tup (EL.map Er.pv)), some (.loc M.length), some (.str r.name), some (.tup (r.names.map .str)), some r.body.pv, none, none, none, none, none, none, none], (Q1 ++ [MO.lst (r.body.places.map (plc [.str r.name]))]).set M.length (.lst (dueOf (dn ++ [r]))), ?_, xr, dn ++ [r], _, _, _, rfl, by rw [hEL]; simp, rfl, set_get (app_get g1')⟩
      simp [forStep, setTg, setTg.setAll, Er.pv, b1_law, hok, big, r1, hwk] at hlc hext ⊢
      simp [hlc, hext])
  obtain ⟨E', Q, eL, xr, dn, o3, o4, o5, hxs, hEL, rfl, g1⟩ := hLoop (EL.map Er.pv) [some s, some (.tup (EL.map Er.pv)), some (.loc M.length), none, none, none, none, none, none, none, none, none, none] (M ++ [.lst []]) ⟨EL, [], none, none, none, rfl, rfl, rfl, by simp [dueOf]⟩
  cases xr with
  | cons r xr => cases hxs
  | nil =>
    simp only [List.append_nil] at hEL
    rw [← hEL] at g1
    exact ⟨o3, o4, o5, Q, eL, g1⟩

theorem turn_loop {wf k : Nat} (hk : 21 ≤ k) {EL : List Er} (hP : Plain EL) {s : PV} {D : Nat} {o3 o4 o5 : Option PV} {M : Store} (hD : M[D]? = some (.lst (dueOf EL))) (xs : List PV) :
    ∃ (o7 o8 : Option PV) (M' : Store), forGo none (forStep (ctx T wf k) (.nm 7) b2_law) xs [some s, some (.tup (EL.map Er.pv)), some (.loc D), o3, o4, o5, none, none, none, none, none, none, none] M
      = .ok (.nx [some s, some (.tup (EL.map Er.pv)), some (.loc D), o3, o4, o5, none, o7, o8, none, none, none, none]) M' ∧ M'[D]? = some (.lst (dueOf EL)) := by
  let P : List PV → Env → Store → Prop := fun xs E Q => ∃ (o7 o8 : Option PV), E = [some s, some (.tup (EL.map Er.pv)), some (.loc D), o3, o4, o5, none, o7, o8, none, none, none, none] ∧ Q[D]? = some (.lst (dueOf EL))
  have hLoop := forGo_run (w := none) (step := forStep (ctx T wf k) (.nm 7) b2_law) P (fun _ _ _ _ => rfl) (by
    rintro x xs E Q ⟨o7, o8, rfl, g1⟩
    obtain ⟨L, Q1, r1, q1, q2, q3⟩ := p_all_places (wf := wf) (k := k) (by omega) hP.n6 hP.each Q
    have g2 := q2.get g1 (by simp)
    have hDl := lt_of_get g1
    have heq := doEq_lst q1 g2 (by
      intro y hy
      obtain ⟨r, _, p, _, rfl⟩ := due_mem hy
      exact plc_flat _ _)
    have hty := isTy_lst q1
    have hcl := doBm_clear q1
    have hok : bmOk Q1 .clear (.loc L) = true := by rw [bmOk_lst q1]; rfl
    refine ⟨[some s, some (.tup (EL.map Er.pv)), some (.loc D), o3, o4, o5, none, some x, some (.loc L), none, none, none, none], Q1.set L (.lst []), ?_, _, _, rfl, by rw [set_get_ne (by omega)]; exact g2⟩
    simp [forStep, setTg, b2_law, r1, hty, heq, hok, hcl])
  obtain ⟨E', Q, eL, o7, o8, rfl, g⟩ := hLoop xs [some s, some (.tup (EL.map Er.pv)), some (.loc D), o3, o4, o5, none, none, none, none, none, none, none] M ⟨none, none, rfl, hD⟩
  exact ⟨o7, o8, Q, eL, g⟩

theorem place_loop {wf k : Nat} (hk : 21 ≤ k) {EL : List Er} (hP : Plain EL) {s : PV} {D B : Nat} {o3 o4 o5 o7 o8 : Option PV} {M : Store} (hD : M[D]? = some (.lst (dueOf EL))) (hB : M[B]? = some (.dic (bodiesOf EL))) :
    ∃ (E' : Env) (M' : Store), forGo (some (D, dueOf EL)) (forStep (ctx T wf k) (.nm 6) b3_law) (dueOf EL) [some s, some (.tup (EL.map Er.pv)), some (.loc D), o3, o4, o5, none, o7, o8, some (.loc B), none, none, none] M
      = .ok (.nx E') M' ∧ E'[1]? = some (some (.tup (EL.map Er.pv))) := by
  let P : List PV → Env → Store → Prop := fun xs E Q => ∃ (o6 o11 o12 : Option PV), (∀ x ∈ xs, x ∈ dueOf EL) ∧ E = [some s, some (.tup (EL.map Er.pv)), some (.loc D), o3, o4, o5, o6, o7, o8, some (.loc B), none, o11, o12] ∧ Fr [] M Q
  have hLoop := forGo_run (w := some (D, dueOf EL)) (step := forStep (ctx T wf k) (.nm 6) b3_law) P
    (by rintro xs E Q ⟨_, _, _, _, _, f⟩; have := f.get hD (by simp); simp [Watch.ok, this])
    (by
      rintro x xs E Q ⟨o6, o11, o12, hx, rfl, f⟩
      obtain ⟨r, hr, p, hp, rfl⟩ := due_mem (hx x (List.mem_cons_self ..))
      obtain ⟨h1, h2, h3⟩ := hP.each r hr
      obtain ⟨u, ha, hud, hus, hush, hpl⟩ := Tm.at_places hp
      have hu := hush h1
      have hBQ := f.get hB (by simp)
      have hlk := bodies_lookup hr hP.nd
      have hat := l_at (wf := wf) (k := k) (by omega) ha h1 Q
      have hsi := p_simple (wf := wf) 13 (k := k) (t := u) (M := Q) (by omega) (by omega) hu
      obtain ⟨Q1, r1, f1⟩ := p_term_at (wf := wf) (k := k) (by omega) hr hP.nd hP.n6 ha h1 Q
      have heq1 := doEq_refl (M := Q1) ((Tm.flat u).mono (show 2 * u.deep ≤ 190 by omega))
      have hpp := p_parts (wf := wf) (k := k) (by omega) hu Q1
      have hlp := l_parts (wf := wf) (k := k) (by omega) hu Q1
      have hfl : Flat 190 (.tup (Tm.pvs u.parts)) := by
        obtain ⟨kd, ts⟩ := u
        refine (Flat.tup (n := 2 * Tm.deeps ts) (Tm.flats ts)).mono ?_
        simp only [Tm.deep] at hud; omega
      have heq2 := doEq_refl (M := Q1) hfl
      have hsl := l_simple (wf := wf) 13 (k := k) (t := u) (M := Q1) (by omega) (by omega) hu
      have heq3 := doEq_refl (M := Q1) (Flat.bl (n := 190) u.simple)
      refine ⟨[some s, some (.tup (EL.map Er.pv)), some (.loc D), o3, o4, o5, some (plc [.str r.name] p), o7, o8, some (.loc B), none, some u.pv, some (.bl u.simple)], Q1, ?_, _, _, _, fun y hy => hx y (List.mem_cons_of_mem _ hy), rfl, f.trans f1⟩
      simp only [plc, List.cons_append, List.nil_append] at r1
      simp [forStep, setTg, b3_law, plc, hBQ, hlk, cut1, hat, hsi, r1, heq1, hpp, hlp, heq2, hsl, heq3])
  obtain ⟨E', Q, eL, o6, o11, o12, _, rfl, f⟩ := hLoop (dueOf EL) [some s, some (.tup (EL.map Er.pv)), some (.loc D), o3, o4, o5, none, o7, o8, some (.loc B), none, none, none] M ⟨none, none, none, fun _ h => h, rfl, Fr.refl _ _⟩
  exact ⟨_, Q, eL, rfl⟩

theorem lets_len : ∀ n : Nat, ∀ t : Tm, t.size ≤ n → t.lets.length ≤ n := by
  intro n t h
  have : t.lets.length ≤ t.size := by
    have key : (∀ t : Tm, t.lets.length ≤ t.size) := by
      intro t
      exact Tm.rec (motive_1 := fun t => t.lets.length ≤ t.size) (motive_2 := fun ts => (Tm.letss ts).length ≤ Tm.sizes ts)
        (fun k ts ih => by
          have hk : k.lets.length ≤ 1 := by cases k <;> simp [Kd.lets]
          simp only [Tm.lets, Tm.size, List.length_append]; omega)
        (by simp [Tm.letss, Tm.sizes])
        (fun t ts h1 h2 => by simp only [Tm.letss, Tm.sizes, List.length_append]; omega) t
    exact key t
  omega

theorem pure_law0 : ∀ ns : List Int, ns.length ≤ 63 → ∃ M', calls T 100000 (60 + 1) "law" [.fl ns] [] = .ok (.bl true) M' := by
  intro ns _
  show ∃ M', (ctx T 100000 (60 + 1)).call "law" [.fl ns] [] = _
  rw [call_of lk_law]
  obtain ⟨EL, M1, r1, f1, hM⟩ := book (wf := 100000) (k := 60) (by omega) ns 0 (by omega) []
  have hP : Plain EL := ⟨hM.n6, hM.nd, fun r hr => by
    obtain ⟨_, _, _, _, _, h6, h7, h8⟩ := hM.each r hr
    exact ⟨Tm.sh_of h6, h7, h8⟩⟩
  obtain ⟨o3, o4, o5, M2, r2, hD2⟩ := due_loop (wf := 100000) (k := 60) (by omega) hP (s := .fl ns) (M := M1)
  obtain ⟨o7, o8, M3, r3, hD3⟩ := turn_loop (wf := 100000) (k := 60) (by omega) hP (s := .fl ns) (o3 := o3) (o4 := o4) (o5 := o5) hD2 (rangeOf 0 2)
  have hlc := lcGo_map (w := none) (M := M3) (step := lcTurn (ctx T 100000 60) l2_law (.nm 10) .none [some (.fl ns), some (.tup (EL.map Er.pv)), some (.loc M1.length), o3, o4, o5, none, o7, o8, none, none, none, none]) (fun x => match x with | .tup [a, _, b] => .tup [a, b] | x => x) rfl (EL.map Er.pv) [] (by have := hM.n6; simp [big]; omega) (by
    intro x hx
    obtain ⟨r, _, rfl⟩ := List.mem_map.1 hx
    simp [lcTurn, setTg, l2_law, Er.pv, big])
  have hmap : (EL.map Er.pv).map (fun x => match x with | .tup [a, _, b] => .tup [a, b] | x => x) = EL.map fun r => PV.tup [.str r.name, r.body.pv] := by
    simp [List.map_map, Function.comp_def, Er.pv]
  rw [hmap] at hlc
  simp only [List.nil_append] at hlc
  let M4 : Store := M3 ++ [.lst (EL.map fun r => PV.tup [.str r.name, r.body.pv])] ++ [.dic (bodiesOf EL)]
  have hdic : doBi (M3 ++ [.lst (EL.map fun r => PV.tup [.str r.name, r.body.pv])]) .dict [.loc M3.length] = .ok (.loc (M3.length + 1)) M4 := by
    simp only [doBi, app_new, pairs_bodies]
    rw [mergeD_new _ _ (by simpa using bodies_nodup hM.nd)]
    simp [M4]
  have hB4 : M4[M3.length + 1]? = some (.dic (bodiesOf EL)) := by
    have : M3.length + 1 = (M3 ++ [MO.lst (EL.map fun r => PV.tup [.str r.name, r.body.pv])]).length := by simp
    simp only [M4]; rw [this]; exact app_new
  obtain ⟨E', M5, r5, hE'⟩ := place_loop (wf := 100000) (k := 60) (by omega) hP (s := .fl ns) (o3 := o3) (o4 := o4) (o5 := o5) (o7 := o7) (o8 := o8) (M := M4) (app_get (app_get hD3)) hB4
  obtain ⟨M6, r6⟩ := words_right (wf := 100000) (k := 60) (EL := EL) (by omega) (fun r hr => by
    obtain ⟨h1, h2, h3, h4, h5, h6, h7, h8⟩ := hM.each r hr
    exact ⟨Tm.sh_of h6, h8, lets_len 1000 _ (by omega), by omega, h1, h2, h5⟩) M5
  refine ⟨M6, ?_⟩
  have r1 : (ctx T 100000 60).call "_law_book" [.fl ns, .int 0] [] = .ok (.tup (EL.map Er.pv)) M1 := r1
  have hb2 : inBound 2 = true := rfl
  have hwk : walked M4 (.loc M1.length) = some (dueOf EL, some (M1.length, dueOf EL)) := walked_lst (app_get (app_get hD3))
  simp [runFn, f_law, r1, big, r2, hb2, r3, hlc, hdic, hwk, r5, hE', r6]
end Wn
end
section
namespace Wn
open PySem PySem.Spec PyProof.Rows L2
def top (i : Nat) : Stmt := PySem.Challenge.pw_whatnext_k02_places_and_terms.main.body.getD i (.Pass ⟨0, 0, 0, 0⟩)
def ds : List Df := [⟨"is_word", f_is_word, top 3⟩, ⟨"parts_of", f_parts_of, top 4⟩, ⟨"is_simple", f_is_simple, top 5⟩, ⟨"places_in", f_places_in, top 6⟩, ⟨"all_places", f_all_places, top 7⟩, ⟨"term_at", f_term_at, top 8⟩, ⟨"_law_cell_at", f__law_cell_at, top 10⟩, ⟨"_law_tape", f__law_tape, top 11⟩, ⟨"_law_digit", f__law_digit, top 12⟩, ⟨"_law_words", f__law_words, top 13⟩, ⟨"_law_number", f__law_number, top 14⟩, ⟨"_law_leaf", f__law_leaf, top 15⟩, ⟨"_law_shares", f__law_shares, top 16⟩, ⟨"_law_less_one", f__law_less_one, top 17⟩, ⟨"_law_ask", f__law_ask, top 18⟩, ⟨"_law_term", f__law_term, top 19⟩, ⟨"_law_body", f__law_body, top 20⟩, ⟨"_law_book", f__law_book, top 21⟩, ⟨"_law_parts", f__law_parts, top 22⟩, ⟨"_law_places", f__law_places, top 23⟩, ⟨"_law_at", f__law_at, top 24⟩, ⟨"_law_lets", f__law_lets, top 25⟩, ⟨"_law_is_simple", f__law_is_simple, top 26⟩, ⟨"_law_words_right", f__law_words_right, top 27⟩, ⟨"law", f_law, top 28⟩]
def loose0 : List PySem.Str := ["LETTERS", "WORDS_OUT", "is_word", "parts_of", "is_simple", "places_in", "all_places", "term_at", "_law_cell_at", "_law_tape", "_law_digit", "_law_words", "_law_number", "_law_leaf", "_law_shares", "_law_less_one", "_law_ask", "_law_term", "_law_body", "_law_book", "_law_parts", "_law_places", "_law_at", "_law_lets", "_law_is_simple", "_law_words_right"]
def loose : List PySem.Str := loose0
theorem ok_all : ds.all (fun a => a.ok T) = true := by decide +kernel
theorem nd_all : (ds.map (·.name)).Nodup := by decide +kernel
abbrev R : PySem.W.OpenRow := PySem.W.OpenLaw.row PySem.Challenge.rw_whatnext_k02_places_and_terms
abbrev hk : PySem.W.Hook := hookW 4 ds theGlo
def ob (s : PySem.W.SharedT) : AlW := obsWG 4 ds theGlo (HandSHeadRun.getT s)
theorem ob_eq (s : PySem.W.SharedT) : ob s = hk.obs s.abs := obsWG_eq (HandSHeadRun.getT_eq s)
theorem run (w : World) : HandSHeadRun.RunEq R (PySem.W.view R.prog [28]) hk ob 3000 loose w := by
  intro os
  kernel_rfl
end Wn
end
section
namespace Wn
open PySem
theorem pure_law : ∀ ns : List Int, ns.length ≤ 63 → Slim ns → ∃ M', calls T 100000 (60 + 1) "law" [.fl ns] [] = .ok (.bl true) M' :=
  fun ns h _ => pure_law0 ns h
end Wn
end
open PySem PySem.W PySem.Calls PyProof.Rows
theorem PySem.Challenge.cw_whatnext_k02_places_and_terms_holds : PySem.Challenge.rw_whatnext_k02_places_and_terms.Holds := by
  w_on; o_law
  refine HandSHeadRun.head_any (r := OpenLaw.row PySem.Challenge.rw_whatnext_k02_places_and_terms) (q := view (OpenLaw.row PySem.Challenge.rw_whatnext_k02_places_and_terms).prog [28]) (H := Wn.hk) (ob := Wn.ob) (M := 3000) (loose := Wn.loose) (d := HandSHeadRun.topDef (OpenLaw.row PySem.Challenge.rw_whatnext_k02_places_and_terms).prog 28) (kwd := []) Wn.ob_eq
    (by kernel_rfl) (fun s => by kernel_rfl) Wn.run (by kernel_rfl) (by kernel_rfl) (by kernel_rfl) (by rfl) (by first | assumption | decide +kernel) (by decide +kernel) ⟨rfl, rfl, rfl, rfl, rfl, by decide +kernel⟩ ?hw ?hc
  case hw => w_witness2
  case hc =>
    refine Wn.walk_end (l := PySem.Challenge.rw_whatnext_k02_places_and_terms) (most := 63) (k := 60 + 1) (x := "script") (cx := fun w => L2.CX (PySem.Challenge.rw_whatnext_k02_places_and_terms).prog w) rfl (by decide) (by kernel_rfl) ⟨rfl, by decide, by decide⟩ ?F (fun w H s e s' z => Wn.noCX H s e s' z)
    intro w mg fa h Y G hmg0
    obtain ⟨K, KX, c⟩ := Y
    have hmg : mg ("law" : PySem.Str) = some (.ref fa) := by
      have e : (HandSHeadRun.topDef (OpenLaw.row PySem.Challenge.rw_whatnext_k02_places_and_terms).prog 28).name = ("law" : PySem.Str) := by kernel_rfl
      rw [← e]
      exact hmg0
    obtain ⟨fd, hb, hF⟩ := Wn.law_end (l := PySem.Challenge.rw_whatnext_k02_places_and_terms) (w := w) (T := Wn.T) (wf := 100000) (k := 60) (a := ⟨"law", Wn.f_law, Wn.top 28⟩) (x := "script") KX G hmg c rfl rfl Wn.nd_all Wn.ok_all (by simp [Wn.ds]) rfl rfl
    exact ⟨K, fd, _, KX, hb, Wn.law_sp Wn.pure_law, hF⟩
